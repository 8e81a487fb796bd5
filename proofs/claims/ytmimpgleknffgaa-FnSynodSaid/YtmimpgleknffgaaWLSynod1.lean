/- Contracts of the functions that FnSynod reaches: what each returns. Conditions: those that each theorem states. -/
import Derived.Test.YtmimpgleknffgaaWLSynod
namespace Go.V.T
open Go Go.V Go.RowKit
set_option maxRecDepth 100000
set_option linter.unusedVariables false
set_option linter.unusedSimpArgs false
theorem w_spec_Prepare (a : GAcceptor) (n : Int) (ha : bAcceptor a) : Fn Pr n_spec_Prepare [aGAcceptor a, .int .i64 (fun _ => n)] (.tup [aGAcceptor (prepareA a n), .bo (prepareOk a n)]) := by
  cases hv : prepareOk a n
  · rw [prepareA, if_neg (by simp [hv])]
    refine k_spec_Prepare.fn (by kernel_rfl) ?_
    conv => arg 4; cbv
    repeat' first
      | (refine Sat.cmp (fun h => ?_) (fun h => ?_) <;> simp only [Cmp.holds] at h <;> (conv => arg 4; cbv))
      | (refine Sat.callb (w_spec_IsValidAcceptor a ha) rfl ledA (fun h => ?_) (fun h => ?_) <;> (try simp only [decide_eq_true_eq, decide_eq_false_iff_not] at h) <;> (conv => arg 4; cbv))
      | (refine Sat.callb (w_spec_l1In _ _ _) rfl ledA (fun h => ?_) (fun h => ?_) <;> (try simp only [decide_eq_true_eq, decide_eq_false_iff_not] at h) <;> (conv => arg 4; cbv))
      | (refine Sat.call (w_spec_l10Copy a ha) rfl ledA ?_; conv => arg 4; cbv)
      | (refine Sat.need ndA ?_; conv => arg 4; cbv)
      | (refine Sat.idxk (by assumption) ?_; conv => arg 4; cbv) | (refine Sat.idx ndA (fun v_ hv_ => ?_); conv => arg 4; cbv)
      | (refine Sat.ari64 ndA ndA ?_; conv => arg 4; cbv)
      | (refine Sat.pop ?_; conv => arg 4; cbv)
      | refine Sat.done ?_
    all_goals first | exact ledA | (exfalso; simp_all [prepareOk]; done) | (exfalso; simp_all [prepareOk]; omega)
  · rw [prepareA, if_pos hv]
    refine k_spec_Prepare.fn (by kernel_rfl) ?_
    conv => arg 4; cbv
    repeat' first
      | (refine Sat.cmp (fun h => ?_) (fun h => ?_) <;> simp only [Cmp.holds] at h <;> (conv => arg 4; cbv))
      | (refine Sat.callb (w_spec_IsValidAcceptor a ha) rfl ledA (fun h => ?_) (fun h => ?_) <;> (try simp only [decide_eq_true_eq, decide_eq_false_iff_not] at h) <;> (conv => arg 4; cbv))
      | (refine Sat.callb (w_spec_l1In _ _ _) rfl ledA (fun h => ?_) (fun h => ?_) <;> (try simp only [decide_eq_true_eq, decide_eq_false_iff_not] at h) <;> (conv => arg 4; cbv))
      | (refine Sat.call (w_spec_l10Copy a ha) rfl ledA ?_; conv => arg 4; cbv)
      | (refine Sat.need ndA ?_; conv => arg 4; cbv)
      | (refine Sat.idxk (by assumption) ?_; conv => arg 4; cbv) | (refine Sat.idx ndA (fun v_ hv_ => ?_); conv => arg 4; cbv)
      | (refine Sat.ari64 ndA ndA ?_; conv => arg 4; cbv)
      | (refine Sat.pop ?_; conv => arg 4; cbv)
      | refine Sat.done ?_
    all_goals first | exact ledA | (exfalso; simp_all [prepareOk]; done) | (exfalso; simp_all [prepareOk]; omega)

theorem w_slices_IndexFunc_implAcceptorimplAcceptor (l : List GAcceptor) (f : Nat) (p : GAcceptor → Bool) (hf : ∀ x, bAcceptor x → Fn Pr f [aGAcceptor x] (.bo (p x))) (hb : bAcceptorS l) : Fn Pr n_slices_IndexFunc_implAcceptorimplAcceptor [.sl 6 eGAcceptor (fun _ => l), .clo f []] (.int .i64 (fun _ => idxF p l)) := by
  refine k_slices_IndexFunc_implAcceptorimplAcceptor.fn (by kernel_rfl) ?_
  have h0 : l.length * 80 ≤ 140737488351232 := hb.1
  conv => arg 4; cbv
  refine Sat.loopP (ι := Nat) (fun i => [(8, .int .i64 (fun _ => (i : Int)))]) (fun i => []) (fun i => i ≤ l.length ∧ idxF p l = if idxF p (l.drop i) < 0 then -1 else idxF p (l.drop i) + i) (fun i => l.length - i) 0 ?_ ⟨by omega, by have := (idxF_any (p := p) (l := l)).2; simp; omega⟩ (fun i hi => ?_)
  · exact lesA
  conv => arg 4; cbv
  repeat' first
    | (refine Sat.cmp (fun h => ?_) (fun h => ?_) <;> simp only [Cmp.holds] at h <;> (conv => arg 4; cbv))
    | (refine Sat.need ndA ?_; conv => arg 4; cbv)
    | (refine Sat.idxk (by assumption) ?_; conv => arg 4; cbv) | (refine Sat.idx ndA (fun v_ hv_ => ?_); conv => arg 4; cbv)
    | (refine Sat.callb (hf _ (hb.2 _ (List.mem_of_getElem? (by assumption)))) rfl ledA (fun h => ?_) (fun h => ?_) <;> (conv => arg 4; cbv))
    | (refine Sat.ari64 ndA ndA ?_; conv => arg 4; cbv)
    | (refine Sat.pop ?_; conv => arg 4; cbv)
    | refine Sat.next (i + 1) ?_ ?_ (by (try dsimp only); exact arA)
    | refine Sat.done ?_
  · refine .int ?_
    exact idxF_hit (by assumption) hi.2 h
  · exact lesA
  · exact ⟨by exact arA, idxF_step (by assumption) hi.2 h⟩
  · refine .int ?_
    have e1 : i = l.length := by exact arA
    rw [hi.2, e1, List.drop_length, idxF]
    simp

theorem w_slices_ContainsFunc_implAcceptorimplAcceptor (l : List GAcceptor) (f : Nat) (p : GAcceptor → Bool) (hf : ∀ x, bAcceptor x → Fn Pr f [aGAcceptor x] (.bo (p x))) (hb : bAcceptorS l) : Fn Pr n_slices_ContainsFunc_implAcceptorimplAcceptor [.sl 6 eGAcceptor (fun _ => l), .clo f []] (.bo (l.any p)) := by
  refine k_slices_ContainsFunc_implAcceptorimplAcceptor.fn (by kernel_rfl) ?_
  conv => arg 4; cbv
  repeat' first
    | (refine Sat.cmp (fun h => ?_) (fun h => ?_) <;> simp only [Cmp.holds] at h <;> (conv => arg 4; cbv))
    | (refine Sat.call (w_slices_IndexFunc_implAcceptorimplAcceptor l f p hf hb) rfl ledA ?_; conv => arg 4; cbv)
    | (refine Sat.need ndA ?_; conv => arg 4; cbv)
    | (refine Sat.idxk (by assumption) ?_; conv => arg 4; cbv) | (refine Sat.idx ndA (fun v_ hv_ => ?_); conv => arg 4; cbv)
    | (refine Sat.ari64 ndA ndA ?_; conv => arg 4; cbv)
    | (refine Sat.pop ?_; conv => arg 4; cbv)
    | refine Sat.done ?_
  all_goals refine led_bo ?_
  all_goals have := (idxF_any (p := p) (l := l)).1
  · exact (this.1 h).symm
  · cases e : l.any p with
    | false => rfl
    | true => exact absurd (this.2 e) h

def areAcc (l : List GAcceptor) : Bool := decide (l.length = 3) && l.all validA

theorem w_impl_AreAcceptors_c1 (x : GAcceptor) (hb : bAcceptor x) : Fn Pr n_impl_AreAcceptors_c1 [aGAcceptor x] (.bo (!validA x)) := by
  refine k_impl_AreAcceptors_c1.fn (by kernel_rfl) ?_
  conv => arg 4; cbv
  repeat' first
    | (refine Sat.cmp (fun h => ?_) (fun h => ?_) <;> simp only [Cmp.holds] at h <;> (conv => arg 4; cbv))
    | (refine Sat.callb (w_impl_IsValidAcceptor x hb) rfl ledA (fun h => ?_) (fun h => ?_) <;> (try simp only [decide_eq_true_eq, decide_eq_false_iff_not] at h) <;> (conv => arg 4; cbv))
    | (refine Sat.need ndA ?_; conv => arg 4; cbv)
    | (refine Sat.idxk (by assumption) ?_; conv => arg 4; cbv) | (refine Sat.idx ndA (fun v_ hv_ => ?_); conv => arg 4; cbv)
    | (refine Sat.ari64 ndA ndA ?_; conv => arg 4; cbv)
    | (refine Sat.pop ?_; conv => arg 4; cbv)
    | refine Sat.done ?_
  all_goals refine led_bo ?_ <;> simp_all

theorem w_impl_AreAcceptors (l : List GAcceptor) (hb : bAcceptorS l) : Fn Pr n_impl_AreAcceptors [.sl 6 eGAcceptor (fun _ => l)] (.bo (areAcc l)) := by
  refine k_impl_AreAcceptors.fn (by kernel_rfl) ?_
  conv => arg 4; cbv
  repeat' first
    | (refine Sat.cmp (fun h => ?_) (fun h => ?_) <;> simp only [Cmp.holds] at h <;> (conv => arg 4; cbv))
    | (refine Sat.callb (w_slices_ContainsFunc_implAcceptorimplAcceptor l n_impl_AreAcceptors_c1 _ w_impl_AreAcceptors_c1 hb) rfl ledA (fun h => ?_) (fun h => ?_) <;> (try simp only [decide_eq_true_eq, decide_eq_false_iff_not] at h) <;> (conv => arg 4; cbv))
    | (refine Sat.need ndA ?_; conv => arg 4; cbv)
    | (refine Sat.idxk (by assumption) ?_; conv => arg 4; cbv) | (refine Sat.idx ndA (fun v_ hv_ => ?_); conv => arg 4; cbv)
    | (refine Sat.ari64 ndA ndA ?_; conv => arg 4; cbv)
    | (refine Sat.pop ?_; conv => arg 4; cbv)
    | refine Sat.done ?_
  all_goals refine led_bo ?_
  all_goals simp only [ncast] at *
  all_goals simp_all [areAcc]
  all_goals omega

theorem w_spec_AreAcceptors (l : List GAcceptor) (hb : bAcceptorS l) : Fn Pr n_spec_AreAcceptors [.sl 6 eGAcceptor (fun _ => l)] (.bo (areAcc l)) := by
  refine k_spec_AreAcceptors.fn (by kernel_rfl) ?_
  have h0 : l.length * 80 ≤ 140737488351232 := hb.1
  conv => arg 4; cbv
  refine Sat.loopP (ι := Nat) (fun i => [(3, .int .i64 (fun _ => (i : Int)))]) (fun i => []) (fun i => i ≤ l.length ∧ l.all validA = (l.drop i).all validA) (fun i => l.length - i) 0 ?_ ⟨by omega, by simp⟩ (fun i hi => ?_)
  · exact lesA
  conv => arg 4; cbv
  repeat' first
    | (refine Sat.cmp (fun h => ?_) (fun h => ?_) <;> simp only [Cmp.holds] at h <;> (conv => arg 4; cbv))
    | (refine Sat.need ndA ?_; conv => arg 4; cbv)
    | (refine Sat.idxk (by assumption) ?_; conv => arg 4; cbv) | (refine Sat.idx ndA (fun v_ hv_ => ?_); conv => arg 4; cbv)
    | (refine Sat.callb (w_spec_IsValidAcceptor _ (hb.2 _ (List.mem_of_getElem? (by assumption)))) rfl ledA (fun h => ?_) (fun h => ?_) <;> (conv => arg 4; cbv))
    | (refine Sat.ari64 ndA ndA ?_; conv => arg 4; cbv)
    | (refine Sat.pop ?_; conv => arg 4; cbv)
    | refine Sat.next (i + 1) ?_ ?_ (by (try dsimp only); exact arA)
    | refine Sat.done ?_
  all_goals first
    | exact lesA
    | exact ⟨by exact arA, by rw [hi.2, drop_get (i := i) hv_, List.all_cons, h, Bool.true_and]⟩
    | (refine led_bo ?_; rw [areAcc, hi.2, drop_get (i := i) hv_, List.all_cons, h]; simp; done)
    | (refine led_bo ?_; have e1 : i = l.length := by exact arA
       rw [areAcc, hi.2, e1, List.drop_length]; simp only [ncast] at *; simp; omega)
    | (refine led_bo ?_; rw [areAcc]; simp only [ncast] at *; simp; omega)

def newAcc : List GAcceptor := List.replicate 3 ⟨0, 0, ⟨0, 0, [], []⟩⟩
theorem newAcc_b : bAcceptorS newAcc := by
  refine ⟨by simp [newAcc], fun y hy => ?_⟩
  rw [List.eq_of_mem_replicate hy]
  simp [bAcceptor, bConfig, bIntS]
theorem newAcc_n : nG n1Acceptor newAcc = 12 := rfl

theorem w_impl_NewAcceptors : Fn Pr n_impl_NewAcceptors [] (.sl 6 eGAcceptor (fun _ => newAcc)) := by
  refine k_impl_NewAcceptors.fn (by kernel_rfl) ?_
  conv => arg 4; cbv
  repeat' first
    | (refine Sat.cmp (fun h => ?_) (fun h => ?_) <;> simp only [Cmp.holds] at h <;> (conv => arg 4; cbv))
    | (refine Sat.typ eGAcceptor ⟨0, 0, ⟨0, 0, [], []⟩⟩ tcA ?_; conv => arg 4; cbv)
    | (refine Sat.need ndA ?_; conv => arg 4; cbv)
    | (refine Sat.idxk (by assumption) ?_; conv => arg 4; cbv) | (refine Sat.idx ndA (fun v_ hv_ => ?_); conv => arg 4; cbv)
    | (refine Sat.ari64 ndA ndA ?_; conv => arg 4; cbv)
    | (refine Sat.pop ?_; conv => arg 4; cbv)
    | refine Sat.done ?_
  all_goals exact .sl rfl

theorem w_spec_NewAcceptors : Fn Pr n_spec_NewAcceptors [] (.sl 6 eGAcceptor (fun _ => newAcc)) := by
  refine k_spec_NewAcceptors.fn (by kernel_rfl) ?_
  conv => arg 4; cbv
  repeat' first
    | (refine Sat.cmp (fun h => ?_) (fun h => ?_) <;> simp only [Cmp.holds] at h <;> (conv => arg 4; cbv))
    | (refine Sat.typ eGAcceptor ⟨0, 0, ⟨0, 0, [], []⟩⟩ tcA ?_; conv => arg 4; cbv)
    | (refine Sat.need ndA ?_; conv => arg 4; cbv)
    | (refine Sat.idxk (by assumption) ?_; conv => arg 4; cbv) | (refine Sat.idx ndA (fun v_ hv_ => ?_); conv => arg 4; cbv)
    | (refine Sat.ari64 ndA ndA ?_; conv => arg 4; cbv)
    | (refine Sat.pop ?_; conv => arg 4; cbv)
    | refine Sat.done ?_
  all_goals exact .sl rfl

/-- How many hold what a holds. -/
def votes (l : List GAcceptor) (a : GAcceptor) : Nat := l.countP (fun b => decide (0 < a.Ballot ∧ b.Ballot = a.Ballot ∧ b.Value = a.Value))
def chosenIn (l : List GAcceptor) : List GAcceptor → Option GConfig
  | [] => none
  | a :: r => if 3 < 2 * votes l a then some a.Value else chosenIn l r
def chosen (l : List GAcceptor) : Option GConfig := if areAcc l = true then chosenIn l l else none
def chosenC (l : List GAcceptor) : GConfig := match chosen l with | some c => c | none => noConfig
def chosenOk (l : List GAcceptor) : Bool := (chosen l).isSome
theorem chosenIn_mem {l : List GAcceptor} {c : GConfig} : ∀ {r : List GAcceptor}, chosenIn l r = some c → ∃ a ∈ r, c = a.Value
  | [], h => by cases h
  | a :: r, h => by
    rw [chosenIn] at h
    split at h
    · cases h; exact ⟨a, List.mem_cons_self .., rfl⟩
    · obtain ⟨b, hb, e⟩ := chosenIn_mem h; exact ⟨b, List.mem_cons_of_mem _ hb, e⟩
theorem chosenC_b {l : List GAcceptor} (hb : bAcceptorS l) : bConfig (chosenC l) := by
  unfold chosenC
  split
  · rename_i c h
    unfold chosen at h
    split at h
    · obtain ⟨a, ha, rfl⟩ := chosenIn_mem h
      exact hb.2 a ha
    · cases h
  · exact no_b
theorem chosen_hit {l : List GAcceptor} {i : Nat} {a : GAcceptor} (h : chosen l = chosenIn l (l.drop i)) (ha : l[i]? = some a) (hv : 3 < 2 * votes l a) : chosenC l = a.Value ∧ chosenOk l = true := by
  have e : chosen l = some a.Value := by rw [h, drop_get (i := i) ha, chosenIn, if_pos hv]
  exact ⟨by rw [chosenC, e], by rw [chosenOk, e]; rfl⟩
theorem chosen_next {l : List GAcceptor} {i : Nat} {a : GAcceptor} (h : chosen l = chosenIn l (l.drop i)) (ha : l[i]? = some a) (hv : ¬ 3 < 2 * votes l a) : chosen l = chosenIn l (l.drop (i + 1)) := by
  rw [h, drop_get (i := i) ha, chosenIn, if_neg hv]
theorem chosen_end {l : List GAcceptor} (h : chosen l = chosenIn l (l.drop l.length)) : chosenC l = noConfig ∧ chosenOk l = false := by
  have e : chosen l = none := by rw [h, List.drop_length, chosenIn]
  exact ⟨by rw [chosenC, e], by rw [chosenOk, e]; rfl⟩
theorem chosen_bad {l : List GAcceptor} (h : areAcc l = false) : chosenC l = noConfig ∧ chosenOk l = false := by
  have e : chosen l = none := by rw [chosen, if_neg (by rw [h]; simp)]
  exact ⟨by rw [chosenC, e], by rw [chosenOk, e]; rfl⟩
theorem areAcc_len {l : List GAcceptor} (h : areAcc l = true) : l.length = 3 := by
  simp only [areAcc, Bool.and_eq_true, decide_eq_true_eq] at h
  exact h.1
/-- Those among the first k. -/
def votesTo (l : List GAcceptor) (a : GAcceptor) (k : Nat) : Nat := votes (l.take k) a
theorem votesTo_hit {l : List GAcceptor} {a b : GAcceptor} {k : Nat} (hb : l[k]? = some b) (h1 : 0 < a.Ballot) (h2 : b.Ballot = a.Ballot) (h3 : b.Value = a.Value) : votesTo l a (k + 1) = votesTo l a k + 1 := by
  unfold votesTo votes
  rw [List.take_add_one, hb, List.countP_append]
  simp [h1, h2, h3]
theorem votesTo_miss {l : List GAcceptor} {a b : GAcceptor} {k : Nat} (hb : l[k]? = some b) (h : ¬ (0 < a.Ballot ∧ b.Ballot = a.Ballot ∧ b.Value = a.Value)) : votesTo l a (k + 1) = votesTo l a k := by
  unfold votesTo votes
  rw [List.take_add_one, hb, List.countP_append]
  simp only [Option.toList_some, List.countP_cons, List.countP_nil, decide_eq_true_eq, if_neg h, Nat.add_zero]
theorem votesTo_le {l : List GAcceptor} {a : GAcceptor} {k : Nat} : votesTo l a k ≤ k := by
  unfold votesTo votes
  exact Nat.le_trans List.countP_le_length (by rw [List.length_take]; omega)
theorem votesTo_all {l : List GAcceptor} {a : GAcceptor} : votesTo l a l.length = votes l a := by
  unfold votesTo; rw [List.take_length]

set_option maxHeartbeats 1000000 in
theorem w_impl_ChosenValue (l : List GAcceptor) (hb : bAcceptorS l) : Fn Pr n_impl_ChosenValue [.sl 6 eGAcceptor (fun _ => l)] (.tup [aGConfig (chosenC l), .bo (chosenOk l)]) := by
  have HA := w_impl_AreAcceptors l hb
  cases hv : areAcc l
  · rw [hv] at HA
    obtain ⟨e1, e2⟩ := chosen_bad hv
    rw [e1, e2]
    refine k_impl_ChosenValue.fn (by kernel_rfl) ?_
    conv => arg 4; cbv
    repeat' first
      | (refine Sat.cmp (fun h => ?_) (fun h => ?_) <;> simp only [Cmp.holds] at h <;> (conv => arg 4; cbv))
      | (refine Sat.callb (HA) rfl ledA (fun h => ?_) (fun h => ?_) <;> (try simp only [decide_eq_true_eq, decide_eq_false_iff_not] at h) <;> (conv => arg 4; cbv))
      | (refine Sat.call (HA) rfl ledA ?_; conv => arg 4; cbv)
      | (refine Sat.need ndA ?_; conv => arg 4; cbv)
      | (refine Sat.idxk (by assumption) ?_; conv => arg 4; cbv) | (refine Sat.idx ndA (fun v_ hv_ => ?_); conv => arg 4; cbv)
      | (refine Sat.ari64 ndA ndA ?_; conv => arg 4; cbv)
      | (refine Sat.pop ?_; conv => arg 4; cbv)
      | refine Sat.done ?_
    all_goals first | exact ledA | (exfalso; simp_all; done)
  · rw [hv] at HA
    have hl3 := areAcc_len hv
    refine k_impl_ChosenValue.fn (by kernel_rfl) ?_
    conv => arg 4; cbv
    refine Sat.call HA rfl ledA ?_
    conv => arg 4; cbv
    refine Sat.loopP (ι := Nat) (fun i => [(15, .int .i64 (fun _ => (i : Int)))]) (fun i => []) (fun i => i ≤ l.length ∧ chosen l = chosenIn l (l.drop i)) (fun i => l.length - i) 0 ?_ ⟨by omega, by rw [chosen, if_pos hv]; rfl⟩ (fun i hi => ?_)
    · exact lesA
    conv => arg 4; cbv
    repeat' first
      | (refine Sat.cmp (fun h => ?_) (fun h => ?_) <;> simp only [Cmp.holds] at h <;> (conv => arg 4; cbv))
      | (refine Sat.need ndA ?_; conv => arg 4; cbv)
      | (refine Sat.idxk (by assumption) ?_; conv => arg 4; cbv) | (refine Sat.idx ndA (fun v_ hv_ => ?_); conv => arg 4; cbv)
      | (refine Sat.ari64 ndA ndA ?_; conv => arg 4; cbv)
      | (refine Sat.pop ?_; conv => arg 4; cbv)
    rotate_left
    · refine Sat.done ?_
      have e : i = l.length := by exact arA
      subst e
      obtain ⟨e1, e2⟩ := chosen_end hi.2
      rw [e1, e2]
      exact ledA
    revert v_
    intro a ha
    have ha' : l[i]? = some a := by simpa using ha
    refine Sat.loopP (ι := Nat) (fun k => [(21, .int .i64 (fun _ => (k : Int))), (6, .int .i64 (fun _ => (votesTo l a k : Int)))]) (fun k => []) (fun k => k ≤ l.length) (fun k => l.length - k) 0 ?_ (by omega) (fun k hk => ?_)
    · refine les_of ?_ ?_ rfl
      iterate 2 (focus repeat' (first | exact trivial | refine And.intro ?_ ?_ | exact levA | refine lev_cons ?_ ?_ | refine LeV.agg rfl ?_ | exact Nat.le_of_ble_eq_true rfl | exact Or.inl ⟨_, rfl, .row rfl⟩ | refine Or.inl ⟨_, rfl, .row ?_⟩ | refine Or.inl ⟨_, rfl, .lit rfl ?_⟩ | exact Or.inr ⟨rfl, rfl⟩ | (exact .int (by simp [votesTo, votes]))))
    have hle := votesTo_le (l := l) (a := a) (k := k)
    conv => arg 4; cbv
    repeat' first
      | (refine Sat.cmp (fun h => ?_) (fun h => ?_) <;> simp only [Cmp.holds] at h <;> (conv => arg 4; cbv))
      | (refine Sat.need ndA ?_; conv => arg 4; cbv)
      | (refine Sat.idxk (by assumption) ?_; conv => arg 4; cbv) | (refine Sat.idx ndA (fun v_ hv_ => ?_); conv => arg 4; cbv)
      | (refine Sat.callb (w_impl_EqualConfigs a.Value _ (hb.2 _ (List.mem_of_getElem? ha'))) rfl ledA (fun h => ?_) (fun h => ?_) <;> (try simp only [decide_eq_true_eq, decide_eq_false_iff_not] at h) <;> (conv => arg 4; cbv))
      | (refine Sat.call (w_impl_configCopy a.Value (hb.2 _ (List.mem_of_getElem? ha'))) rfl ledA ?_; conv => arg 4; cbv)
      | (refine Sat.ari64 ndA ndA ?_; conv => arg 4; cbv)
      | (refine Sat.pop ?_; conv => arg 4; cbv)
      | refine Sat.next (k + 1) ?_ (by exact arA) (by exact arA)
      | refine Sat.next (i + 1) ?_ ⟨by exact arA, chosen_next hi.2 ha' (by rw [← votesTo_all, ← show k = l.length by exact arA]; exact arA)⟩ (by exact arA)
      | refine Sat.done ?_
    · have e := votesTo_hit (l := l) (a := a) (b := v_) (k := k) (by simpa using hv_) (by assumption) (by omega) (Eq.symm h)
      refine les_of ?_ ?_ rfl
      iterate 2 (focus repeat' (first | exact trivial | refine And.intro ?_ ?_ | exact levA | refine lev_cons ?_ ?_ | refine LeV.agg rfl ?_ | exact Nat.le_of_ble_eq_true rfl | exact Or.inl ⟨_, rfl, .row rfl⟩ | refine Or.inl ⟨_, rfl, .row ?_⟩ | refine Or.inl ⟨_, rfl, .lit rfl ?_⟩ | exact Or.inr ⟨rfl, rfl⟩ | (exact .int ndA)))
    · have e := votesTo_miss (l := l) (a := a) (b := v_) (k := k) (by simpa using hv_) (fun q => h (Eq.symm q.2.2))
      refine les_of ?_ ?_ rfl
      iterate 2 (focus repeat' (first | exact trivial | refine And.intro ?_ ?_ | exact levA | refine lev_cons ?_ ?_ | refine LeV.agg rfl ?_ | exact Nat.le_of_ble_eq_true rfl | exact Or.inl ⟨_, rfl, .row rfl⟩ | refine Or.inl ⟨_, rfl, .row ?_⟩ | refine Or.inl ⟨_, rfl, .lit rfl ?_⟩ | exact Or.inr ⟨rfl, rfl⟩ | (exact .int ndA)))
    · have e := votesTo_miss (l := l) (a := a) (b := v_) (k := k) (by simpa using hv_) (fun q => h (Eq.symm q.2.1))
      refine les_of ?_ ?_ rfl
      iterate 2 (focus repeat' (first | exact trivial | refine And.intro ?_ ?_ | exact levA | refine lev_cons ?_ ?_ | refine LeV.agg rfl ?_ | exact Nat.le_of_ble_eq_true rfl | exact Or.inl ⟨_, rfl, .row rfl⟩ | refine Or.inl ⟨_, rfl, .row ?_⟩ | refine Or.inl ⟨_, rfl, .lit rfl ?_⟩ | exact Or.inr ⟨rfl, rfl⟩ | (exact .int ndA)))
    · have e := votesTo_miss (l := l) (a := a) (b := v_) (k := k) (by simpa using hv_) (fun q => h q.1)
      refine les_of ?_ ?_ rfl
      iterate 2 (focus repeat' (first | exact trivial | refine And.intro ?_ ?_ | exact levA | refine lev_cons ?_ ?_ | refine LeV.agg rfl ?_ | exact Nat.le_of_ble_eq_true rfl | exact Or.inl ⟨_, rfl, .row rfl⟩ | refine Or.inl ⟨_, rfl, .row ?_⟩ | refine Or.inl ⟨_, rfl, .lit rfl ?_⟩ | exact Or.inr ⟨rfl, rfl⟩ | (exact .int ndA)))
    · have e : k = l.length := by exact arA
      subst e
      rw [votesTo_all] at h
      obtain ⟨e1, e2⟩ := chosen_hit hi.2 ha' (by exact arA)
      rw [e1, e2]
      exact ledA
    · refine les_of ?_ ?_ rfl
      iterate 2 (focus repeat' (first | exact trivial | refine And.intro ?_ ?_ | exact levA | refine lev_cons ?_ ?_ | refine LeV.agg rfl ?_ | exact Nat.le_of_ble_eq_true rfl | exact Or.inl ⟨_, rfl, .row rfl⟩ | refine Or.inl ⟨_, rfl, .row ?_⟩ | refine Or.inl ⟨_, rfl, .lit rfl ?_⟩ | exact Or.inr ⟨rfl, rfl⟩ | (exact .int ndA)))

set_option maxHeartbeats 1000000 in
theorem w_impl_acceptorsCopy (l : List GAcceptor) (hb : bAcceptorS l) (hn : l.length ≤ 2000000) : Fn Pr n_impl_acceptorsCopy [.sl 6 eGAcceptor (fun _ => l)] (.sl 6 eGAcceptor (fun _ => l)) := by
  refine k_impl_acceptorsCopy.fn (by kernel_rfl) ?_
  conv => arg 4; cbv
  refine Sat.loopP (ι := Nat) (fun i => [(3, .ref 96 (fun _ => 0) (fun _ => (l.take i).length)), (9, .int .i64 (fun _ => (i : Int)))]) (fun i => [(96, .row 6 eGAcceptor (fun _ => l.take i) false)]) (fun i => i ≤ l.length) (fun i => l.length - i) 0 ?_ (by omega) (fun i hi => ?_)
  · refine les_of ?_ ?_ rfl
    iterate 2 (focus repeat' (first | exact trivial | refine And.intro ?_ ?_ | exact levA | refine lev_cons ?_ ?_ | refine LeV.agg rfl ?_ | exact Nat.le_of_ble_eq_true rfl | exact Or.inl ⟨_, rfl, .row rfl⟩ | refine Or.inl ⟨_, rfl, .row ?_⟩ | refine Or.inl ⟨_, rfl, .lit rfl ?_⟩ | exact Or.inr ⟨rfl, rfl⟩ | (first | exact .empref (fun h => nomatch h) rfl rfl rfl | rfl)))
  conv => arg 4; cbv
  repeat' first
    | (refine Sat.cmp (fun h => ?_) (fun h => ?_) <;> simp only [Cmp.holds] at h <;> (conv => arg 4; cbv))
    | (refine Sat.need ⟨rfl, rfl, rfl, by (try dsimp only); simp only [List.length_take]; exact arA⟩ ?_; conv => arg 4; cbv)
    | (refine Sat.need ndA ?_; conv => arg 4; cbv)
    | (refine Sat.idxk (by assumption) ?_; conv => arg 4; cbv) | (refine Sat.idx ndA (fun v_ hv_ => ?_); conv => arg 4; cbv)
    | (refine Sat.call (w_impl_acceptorCopy v_ (hb.2 _ (List.mem_of_getElem? hv_))) rfl ledA ?_; conv => arg 4; cbv)
    | (refine Sat.typed v_ tcA ?_; conv => arg 4; cbv)
    | (refine Sat.ari64 ndA ndA ?_; conv => arg 4; cbv)
    | (refine Sat.pop ?_; conv => arg 4; cbv)
    | refine Sat.next (i + 1) ?_ (by exact arA) (by exact arA)
    | refine Sat.done ?_
  · have hs : l.take (i + 1) = l.take i ++ [v_] := by rw [List.take_add_one, show l[i]? = some v_ from hv_]; simp
    refine les_of ?_ ?_ rfl
    iterate 2 (focus repeat' (first | exact trivial | refine And.intro ?_ ?_ | exact levA | refine lev_cons ?_ ?_ | refine LeV.agg rfl ?_ | exact Nat.le_of_ble_eq_true rfl | exact Or.inl ⟨_, rfl, .row rfl⟩ | refine Or.inl ⟨_, rfl, .row ?_⟩ | refine Or.inl ⟨_, rfl, .lit rfl ?_⟩ | exact Or.inr ⟨rfl, rfl⟩ | (first | exact .ref (fun h => nomatch h) (fun h => nomatch h) rfl (by (try dsimp only); rw [hs]; simp) | (rw [hs]; simp; done))))
  · have e : i = l.length := by exact arA
    subst e
    exact .sl (by simp)

set_option maxHeartbeats 1000000 in
theorem w_spec_l11Copy (l : List GAcceptor) (hb : bAcceptorS l) (hn : l.length ≤ 2000000) : Fn Pr n_spec_l11Copy [.sl 6 eGAcceptor (fun _ => l)] (.sl 6 eGAcceptor (fun _ => l)) := by
  refine k_spec_l11Copy.fn (by kernel_rfl) ?_
  conv => arg 4; cbv
  refine Sat.loopP (ι := Nat) (fun i => [(3, .ref 64 (fun _ => 0) (fun _ => (l.take i).length)), (4, .int .i64 (fun _ => (i : Int)))]) (fun i => [(64, .row 6 eGAcceptor (fun _ => l.take i) false)]) (fun i => i ≤ l.length) (fun i => l.length - i) 0 ?_ (by omega) (fun i hi => ?_)
  · refine les_of ?_ ?_ rfl
    iterate 2 (focus repeat' (first | exact trivial | refine And.intro ?_ ?_ | exact levA | refine lev_cons ?_ ?_ | refine LeV.agg rfl ?_ | exact Nat.le_of_ble_eq_true rfl | exact Or.inl ⟨_, rfl, .row rfl⟩ | refine Or.inl ⟨_, rfl, .row ?_⟩ | refine Or.inl ⟨_, rfl, .lit rfl ?_⟩ | exact Or.inr ⟨rfl, rfl⟩ | (first | exact .empref (fun h => nomatch h) rfl rfl rfl | rfl)))
  conv => arg 4; cbv
  repeat' first
    | (refine Sat.cmp (fun h => ?_) (fun h => ?_) <;> simp only [Cmp.holds] at h <;> (conv => arg 4; cbv))
    | (refine Sat.need ⟨rfl, rfl, rfl, by (try dsimp only); simp only [List.length_take]; exact arA⟩ ?_; conv => arg 4; cbv)
    | (refine Sat.need ndA ?_; conv => arg 4; cbv)
    | (refine Sat.idxk (by assumption) ?_; conv => arg 4; cbv) | (refine Sat.idx ndA (fun v_ hv_ => ?_); conv => arg 4; cbv)
    | (refine Sat.call (w_spec_l10Copy v_ (hb.2 _ (List.mem_of_getElem? hv_))) rfl ledA ?_; conv => arg 4; cbv)
    | (refine Sat.typed v_ tcA ?_; conv => arg 4; cbv)
    | (refine Sat.ari64 ndA ndA ?_; conv => arg 4; cbv)
    | (refine Sat.pop ?_; conv => arg 4; cbv)
    | refine Sat.next (i + 1) ?_ (by exact arA) (by exact arA)
    | refine Sat.done ?_
  · have hs : l.take (i + 1) = l.take i ++ [v_] := by rw [List.take_add_one, show l[i]? = some v_ from hv_]; simp
    refine les_of ?_ ?_ rfl
    iterate 2 (focus repeat' (first | exact trivial | refine And.intro ?_ ?_ | exact levA | refine lev_cons ?_ ?_ | refine LeV.agg rfl ?_ | exact Nat.le_of_ble_eq_true rfl | exact Or.inl ⟨_, rfl, .row rfl⟩ | refine Or.inl ⟨_, rfl, .row ?_⟩ | refine Or.inl ⟨_, rfl, .lit rfl ?_⟩ | exact Or.inr ⟨rfl, rfl⟩ | (first | exact .ref (fun h => nomatch h) (fun h => nomatch h) rfl (by (try dsimp only); rw [hs]; simp) | (rw [hs]; simp; done))))
  · have e : i = l.length := by exact arA
    subst e
    exact .sl (by simp)

/-- The first phase: does acceptor i, which holds a, promise. -/
def hit1 (p : GProposal) (i : Nat) (a : GAcceptor) : Bool := prepareOk a p.Ballot && decide ((i : Int) ∈ p.First)
/-- The second phase. -/
def hit2 (p : GProposal) (v : GConfig) (i : Nat) (a : GAcceptor) : Bool := acceptOk a p.Ballot v && decide ((i : Int) ∈ p.Second)
/-- A row of which the first k that are hit are put over. -/
def putTo (h : Nat → GAcceptor → Bool) (f : GAcceptor → GAcceptor) (l : List GAcceptor) (k : Nat) : List GAcceptor := l.mapIdx (fun i a => if i < k ∧ h i a = true then f a else a)
def cntTo (h : Nat → GAcceptor → Bool) (l : List GAcceptor) : Nat → Nat
  | 0 => 0
  | k + 1 => match l[k]? with | some a => if h k a = true then cntTo h l k + 1 else cntTo h l k | none => cntTo h l k
/-- The greatest ballot among those that promised, and its value. -/
def bestTo (p : GProposal) (l : List GAcceptor) : Nat → Int × GConfig
  | 0 => (0, p.Value)
  | k + 1 => match l[k]? with | some a => if hit1 p k a = true ∧ (bestTo p l k).1 < a.Ballot then (a.Ballot, a.Value) else bestTo p l k | none => bestTo p l k
theorem putTo_len {h : Nat → GAcceptor → Bool} {f : GAcceptor → GAcceptor} {l : List GAcceptor} {k : Nat} : (putTo h f l k).length = l.length := by simp [putTo]
theorem putTo_zero {h : Nat → GAcceptor → Bool} {f : GAcceptor → GAcceptor} {l : List GAcceptor} : putTo h f l 0 = l := by
  apply List.ext_getElem?
  intro i
  simp [putTo]
theorem putTo_get {h : Nat → GAcceptor → Bool} {f : GAcceptor → GAcceptor} {l : List GAcceptor} {k i : Nat} (hk : k ≤ i) : (putTo h f l k)[i]? = l[i]? := by
  rw [putTo, List.getElem?_mapIdx]
  cases l[i]? with
  | none => rfl
  | some a => exact congrArg some (if_neg (fun q => by omega))
theorem putTo_hit {h : Nat → GAcceptor → Bool} {f : GAcceptor → GAcceptor} {l : List GAcceptor} {k : Nat} {a : GAcceptor} (ha : l[k]? = some a) (hh : h k a = true) : putTo h f l (k + 1) = (putTo h f l k).set k (f a) := by
  apply List.ext_getElem?
  intro i
  rw [List.getElem?_set, putTo_len]
  by_cases e : k = i
  · subst e
    rw [if_pos rfl, putTo, List.getElem?_mapIdx, ha]
    have : k < l.length := by
      rw [List.getElem?_eq_some_iff] at ha; exact ha.1
    simp [hh, this]
  · rw [if_neg e, putTo, putTo, List.getElem?_mapIdx, List.getElem?_mapIdx]
    congr 1
    funext a
    have : (i < k + 1 ∧ h i a = true) ↔ (i < k ∧ h i a = true) := by constructor <;> (intro q; exact ⟨by omega, q.2⟩)
    simp only [this]
theorem putTo_miss {h : Nat → GAcceptor → Bool} {f : GAcceptor → GAcceptor} {l : List GAcceptor} {k : Nat} {a : GAcceptor} (ha : l[k]? = some a) (hh : h k a = false) : putTo h f l (k + 1) = putTo h f l k := by
  apply List.ext_getElem?
  intro i
  rw [putTo, putTo, List.getElem?_mapIdx, List.getElem?_mapIdx]
  by_cases e : k = i
  · subst e
    rw [ha]
    simp [hh]
  · congr 1
    funext a
    have : (i < k + 1 ∧ h i a = true) ↔ (i < k ∧ h i a = true) := by constructor <;> (intro q; exact ⟨by omega, q.2⟩)
    simp only [this]
theorem set_same {l : List GAcceptor} {k : Nat} {a : GAcceptor} (ha : l[k]? = some a) : l.set k a = l := by
  apply List.ext_getElem?
  intro i
  rw [List.getElem?_set]
  by_cases e : k = i
  · subst e
    have : k < l.length := by
      rw [List.getElem?_eq_some_iff] at ha; exact ha.1
    rw [if_pos rfl, ha, if_pos this]
  · rw [if_neg e]
theorem putTo_b {h : Nat → GAcceptor → Bool} {f : GAcceptor → GAcceptor} {l : List GAcceptor} {k : Nat} (hf : ∀ a, bAcceptor a → bAcceptor (f a)) (hb : bAcceptorS l) : bAcceptorS (putTo h f l k) := by
  refine ⟨by rw [putTo_len]; exact hb.1, fun x hx => ?_⟩
  rw [putTo, List.mem_mapIdx] at hx
  obtain ⟨i, hi, rfl⟩ := hx
  have := hb.2 _ (List.getElem_mem hi)
  split
  · exact hf _ this
  · exact this
theorem cntTo_hit {h : Nat → GAcceptor → Bool} {l : List GAcceptor} {k : Nat} {a : GAcceptor} (ha : l[k]? = some a) (hh : h k a = true) : cntTo h l (k + 1) = cntTo h l k + 1 := by
  rw [cntTo, ha]; exact if_pos hh
theorem cntTo_miss {h : Nat → GAcceptor → Bool} {l : List GAcceptor} {k : Nat} {a : GAcceptor} (ha : l[k]? = some a) (hh : h k a = false) : cntTo h l (k + 1) = cntTo h l k := by
  rw [cntTo, ha]; exact if_neg (by rw [hh]; exact fun q => by cases q)
theorem cntTo_le {h : Nat → GAcceptor → Bool} {l : List GAcceptor} : ∀ {k : Nat}, cntTo h l k ≤ k
  | 0 => Nat.le_refl _
  | k + 1 => by
    have := cntTo_le (h := h) (l := l) (k := k)
    rw [cntTo]
    split
    · split <;> omega
    · omega
theorem bestTo_hit {p : GProposal} {l : List GAcceptor} {k : Nat} {a : GAcceptor} (ha : l[k]? = some a) (hh : hit1 p k a = true) (hl : (bestTo p l k).1 < a.Ballot) : bestTo p l (k + 1) = (a.Ballot, a.Value) := by
  rw [bestTo, ha]; exact if_pos ⟨hh, hl⟩
theorem bestTo_low {p : GProposal} {l : List GAcceptor} {k : Nat} {a : GAcceptor} (ha : l[k]? = some a) (hl : ¬ (bestTo p l k).1 < a.Ballot) : bestTo p l (k + 1) = bestTo p l k := by
  rw [bestTo, ha]; exact if_neg (fun q => hl q.2)
theorem bestTo_miss {p : GProposal} {l : List GAcceptor} {k : Nat} {a : GAcceptor} (ha : l[k]? = some a) (hh : hit1 p k a = false) : bestTo p l (k + 1) = bestTo p l k := by
  rw [bestTo, ha]; exact if_neg (fun q => by rw [hh] at q; cases q.1)
theorem bestTo_b {p : GProposal} {l : List GAcceptor} (hb : bAcceptorS l) (hp : bConfig p.Value) : ∀ {k : Nat}, bConfig (bestTo p l k).2
  | 0 => hp
  | k + 1 => by
    have := bestTo_b (p := p) (l := l) hb hp (k := k)
    rw [bestTo]
    split
    · rename_i a ha
      split
      · exact hb.2 a (List.mem_of_getElem? ha)
      · exact this
    · exact this
def runIn (l : List GAcceptor) (p : GProposal) : Bool := areAcc l && validC p.Value && decide (1 ≤ p.Ballot ∧ p.Ballot ≤ 99)
/-- What the first phase leaves. -/
def run1 (l : List GAcceptor) (p : GProposal) : List GAcceptor := putTo (hit1 p) (fun a => prepareA a p.Ballot) l 3
def run1Ok (l : List GAcceptor) (p : GProposal) : Bool := decide (3 < 2 * cntTo (hit1 p) l 3)
def runV (l : List GAcceptor) (p : GProposal) : GConfig := (bestTo p l 3).2
def run2 (l : List GAcceptor) (p : GProposal) (v : GConfig) : List GAcceptor := putTo (hit2 p v) (fun a => acceptA a p.Ballot v) l 3
def run2Ok (l : List GAcceptor) (p : GProposal) (v : GConfig) : Bool := decide (3 < 2 * cntTo (hit2 p v) l 3)
def runA (l : List GAcceptor) (p : GProposal) : List GAcceptor := if runIn l p = true then (if run1Ok l p = true then run2 (run1 l p) p (runV l p) else run1 l p) else l
def runOk (l : List GAcceptor) (p : GProposal) : Bool := runIn l p && run1Ok l p && run2Ok (run1 l p) p (runV l p)
def runC (l : List GAcceptor) (p : GProposal) : GConfig := if runOk l p = true then runV l p else noConfig
theorem prepareA_no {a : GAcceptor} {n : Int} (h : prepareOk a n = false) : prepareA a n = a := by rw [prepareA, if_neg (by rw [h]; exact fun q => by cases q)]
theorem acceptA_no {a : GAcceptor} {n : Int} {c : GConfig} (h : acceptOk a n c = false) : acceptA a n c = a := by rw [acceptA, if_neg (by rw [h]; exact fun q => by cases q)]
theorem runA_b {l : List GAcceptor} {p : GProposal} (hb : bAcceptorS l) (hp : bConfig p.Value) : bAcceptorS (runA l p) := by
  have h1 : bAcceptorS (run1 l p) := putTo_b (fun a => prepareA_b) hb
  have hv : bConfig (runV l p) := bestTo_b hb hp
  unfold runA
  split
  · split
    · exact putTo_b (fun a ha => acceptA_b ha hv) h1
    · exact h1
  · exact hb
theorem runC_b {l : List GAcceptor} {p : GProposal} (hb : bAcceptorS l) (hp : bConfig p.Value) : bConfig (runC l p) := by
  unfold runC
  split
  · exact bestTo_b hb hp
  · exact no_b

theorem nG_bound {α : Type} {n1 : α → Int} {C : Int} : ∀ {l : List α}, (∀ x ∈ l, n1 x ≤ C) → nG n1 l ≤ C * (l.length : Int)
  | [], _ => by simp [nG]
  | x :: r, h => by
    have h1 := h x (List.mem_cons_self ..)
    have h2 := nG_bound (l := r) (fun y hy => h y (List.mem_cons_of_mem _ hy))
    rw [nG, List.length_cons, Int.natCast_add, Int.mul_add]
    omega
theorem run_len {l : List GAcceptor} {p : GProposal} : (runA l p).length = l.length := by
  unfold runA run2 run1
  split
  · split <;> simp [putTo_len]
  · rfl
theorem run_nG {l : List GAcceptor} {p : GProposal} (hb : bAcceptorS l) (hp : bConfig p.Value) (h0 : 0 ≤ nG n1Acceptor l) (h1 : nG n1Acceptor l ≤ 4 * 1048576) : 0 ≤ nG n1Acceptor (runA l p) ∧ nG n1Acceptor (runA l p) ≤ 200000000000000 := by
  refine ⟨nG_pos (fun x => by unfold n1Acceptor; omega), ?_⟩
  cases hv : runIn l p
  · rw [runA, if_neg (by rw [hv]; simp)]; omega
  · have hv' := hv
    simp only [runIn, Bool.and_eq_true, decide_eq_true_eq] at hv'
    have hl := areAcc_len hv'.1.1
    have h := nG_bound (n1 := n1Acceptor) (C := 60000000000000) (l := runA l p) (fun x hx => by
      have h2 := (runA_b hb hp).2 x hx
      obtain ⟨h3, h4⟩ := h2
      unfold bIntS at h3 h4
      unfold n1Acceptor
      omega)
    rw [run_len, hl] at h
    omega

set_option maxHeartbeats 1000000 in
theorem w_impl_RunProposal (l : List GAcceptor) (p : GProposal) (hb : bAcceptorS l) (hp : bProposal p) (hn : l.length ≤ 2000000) : Fn Pr n_impl_RunProposal [.sl 6 eGAcceptor (fun _ => l), aGProposal p] (.tup [.sl 6 eGAcceptor (fun _ => runA l p), aGConfig (runC l p), .bo (runOk l p)]) := by
  cases hv : runIn l p
  · rw [runA, if_neg (by rw [hv]; simp), runC, runOk, hv]
    refine k_impl_RunProposal.fn (by kernel_rfl) ?_
    conv => arg 4; cbv
    repeat' first
      | (refine Sat.cmp (fun h => ?_) (fun h => ?_) <;> simp only [Cmp.holds] at h <;> (conv => arg 4; cbv))
      | (refine Sat.call (w_impl_acceptorsCopy l hb hn) rfl ledA ?_; conv => arg 4; cbv)
      | (refine Sat.callb (w_impl_AreAcceptors l hb) rfl ledA (fun h => ?_) (fun h => ?_) <;> (try simp only [decide_eq_true_eq, decide_eq_false_iff_not] at h) <;> (conv => arg 4; cbv))
      | (refine Sat.callb (w_impl_IsValidConfig p.Value hp.2.2) rfl ledA (fun h => ?_) (fun h => ?_) <;> (try simp only [decide_eq_true_eq, decide_eq_false_iff_not] at h) <;> (conv => arg 4; cbv))
      | (refine Sat.callb (w_impl_within _ _ _) rfl ledA (fun h => ?_) (fun h => ?_) <;> (try simp only [decide_eq_true_eq, decide_eq_false_iff_not] at h) <;> (conv => arg 4; cbv))
      | (exfalso; (try simp only [ncast] at *); simp_all [runIn]; done)
      | (refine Sat.need ndA ?_; conv => arg 4; cbv)
      | (refine Sat.idxk (by assumption) ?_; conv => arg 4; cbv) | (refine Sat.idx ndA (fun v_ hv_ => ?_); conv => arg 4; cbv)
      | (refine Sat.ari64 ndA ndA ?_; conv => arg 4; cbv)
      | (refine Sat.pop ?_; conv => arg 4; cbv)
      | refine Sat.done ?_
    all_goals exact .tup rfl (led_cons (.sl (by simp)) (led_cons ledA (led_cons (.same _) led_nil)))
  have hv' := hv
  simp only [runIn, Bool.and_eq_true, decide_eq_true_eq] at hv'
  have hl3 := areAcc_len hv'.1.1
  refine k_impl_RunProposal.fn (by kernel_rfl) ?_
  conv => arg 4; cbv
  repeat' first
    | (refine Sat.call (w_impl_acceptorsCopy l hb hn) rfl ledA ?_; conv => arg 4; cbv)
    | (refine Sat.callb (w_impl_AreAcceptors l hb) rfl ledA (fun h => ?_) (fun h => ?_) <;> (conv => arg 4; cbv))
    | (refine Sat.callb (w_impl_IsValidConfig p.Value hp.2.2) rfl ledA (fun h => ?_) (fun h => ?_) <;> (conv => arg 4; cbv))
    | (refine Sat.callb (w_impl_within _ _ _) rfl ledA (fun h => ?_) (fun h => ?_) <;> (conv => arg 4; cbv))
    | (exfalso; simp_all; done)
  refine Sat.loopP (ι := Nat) (fun i => [(8, .int .i64 (fun _ => (cntTo (hit1 p) l i : Int))), (10, .int .i64 (fun _ => (bestTo p l i).1)), (43, .int .i64 (fun _ => (i : Int)))]) (fun i => [(416, .lit 0 [.int .i64 (fun _ => (bestTo p l i).2.Epoch), .int .i64 (fun _ => (bestTo p l i).2.Primary), .sl 1 (encI .i64) (fun _ => (bestTo p l i).2.Replicas), .sl 1 (encI .i64) (fun _ => (bestTo p l i).2.Witnesses)]), (80, .row 6 eGAcceptor (fun _ => putTo (hit1 p) (fun a => prepareA a p.Ballot) l i) false)]) (fun i => i ≤ l.length) (fun i => l.length - i) 0 ?_ (by omega) (fun i hi => ?_)
  · refine les_of ?_ ?_ rfl
    iterate 2 (focus repeat' (first | exact trivial | refine And.intro ?_ ?_ | exact levA | refine lev_cons ?_ ?_ | refine LeV.agg rfl ?_ | exact Nat.le_of_ble_eq_true rfl | exact Or.inl ⟨_, rfl, .row rfl⟩ | refine Or.inl ⟨_, rfl, .row ?_⟩ | refine Or.inl ⟨_, rfl, .lit rfl ?_⟩ | exact Or.inr ⟨rfl, rfl⟩ | (exact putTo_zero.symm)))
  have hle := cntTo_le (h := hit1 p) (l := l) (k := i)
  have hpl : (putTo (hit1 p) (fun a => prepareA a p.Ballot) l i).length = l.length := putTo_len
  conv => arg 4; cbv
  repeat' first
    | (refine Sat.cmp (fun h => ?_) (fun h => ?_) <;> simp only [Cmp.holds] at h <;> (conv => arg 4; cbv))
    | (refine Sat.need ndA ?_; conv => arg 4; cbv)
    | (refine Sat.idxk (by assumption) ?_; conv => arg 4; cbv) | (refine Sat.idx ndA (fun v_ hv_ => ?_); conv => arg 4; cbv)
    | (refine Sat.ari64 ndA ndA ?_; conv => arg 4; cbv)
    | (refine Sat.pop ?_; conv => arg 4; cbv)
  · revert v_
    intro a ha
    have ha' : l[i]? = some a := by simpa using ha
    have H := w_impl_Prepare a p.Ballot (hb.2 _ (List.mem_of_getElem? ha'))
    cases hk : prepareOk a p.Ballot <;> rw [hk] at H <;> (refine Sat.call H rfl ledA ?_; conv => arg 4; cbv)
    · have hh : hit1 p i a = false := by rw [hit1, hk, Bool.false_and]
      have e1 := cntTo_miss (h := hit1 p) ha' hh
      have e2 := bestTo_miss ha' hh
      have e3 := putTo_miss (f := fun a => prepareA a p.Ballot) ha' hh
      repeat' first
        | (refine Sat.cmp (fun h => ?_) (fun h => ?_) <;> simp only [Cmp.holds] at h <;> (conv => arg 4; cbv))
        | (refine Sat.need ndA ?_; conv => arg 4; cbv)
        | (refine Sat.idxk (by assumption) ?_; conv => arg 4; cbv) | (refine Sat.idx ndA (fun v_ hv_ => ?_); conv => arg 4; cbv)
        | (refine Sat.ari64 ndA ndA ?_; conv => arg 4; cbv)
        | (refine Sat.pop ?_; conv => arg 4; cbv)
        | refine Sat.next (i + 1) ?_ (by exact arA) (by exact arA)
      refine les_of ?_ ?_ rfl
      iterate 2 (focus repeat' (first | exact trivial | refine And.intro ?_ ?_ | exact levA | refine lev_cons ?_ ?_ | refine LeV.agg rfl ?_ | exact Nat.le_of_ble_eq_true rfl | exact Or.inl ⟨_, rfl, .row rfl⟩ | refine Or.inl ⟨_, rfl, .row ?_⟩ | refine Or.inl ⟨_, rfl, .lit rfl ?_⟩ | exact Or.inr ⟨rfl, rfl⟩ | (first | exact .int ndA | (refine .int ?_; (try dsimp only); rw [e2]; done) | (refine .sl ?_; (try dsimp only); rw [e2]; done) | (rw [e3]; done))))
    · cases hh' : decide ((i : Int) ∈ p.First)
      · have hh : hit1 p i a = false := by rw [hit1, hk, hh']; rfl
        have e1 := cntTo_miss (h := hit1 p) ha' hh
        have e2 := bestTo_miss ha' hh
        have e3 := putTo_miss (f := fun a => prepareA a p.Ballot) ha' hh
        repeat' first
          | (refine Sat.cmp (fun h => ?_) (fun h => ?_) <;> simp only [Cmp.holds] at h <;> (conv => arg 4; cbv))
          | (refine Sat.need ndA ?_; conv => arg 4; cbv)
          | (refine Sat.idxk (by assumption) ?_; conv => arg 4; cbv) | (refine Sat.idx ndA (fun v_ hv_ => ?_); conv => arg 4; cbv)
          | (refine Sat.callb (w_impl_HasServer p.First (i : Int) hp.1) rfl ledA (fun h => ?_) (fun h => ?_) <;> (conv => arg 4; cbv))
          | (exfalso; rw [hh'] at *; contradiction)
          | (refine Sat.ari64 ndA ndA ?_; conv => arg 4; cbv)
          | (refine Sat.pop ?_; conv => arg 4; cbv)
          | refine Sat.next (i + 1) ?_ (by exact arA) (by exact arA)
        refine les_of ?_ ?_ rfl
        iterate 2 (focus repeat' (first | exact trivial | refine And.intro ?_ ?_ | exact levA | refine lev_cons ?_ ?_ | refine LeV.agg rfl ?_ | exact Nat.le_of_ble_eq_true rfl | exact Or.inl ⟨_, rfl, .row rfl⟩ | refine Or.inl ⟨_, rfl, .row ?_⟩ | refine Or.inl ⟨_, rfl, .lit rfl ?_⟩ | exact Or.inr ⟨rfl, rfl⟩ | (first | exact .int ndA | (refine .int ?_; (try dsimp only); rw [e2]; done) | (refine .sl ?_; (try dsimp only); rw [e2]; done) | (rw [e3]; done))))
      · have hh : hit1 p i a = true := by rw [hit1, hk, hh']; rfl
        have e1 := cntTo_hit (h := hit1 p) ha' hh
        have e3 := putTo_hit (f := fun a => prepareA a p.Ballot) ha' hh
        repeat' first
          | (refine Sat.cmp (fun h => ?_) (fun h => ?_) <;> simp only [Cmp.holds] at h <;> (conv => arg 4; cbv))
          | (refine Sat.need ndA ?_; conv => arg 4; cbv)
          | (refine Sat.idxk (by assumption) ?_; conv => arg 4; cbv) | (refine Sat.idx ndA (fun v_ hv_ => ?_); conv => arg 4; cbv)
          | (refine Sat.callb (w_impl_HasServer p.First (i : Int) hp.1) rfl ledA (fun h => ?_) (fun h => ?_) <;> (conv => arg 4; cbv))
          | (exfalso; rw [hh'] at *; contradiction)
          | (refine Sat.typed (prepareA a p.Ballot) tcA ?_; conv => arg 4; cbv)
          | (refine Sat.ari64 ndA ndA ?_; conv => arg 4; cbv)
          | (refine Sat.pop ?_; conv => arg 4; cbv)
          | refine Sat.next (i + 1) ?_ (by exact arA) (by exact arA)
        · have e2 := bestTo_hit ha' hh (by assumption)
          refine les_of ?_ ?_ rfl
          iterate 2 (focus repeat' (first | exact trivial | refine And.intro ?_ ?_ | exact levA | refine lev_cons ?_ ?_ | refine LeV.agg rfl ?_ | exact Nat.le_of_ble_eq_true rfl | exact Or.inl ⟨_, rfl, .row rfl⟩ | refine Or.inl ⟨_, rfl, .row ?_⟩ | refine Or.inl ⟨_, rfl, .lit rfl ?_⟩ | exact Or.inr ⟨rfl, rfl⟩ | (first | exact .int ndA | (refine .int ?_; (try dsimp only); rw [e2]; done) | (refine .sl ?_; (try dsimp only); rw [e2]; done) | (refine Eq.trans ?_ e3.symm; simp [setAt]; done))))
        · have e2 := bestTo_low (p := p) ha' (by assumption)
          refine les_of ?_ ?_ rfl
          iterate 2 (focus repeat' (first | exact trivial | refine And.intro ?_ ?_ | exact levA | refine lev_cons ?_ ?_ | refine LeV.agg rfl ?_ | exact Nat.le_of_ble_eq_true rfl | exact Or.inl ⟨_, rfl, .row rfl⟩ | refine Or.inl ⟨_, rfl, .row ?_⟩ | refine Or.inl ⟨_, rfl, .lit rfl ?_⟩ | exact Or.inr ⟨rfl, rfl⟩ | (first | exact .int ndA | (refine .int ?_; (try dsimp only); rw [e2]; done) | (refine .sl ?_; (try dsimp only); rw [e2]; done) | (refine Eq.trans ?_ e3.symm; simp [setAt]; done))))
  · have ei : i = 3 := by exact arA
    subst ei
    have hr1 : run1Ok l p = false := by rw [run1Ok]; simp; exact arA
    rw [runA, if_pos hv, hr1, if_neg (by simp), runC, runOk, hr1, Bool.and_false, Bool.false_and, if_neg (by simp)]
    exact Sat.done (.tup rfl (led_cons (.sl (by simp [run1, hpl, hl3])) (led_cons ledA (led_cons (.same _) led_nil))))
  have ei : i = 3 := by exact arA
  subst ei
  have hr1 : run1Ok l p = true := by rw [run1Ok]; simp; exact arA
  rw [runA, if_pos hv, if_pos hr1, runC, runOk, hv, hr1, Bool.true_and, Bool.true_and]
  have hb1 : bAcceptorS (run1 l p) := putTo_b (fun a => prepareA_b) hb
  have hbv : bConfig (runV l p) := bestTo_b hb hp.2.2
  have hl1 : (run1 l p).length = 3 := by rw [run1, putTo_len, hl3]
  clear hle hpl
  revert h hb1 hbv hl1
  rw [show runV l p = (bestTo p l 3).2 from rfl, show run1 l p = putTo (hit1 p) (fun a => prepareA a p.Ballot) l 3 from rfl]
  generalize (bestTo p l 3).2 = V
  generalize putTo (hit1 p) (fun a => prepareA a p.Ballot) l 3 = x1
  intro h hb1 hbv hl1
  refine Sat.loopP (ι := Nat) (fun i => [(9, .int .i64 (fun _ => (cntTo (hit2 p V) x1 i : Int))), (84, .int .i64 (fun _ => (i : Int)))]) (fun i => [(80, .row 6 eGAcceptor (fun _ => putTo (hit2 p V) (fun a => acceptA a p.Ballot V) x1 i) false)]) (fun i => i ≤ 3) (fun i => 3 - i) 0 ?_ (by omega) (fun i hi => ?_)
  · refine les_of ?_ ?_ rfl
    iterate 2 (focus repeat' (first | exact trivial | refine And.intro ?_ ?_ | exact levA | refine lev_cons ?_ ?_ | refine LeV.agg rfl ?_ | exact Nat.le_of_ble_eq_true rfl | exact Or.inl ⟨_, rfl, .row rfl⟩ | refine Or.inl ⟨_, rfl, .row ?_⟩ | refine Or.inl ⟨_, rfl, .lit rfl ?_⟩ | exact Or.inr ⟨rfl, rfl⟩ | (exact putTo_zero.symm)))
  have hle := cntTo_le (h := hit2 p V) (l := x1) (k := i)
  have hpl : (putTo (hit2 p V) (fun a => acceptA a p.Ballot V) x1 i).length = x1.length := putTo_len
  conv => arg 4; cbv
  repeat' first
    | (refine Sat.cmp (fun h => ?_) (fun h => ?_) <;> simp only [Cmp.holds] at h <;> (conv => arg 4; cbv))
    | (refine Sat.need ndA ?_; conv => arg 4; cbv)
    | (refine Sat.idxk (by assumption) ?_; conv => arg 4; cbv) | (refine Sat.idx ndA (fun v_ hv_ => ?_); conv => arg 4; cbv)
    | (refine Sat.call (w_impl_configCopy V hbv) rfl ledA ?_; conv => arg 4; cbv)
    | (refine Sat.ari64 ndA ndA ?_; conv => arg 4; cbv)
    | (refine Sat.pop ?_; conv => arg 4; cbv)
  · revert v_
    intro a ha
    have ha' : x1[i]? = some a := by rw [putTo_get (by simp)] at ha; simpa using ha
    have H := w_impl_Accept a p.Ballot V (hb1.2 _ (List.mem_of_getElem? ha')) hbv
    cases hk : acceptOk a p.Ballot V <;> rw [hk] at H <;> (refine Sat.call H rfl ledA ?_; conv => arg 4; cbv)
    · have hh : hit2 p V i a = false := by rw [hit2, hk, Bool.false_and]
      have e1 := cntTo_miss (h := hit2 p V) ha' hh
      have e3 := putTo_miss (f := fun a => acceptA a p.Ballot V) ha' hh
      repeat' first
        | (refine Sat.cmp (fun h => ?_) (fun h => ?_) <;> simp only [Cmp.holds] at h <;> (conv => arg 4; cbv))
        | (refine Sat.need ndA ?_; conv => arg 4; cbv)
        | (refine Sat.idxk (by assumption) ?_; conv => arg 4; cbv) | (refine Sat.idx ndA (fun v_ hv_ => ?_); conv => arg 4; cbv)
        | (refine Sat.ari64 ndA ndA ?_; conv => arg 4; cbv)
        | (refine Sat.pop ?_; conv => arg 4; cbv)
        | refine Sat.next (i + 1) ?_ (by exact arA) (by exact arA)
      refine les_of ?_ ?_ rfl
      iterate 2 (focus repeat' (first | exact trivial | refine And.intro ?_ ?_ | exact levA | refine lev_cons ?_ ?_ | refine LeV.agg rfl ?_ | exact Nat.le_of_ble_eq_true rfl | exact Or.inl ⟨_, rfl, .row rfl⟩ | refine Or.inl ⟨_, rfl, .row ?_⟩ | refine Or.inl ⟨_, rfl, .lit rfl ?_⟩ | exact Or.inr ⟨rfl, rfl⟩ | (first | exact .int ndA | (rw [e3]; done))))
    · cases hh' : decide ((i : Int) ∈ p.Second)
      · have hh : hit2 p V i a = false := by rw [hit2, hk, hh']; rfl
        have e1 := cntTo_miss (h := hit2 p V) ha' hh
        have e3 := putTo_miss (f := fun a => acceptA a p.Ballot V) ha' hh
        repeat' first
          | (refine Sat.cmp (fun h => ?_) (fun h => ?_) <;> simp only [Cmp.holds] at h <;> (conv => arg 4; cbv))
          | (refine Sat.need ndA ?_; conv => arg 4; cbv)
          | (refine Sat.idxk (by assumption) ?_; conv => arg 4; cbv) | (refine Sat.idx ndA (fun v_ hv_ => ?_); conv => arg 4; cbv)
          | (refine Sat.callb (w_impl_HasServer p.Second (i : Int) hp.2.1) rfl ledA (fun h => ?_) (fun h => ?_) <;> (conv => arg 4; cbv))
          | (exfalso; rw [hh'] at *; contradiction)
          | (refine Sat.ari64 ndA ndA ?_; conv => arg 4; cbv)
          | (refine Sat.pop ?_; conv => arg 4; cbv)
          | refine Sat.next (i + 1) ?_ (by exact arA) (by exact arA)
        refine les_of ?_ ?_ rfl
        iterate 2 (focus repeat' (first | exact trivial | refine And.intro ?_ ?_ | exact levA | refine lev_cons ?_ ?_ | refine LeV.agg rfl ?_ | exact Nat.le_of_ble_eq_true rfl | exact Or.inl ⟨_, rfl, .row rfl⟩ | refine Or.inl ⟨_, rfl, .row ?_⟩ | refine Or.inl ⟨_, rfl, .lit rfl ?_⟩ | exact Or.inr ⟨rfl, rfl⟩ | (first | exact .int ndA | (rw [e3]; done))))
      · have hh : hit2 p V i a = true := by rw [hit2, hk, hh']; rfl
        have e1 := cntTo_hit (h := hit2 p V) ha' hh
        have e3 := putTo_hit (f := fun a => acceptA a p.Ballot V) ha' hh
        repeat' first
          | (refine Sat.cmp (fun h => ?_) (fun h => ?_) <;> simp only [Cmp.holds] at h <;> (conv => arg 4; cbv))
          | (refine Sat.need ndA ?_; conv => arg 4; cbv)
          | (refine Sat.idxk (by assumption) ?_; conv => arg 4; cbv) | (refine Sat.idx ndA (fun v_ hv_ => ?_); conv => arg 4; cbv)
          | (refine Sat.callb (w_impl_HasServer p.Second (i : Int) hp.2.1) rfl ledA (fun h => ?_) (fun h => ?_) <;> (conv => arg 4; cbv))
          | (exfalso; rw [hh'] at *; contradiction)
          | (refine Sat.typed (acceptA a p.Ballot V) tcA ?_; conv => arg 4; cbv)
          | (refine Sat.ari64 ndA ndA ?_; conv => arg 4; cbv)
          | (refine Sat.pop ?_; conv => arg 4; cbv)
          | refine Sat.next (i + 1) ?_ (by exact arA) (by exact arA)
        refine les_of ?_ ?_ rfl
        iterate 2 (focus repeat' (first | exact trivial | refine And.intro ?_ ?_ | exact levA | refine lev_cons ?_ ?_ | refine LeV.agg rfl ?_ | exact Nat.le_of_ble_eq_true rfl | exact Or.inl ⟨_, rfl, .row rfl⟩ | refine Or.inl ⟨_, rfl, .row ?_⟩ | refine Or.inl ⟨_, rfl, .lit rfl ?_⟩ | exact Or.inr ⟨rfl, rfl⟩ | (first | exact .int ndA | (refine Eq.trans ?_ e3.symm; simp [setAt]; done))))
  · have ei : i = 3 := by exact arA
    subst ei
    have hr2 : run2Ok x1 p V = false := by rw [run2Ok]; simp; exact arA
    rw [hr2, if_neg (by simp)]
    exact Sat.done (.tup rfl (led_cons (.sl (by simp [run2, hpl, hl1, hl3])) (led_cons ledA (led_cons (.same _) led_nil))))
  · have ei : i = 3 := by exact arA
    subst ei
    have hr2 : run2Ok x1 p V = true := by rw [run2Ok]; simp; exact arA
    rw [hr2, if_pos rfl]
    exact Sat.done (.tup rfl (led_cons (.sl (by simp [run2, hpl, hl1, hl3])) (led_cons ledA (led_cons (.same _) led_nil))))

theorem Sat.nextR2 {ι : Type} {As : List (St → Prop)} {Q : AV → Prop} {s : St} {G : ι → Prop} {μ : ι → Nat} {S : ι → St} {x : ι} (b c b' c' : Nat) (y : ι) (hc : noFx c s.st = true) (hb : noFx b s.st = true) (hlt : Nat.blt c s.nx = true) (hlt2 : Nat.blt b s.nx = true) (hc' : noFx c' (renS b c s).st = true) (hb' : noFx b' (renS b c s).st = true) (hlt' : Nat.blt c' (renS b c s).nx = true) (hlt2' : Nat.blt b' (renS b c s).nx = true) (h : LeS (renS b' c' (renS b c s)) (S y)) (hg : G y) (hm : μ y < μ x) : Sat Pr Q ((fun s' => ∃ y, LeS s' (S y) ∧ G y ∧ μ y < μ x) :: As) (.again s) :=
  .again (.step b c hc hb hlt hlt2 (.step b' c' hc' hb' hlt' hlt2' (.refl _))) ⟨y, h, hg, hm⟩

set_option maxHeartbeats 1000000 in
theorem w_spec_RunProposal (l : List GAcceptor) (p : GProposal) (hb : bAcceptorS l) (hp : bProposal p) (hn : l.length ≤ 2000000) : Fn Pr n_spec_RunProposal [.sl 6 eGAcceptor (fun _ => l), aGProposal p] (.tup [.sl 6 eGAcceptor (fun _ => runA l p), aGConfig (runC l p), .bo (runOk l p)]) := by
  cases hv : runIn l p
  · rw [runA, if_neg (by rw [hv]; simp), runC, runOk, hv]
    refine k_spec_RunProposal.fn (by kernel_rfl) ?_
    conv => arg 4; cbv
    repeat' first
      | (refine Sat.cmp (fun h => ?_) (fun h => ?_) <;> simp only [Cmp.holds] at h <;> (conv => arg 4; cbv))
      | (refine Sat.call (w_spec_l11Copy l hb hn) rfl ledA ?_; conv => arg 4; cbv)
      | (refine Sat.callb (w_spec_AreAcceptors l hb) rfl ledA (fun h => ?_) (fun h => ?_) <;> (try simp only [decide_eq_true_eq, decide_eq_false_iff_not] at h) <;> (conv => arg 4; cbv))
      | (refine Sat.callb (w_spec_IsValidConfig p.Value hp.2.2) rfl ledA (fun h => ?_) (fun h => ?_) <;> (try simp only [decide_eq_true_eq, decide_eq_false_iff_not] at h) <;> (conv => arg 4; cbv))
      | (refine Sat.callb (w_spec_l1In _ _ _) rfl ledA (fun h => ?_) (fun h => ?_) <;> (try simp only [decide_eq_true_eq, decide_eq_false_iff_not] at h) <;> (conv => arg 4; cbv))
      | (exfalso; (try simp only [ncast] at *); simp_all [runIn]; done)
      | (refine Sat.need ndA ?_; conv => arg 4; cbv)
      | (refine Sat.idxk (by assumption) ?_; conv => arg 4; cbv) | (refine Sat.idx ndA (fun v_ hv_ => ?_); conv => arg 4; cbv)
      | (refine Sat.ari64 ndA ndA ?_; conv => arg 4; cbv)
      | (refine Sat.pop ?_; conv => arg 4; cbv)
      | refine Sat.done ?_
    all_goals exact .tup rfl (led_cons (.sl (by simp)) (led_cons ledA (led_cons (.same _) led_nil)))
  have hv' := hv
  simp only [runIn, Bool.and_eq_true, decide_eq_true_eq] at hv'
  have hl3 := areAcc_len hv'.1.1
  refine k_spec_RunProposal.fn (by kernel_rfl) ?_
  conv => arg 4; cbv
  repeat' first
    | (refine Sat.call (w_spec_l11Copy l hb hn) rfl ledA ?_; conv => arg 4; cbv)
    | (refine Sat.callb (w_spec_AreAcceptors l hb) rfl ledA (fun h => ?_) (fun h => ?_) <;> (conv => arg 4; cbv))
    | (refine Sat.callb (w_spec_IsValidConfig p.Value hp.2.2) rfl ledA (fun h => ?_) (fun h => ?_) <;> (conv => arg 4; cbv))
    | (refine Sat.callb (w_spec_l1In _ _ _) rfl ledA (fun h => ?_) (fun h => ?_) <;> (conv => arg 4; cbv))
    | (refine Sat.call (w_spec_l8Copy p.Value hp.2.2) rfl ledA ?_; conv => arg 4; cbv)
    | (exfalso; simp_all; done)
  refine Sat.loopP (ι := Nat) (fun i => [(8, .int .i64 (fun _ => (cntTo (hit1 p) l i : Int))), (9, .int .i64 (fun _ => (bestTo p l i).1)), (11, .int .i64 (fun _ => (i : Int)))]) (fun i => [(432, .lit 0 [.int .i64 (fun _ => (bestTo p l i).2.Epoch), .int .i64 (fun _ => (bestTo p l i).2.Primary), .ref 416 (fun _ => 0) (fun _ => (bestTo p l i).2.Replicas.length), .ref 417 (fun _ => 0) (fun _ => (bestTo p l i).2.Witnesses.length)]), (416, .row 1 (encI .i64) (fun _ => (bestTo p l i).2.Replicas) false), (417, .row 1 (encI .i64) (fun _ => (bestTo p l i).2.Witnesses) false), (80, .row 6 eGAcceptor (fun _ => putTo (hit1 p) (fun a => prepareA a p.Ballot) l i) false)]) (fun i => i ≤ l.length) (fun i => l.length - i) 0 ?_ (by omega) (fun i hi => ?_)
  · refine les_of ?_ ?_ rfl
    iterate 2 (focus repeat' (first | exact trivial | refine And.intro ?_ ?_ | exact levA | refine lev_cons ?_ ?_ | refine LeV.agg rfl ?_ | exact Nat.le_of_ble_eq_true rfl | exact Or.inl ⟨_, rfl, .row rfl⟩ | refine Or.inl ⟨_, rfl, .row ?_⟩ | refine Or.inl ⟨_, rfl, .lit rfl ?_⟩ | exact Or.inr ⟨rfl, rfl⟩ | (exact putTo_zero.symm)))
  have hle := cntTo_le (h := hit1 p) (l := l) (k := i)
  have hpl : (putTo (hit1 p) (fun a => prepareA a p.Ballot) l i).length = l.length := putTo_len
  conv => arg 4; cbv
  repeat' first
    | (refine Sat.cmp (fun h => ?_) (fun h => ?_) <;> simp only [Cmp.holds] at h <;> (conv => arg 4; cbv))
    | (refine Sat.need ndA ?_; conv => arg 4; cbv)
    | (refine Sat.callb (w_spec_HasServer p.First (i : Int) hp.1) rfl ledA (fun h => ?_) (fun h => ?_) <;> (conv => arg 4; cbv))
    | (refine Sat.idxk (by assumption) ?_; conv => arg 4; cbv) | (refine Sat.idx ndA (fun v_ hv_ => ?_); conv => arg 4; cbv)
    | (refine Sat.ari64 ndA ndA ?_; conv => arg 4; cbv)
    | (refine Sat.pop ?_; conv => arg 4; cbv)
  · revert v_
    intro a ha
    have ha2 : (putTo (hit1 p) (fun a => prepareA a p.Ballot) l i)[i]? = some a := by simpa using ha
    have ha' : l[i]? = some a := by rw [putTo_get (Nat.le_refl _)] at ha2; exact ha2
    have hf : decide ((i : Int) ∈ p.First) = true := by assumption
    have H := w_spec_Prepare a p.Ballot (hb.2 _ (List.mem_of_getElem? ha'))
    have hB : (prepareA a p.Ballot).Ballot = a.Ballot := by unfold prepareA; split <;> rfl
    have hV : (prepareA a p.Ballot).Value = a.Value := by unfold prepareA; split <;> rfl
    cases hk : prepareOk a p.Ballot <;> rw [hk] at H
    · have hh : hit1 p i a = false := by rw [hit1, hk, Bool.false_and]
      have e1 := cntTo_miss (h := hit1 p) ha' hh
      have e2 := bestTo_miss ha' hh
      have e3 := (putTo_miss (f := fun a => prepareA a p.Ballot) ha' hh).trans (set_same ha2).symm
      rw [prepareA_no hk] at H
      refine Sat.call H rfl ledA ?_
      conv => arg 4; cbv
      repeat' first
        | (refine Sat.cmp (fun h => ?_) (fun h => ?_) <;> simp only [Cmp.holds] at h <;> (conv => arg 4; cbv))
        | (refine Sat.need ndA ?_; conv => arg 4; cbv)
        | (refine Sat.idxk (by assumption) ?_; conv => arg 4; cbv) | (refine Sat.idx ndA (fun v_ hv_ => ?_); conv => arg 4; cbv)
        | (refine Sat.typed a tcA ?_; conv => arg 4; cbv)
        | (refine Sat.ari64 ndA ndA ?_; conv => arg 4; cbv)
        | (refine Sat.pop ?_; conv => arg 4; cbv)
        | refine Sat.next (i + 1) ?_ (by exact arA) (by exact arA)
      refine les_of ?_ ?_ rfl
      iterate 2 (focus repeat' (first | exact trivial | refine And.intro ?_ ?_ | exact levA | refine lev_cons ?_ ?_ | refine LeV.agg rfl ?_ | exact Nat.le_of_ble_eq_true rfl | exact Or.inl ⟨_, rfl, .row rfl⟩ | refine Or.inl ⟨_, rfl, .row ?_⟩ | refine Or.inl ⟨_, rfl, .lit rfl ?_⟩ | exact Or.inr ⟨rfl, rfl⟩ | (first | exact .int ndA | (refine .int ?_; (try dsimp only); rw [e2]; done) | (exact .ref (fun h => nomatch h) (fun h => nomatch h) rfl (by (try dsimp only); rw [e2])) | (rw [e2]; done) | (refine Eq.trans ?_ e3.symm; simp [setAt]; done))))
    · have hh : hit1 p i a = true := by rw [hit1, hk, hf]; rfl
      have e1 := cntTo_hit (h := hit1 p) ha' hh
      have e3 := putTo_hit (f := fun a => prepareA a p.Ballot) ha' hh
      have hbv : bConfig (prepareA a p.Ballot).Value := by rw [hV]; exact hb.2 _ (List.mem_of_getElem? ha')
      generalize prepareA a p.Ballot = pa at *
      refine Sat.call H rfl ledA ?_
      conv => arg 4; cbv
      repeat' first
        | (refine Sat.cmp (fun h => ?_) (fun h => ?_) <;> simp only [Cmp.holds] at h <;> (conv => arg 4; cbv))
        | (refine Sat.need ndA ?_; conv => arg 4; cbv)
        | (refine Sat.idxk (by assumption) ?_; conv => arg 4; cbv) | (refine Sat.idx ndA (fun v_ hv_ => ?_); conv => arg 4; cbv)
        | (refine Sat.typed pa tcA ?_; conv => arg 4; cbv)
        | (refine Sat.call (w_spec_l8Copy pa.Value hbv) rfl ledA ?_; conv => arg 4; cbv)
        | (refine Sat.ari64 ndA ndA ?_; conv => arg 4; cbv)
        | (refine Sat.pop ?_; conv => arg 4; cbv)
      · have e2 : bestTo p l (i + 1) = (pa.Ballot, pa.Value) := by rw [hB, hV]; exact bestTo_hit ha' hh (by rw [← hB]; assumption)
        refine Sat.nextR2 1140 416 1141 417 (i + 1) rfl rfl rfl rfl rfl rfl rfl rfl ?_ (by exact arA) (by exact arA)
        refine les_of ?_ ?_ rfl
        iterate 2 (focus repeat' (first | exact trivial | refine And.intro ?_ ?_ | exact levA | refine lev_cons ?_ ?_ | refine LeV.agg rfl ?_ | exact Nat.le_of_ble_eq_true rfl | exact Or.inl ⟨_, rfl, .row rfl⟩ | refine Or.inl ⟨_, rfl, .row ?_⟩ | refine Or.inl ⟨_, rfl, .lit rfl ?_⟩ | exact Or.inr ⟨rfl, rfl⟩ | (first | exact .int ndA | (refine .int ?_; (try dsimp only); rw [e2]; done) | (exact .ref (fun h => nomatch h) (fun h => nomatch h) rfl (by (try dsimp only); rw [e2])) | (rw [e2]; done) | (refine Eq.trans ?_ e3.symm; simp [setAt]; done))))
      · have e2 := bestTo_low (p := p) ha' (by rw [← hB]; assumption)
        refine Sat.next (i + 1) ?_ (by exact arA) (by exact arA)
        refine les_of ?_ ?_ rfl
        iterate 2 (focus repeat' (first | exact trivial | refine And.intro ?_ ?_ | exact levA | refine lev_cons ?_ ?_ | refine LeV.agg rfl ?_ | exact Nat.le_of_ble_eq_true rfl | exact Or.inl ⟨_, rfl, .row rfl⟩ | refine Or.inl ⟨_, rfl, .row ?_⟩ | refine Or.inl ⟨_, rfl, .lit rfl ?_⟩ | exact Or.inr ⟨rfl, rfl⟩ | (first | exact .int ndA | (refine .int ?_; (try dsimp only); rw [e2]; done) | (exact .ref (fun h => nomatch h) (fun h => nomatch h) rfl (by (try dsimp only); rw [e2])) | (rw [e2]; done) | (refine Eq.trans ?_ e3.symm; simp [setAt]; done))))
  · have hf : decide ((i : Int) ∈ p.First) = false := by assumption
    obtain ⟨a, ha'⟩ : ∃ a, l[i]? = some a := ⟨_, List.getElem?_eq_getElem (by exact arA)⟩
    have hh : hit1 p i a = false := by rw [hit1, hf, Bool.and_false]
    have e1 := cntTo_miss (h := hit1 p) ha' hh
    have e2 := bestTo_miss ha' hh
    have e3 := putTo_miss (f := fun a => prepareA a p.Ballot) ha' hh
    refine Sat.next (i + 1) ?_ (by exact arA) (by exact arA)
    refine les_of ?_ ?_ rfl
    iterate 2 (focus repeat' (first | exact trivial | refine And.intro ?_ ?_ | exact levA | refine lev_cons ?_ ?_ | refine LeV.agg rfl ?_ | exact Nat.le_of_ble_eq_true rfl | exact Or.inl ⟨_, rfl, .row rfl⟩ | refine Or.inl ⟨_, rfl, .row ?_⟩ | refine Or.inl ⟨_, rfl, .lit rfl ?_⟩ | exact Or.inr ⟨rfl, rfl⟩ | (first | exact .int ndA | (refine .int ?_; (try dsimp only); rw [e2]; done) | (exact .ref (fun h => nomatch h) (fun h => nomatch h) rfl (by (try dsimp only); rw [e2])) | (rw [e2]; done) | (rw [e3]; done) | (refine Eq.trans ?_ e3.symm; simp [setAt]; done))))
  · have ei : i = 3 := by exact arA
    subst ei
    have hr1 : run1Ok l p = false := by rw [run1Ok]; simp; exact arA
    rw [runA, if_pos hv, hr1, if_neg (by simp), runC, runOk, hr1, Bool.and_false, Bool.false_and, if_neg (by simp)]
    exact Sat.done (.tup rfl (led_cons (.sl (by simp [run1, hpl, hl3])) (led_cons ledA (led_cons (.same _) led_nil))))
  have ei : i = 3 := by exact arA
  subst ei
  have hr1 : run1Ok l p = true := by rw [run1Ok]; simp; exact arA
  rw [runA, if_pos hv, if_pos hr1, runC, runOk, hv, hr1, Bool.true_and, Bool.true_and]
  have hb1 : bAcceptorS (run1 l p) := putTo_b (fun a => prepareA_b) hb
  have hbv : bConfig (runV l p) := bestTo_b hb hp.2.2
  have hl1 : (run1 l p).length = 3 := by rw [run1, putTo_len, hl3]
  clear hle hpl
  revert h hb1 hbv hl1
  rw [show runV l p = (bestTo p l 3).2 from rfl, show run1 l p = putTo (hit1 p) (fun a => prepareA a p.Ballot) l 3 from rfl]
  generalize (bestTo p l 3).2 = V
  generalize putTo (hit1 p) (fun a => prepareA a p.Ballot) l 3 = x1
  intro h hb1 hbv hl1
  refine Sat.loopP (ι := Nat) (fun i => [(14, .int .i64 (fun _ => (cntTo (hit2 p V) x1 i : Int))), (15, .int .i64 (fun _ => (i : Int)))]) (fun i => [(80, .row 6 eGAcceptor (fun _ => putTo (hit2 p V) (fun a => acceptA a p.Ballot V) x1 i) false)]) (fun i => i ≤ 3) (fun i => 3 - i) 0 ?_ (by omega) (fun i hi => ?_)
  · refine les_of ?_ ?_ rfl
    iterate 2 (focus repeat' (first | exact trivial | refine And.intro ?_ ?_ | exact levA | refine lev_cons ?_ ?_ | refine LeV.agg rfl ?_ | exact Nat.le_of_ble_eq_true rfl | exact Or.inl ⟨_, rfl, .row rfl⟩ | refine Or.inl ⟨_, rfl, .row ?_⟩ | refine Or.inl ⟨_, rfl, .lit rfl ?_⟩ | exact Or.inr ⟨rfl, rfl⟩ | (exact putTo_zero.symm)))
  have hle := cntTo_le (h := hit2 p V) (l := x1) (k := i)
  have hpl : (putTo (hit2 p V) (fun a => acceptA a p.Ballot V) x1 i).length = x1.length := putTo_len
  conv => arg 4; cbv
  repeat' first
    | (refine Sat.cmp (fun h => ?_) (fun h => ?_) <;> simp only [Cmp.holds] at h <;> (conv => arg 4; cbv))
    | (refine Sat.need ndA ?_; conv => arg 4; cbv)
    | (refine Sat.callb (w_spec_HasServer p.Second (i : Int) hp.2.1) rfl ledA (fun h => ?_) (fun h => ?_) <;> (conv => arg 4; cbv))
    | (refine Sat.idxk (by assumption) ?_; conv => arg 4; cbv) | (refine Sat.idx ndA (fun v_ hv_ => ?_); conv => arg 4; cbv)
    | (refine Sat.ari64 ndA ndA ?_; conv => arg 4; cbv)
    | (refine Sat.pop ?_; conv => arg 4; cbv)
  · revert v_
    intro a ha
    have ha2 : (putTo (hit2 p V) (fun a => acceptA a p.Ballot V) x1 i)[i]? = some a := by simpa using ha
    have ha' : x1[i]? = some a := by rw [putTo_get (Nat.le_refl _)] at ha2; exact ha2
    have hf : decide ((i : Int) ∈ p.Second) = true := by assumption
    have H := w_spec_Accept a p.Ballot V (hb1.2 _ (List.mem_of_getElem? ha')) hbv
    cases hk : acceptOk a p.Ballot V <;> rw [hk] at H
    · have hh : hit2 p V i a = false := by rw [hit2, hk, Bool.false_and]
      have e1 := cntTo_miss (h := hit2 p V) ha' hh
      have e3 := (putTo_miss (f := fun a => acceptA a p.Ballot V) ha' hh).trans (set_same ha2).symm
      rw [acceptA_no hk] at H
      refine Sat.call H rfl ledA ?_
      conv => arg 4; cbv
      repeat' first
        | (refine Sat.cmp (fun h => ?_) (fun h => ?_) <;> simp only [Cmp.holds] at h <;> (conv => arg 4; cbv))
        | (refine Sat.need ndA ?_; conv => arg 4; cbv)
        | (refine Sat.idxk (by assumption) ?_; conv => arg 4; cbv) | (refine Sat.idx ndA (fun v_ hv_ => ?_); conv => arg 4; cbv)
        | (refine Sat.typed a tcA ?_; conv => arg 4; cbv)
        | (refine Sat.ari64 ndA ndA ?_; conv => arg 4; cbv)
        | (refine Sat.pop ?_; conv => arg 4; cbv)
        | refine Sat.next (i + 1) ?_ (by exact arA) (by exact arA)
      refine les_of ?_ ?_ rfl
      iterate 2 (focus repeat' (first | exact trivial | refine And.intro ?_ ?_ | exact levA | refine lev_cons ?_ ?_ | refine LeV.agg rfl ?_ | exact Nat.le_of_ble_eq_true rfl | exact Or.inl ⟨_, rfl, .row rfl⟩ | refine Or.inl ⟨_, rfl, .row ?_⟩ | refine Or.inl ⟨_, rfl, .lit rfl ?_⟩ | exact Or.inr ⟨rfl, rfl⟩ | (first | exact .int ndA | (rw [e3]; done) | (refine Eq.trans ?_ e3.symm; simp [setAt]; done))))
    · have hh : hit2 p V i a = true := by rw [hit2, hk, hf]; rfl
      have e1 := cntTo_hit (h := hit2 p V) ha' hh
      have e3 := putTo_hit (f := fun a => acceptA a p.Ballot V) ha' hh
      generalize acceptA a p.Ballot V = pa at *
      refine Sat.call H rfl ledA ?_
      conv => arg 4; cbv
      repeat' first
        | (refine Sat.cmp (fun h => ?_) (fun h => ?_) <;> simp only [Cmp.holds] at h <;> (conv => arg 4; cbv))
        | (refine Sat.need ndA ?_; conv => arg 4; cbv)
        | (refine Sat.idxk (by assumption) ?_; conv => arg 4; cbv) | (refine Sat.idx ndA (fun v_ hv_ => ?_); conv => arg 4; cbv)
        | (refine Sat.typed pa tcA ?_; conv => arg 4; cbv)
        | (refine Sat.ari64 ndA ndA ?_; conv => arg 4; cbv)
        | (refine Sat.pop ?_; conv => arg 4; cbv)
        | refine Sat.next (i + 1) ?_ (by exact arA) (by exact arA)
      refine les_of ?_ ?_ rfl
      iterate 2 (focus repeat' (first | exact trivial | refine And.intro ?_ ?_ | exact levA | refine lev_cons ?_ ?_ | refine LeV.agg rfl ?_ | exact Nat.le_of_ble_eq_true rfl | exact Or.inl ⟨_, rfl, .row rfl⟩ | refine Or.inl ⟨_, rfl, .row ?_⟩ | refine Or.inl ⟨_, rfl, .lit rfl ?_⟩ | exact Or.inr ⟨rfl, rfl⟩ | (first | exact .int ndA | (rw [e3]; done) | (refine Eq.trans ?_ e3.symm; simp [setAt]; done))))
  · have hf : decide ((i : Int) ∈ p.Second) = false := by assumption
    obtain ⟨a, ha'⟩ : ∃ a, x1[i]? = some a := ⟨_, List.getElem?_eq_getElem (by exact arA)⟩
    have hh : hit2 p V i a = false := by rw [hit2, hf, Bool.and_false]
    have e1 := cntTo_miss (h := hit2 p V) ha' hh
    have e3 := putTo_miss (f := fun a => acceptA a p.Ballot V) ha' hh
    refine Sat.next (i + 1) ?_ (by exact arA) (by exact arA)
    refine les_of ?_ ?_ rfl
    iterate 2 (focus repeat' (first | exact trivial | refine And.intro ?_ ?_ | exact levA | refine lev_cons ?_ ?_ | refine LeV.agg rfl ?_ | exact Nat.le_of_ble_eq_true rfl | exact Or.inl ⟨_, rfl, .row rfl⟩ | refine Or.inl ⟨_, rfl, .row ?_⟩ | refine Or.inl ⟨_, rfl, .lit rfl ?_⟩ | exact Or.inr ⟨rfl, rfl⟩ | (first | exact .int ndA | (rw [e3]; done) | (refine Eq.trans ?_ e3.symm; simp [setAt]; done))))
  · have ei : i = 3 := by exact arA
    subst ei
    have hr2 : run2Ok x1 p V = false := by rw [run2Ok]; simp; exact arA
    rw [hr2, if_neg (by simp)]
    exact Sat.done (.tup rfl (led_cons (.sl (by simp [run2, hpl, hl1, hl3])) (led_cons ledA (led_cons (.same _) led_nil))))
  · have ei : i = 3 := by exact arA
    subst ei
    have hr2 : run2Ok x1 p V = true := by rw [run2Ok]; simp; exact arA
    rw [hr2, if_pos rfl]
    exact Sat.done (.tup rfl (led_cons (.sl (by simp [run2, hpl, hl1, hl3])) (led_cons ledA (led_cons (.same _) led_nil))))

def runsTo (l : List GProposal) : Nat → List GAcceptor × List Bool
  | 0 => (newAcc, [])
  | k + 1 => match l[k]? with | some p => (runA (runsTo l k).1 p, (runsTo l k).2 ++ [runOk (runsTo l k).1 p]) | none => runsTo l k
theorem runsTo_step {l : List GProposal} {k : Nat} {p : GProposal} (h : l[k]? = some p) : runsTo l (k + 1) = (runA (runsTo l k).1 p, (runsTo l k).2 ++ [runOk (runsTo l k).1 p]) := by
  rw [runsTo, h]
theorem runsTo_b {l : List GProposal} (hb : bProposalS l) : ∀ {k : Nat}, bAcceptorS (runsTo l k).1
  | 0 => newAcc_b
  | k + 1 => by
    have h := runsTo_b hb (k := k)
    rw [runsTo]
    split
    · rename_i p hp
      exact runA_b h (hb.2 p (List.mem_of_getElem? hp)).2.2
    · exact h
theorem runsTo_len {l : List GProposal} : ∀ {k : Nat}, (runsTo l k).1.length = 3 ∧ (runsTo l k).2.length ≤ k
  | 0 => ⟨rfl, Nat.le_refl _⟩
  | k + 1 => by
    have h := runsTo_len (l := l) (k := k)
    rw [runsTo]
    split
    · exact ⟨by rw [run_len]; exact h.1, by simp; exact h.2⟩
    · exact ⟨h.1, by omega⟩
def runsN (l : List GProposal) : Nat := min l.length 20
def runsA (l : List GProposal) : List GAcceptor := (runsTo l (runsN l)).1
def runsOk (l : List GProposal) : List Bool := (runsTo l (runsN l)).2
theorem runsA_b {l : List GProposal} (hb : bProposalS l) : bAcceptorS (runsA l) := runsTo_b hb
theorem runsOk_b {l : List GProposal} : bBoolS (runsOk l) := by
  have h := (runsTo_len (l := l) (k := runsN l)).2
  have : runsN l ≤ 20 := Nat.min_le_right ..
  unfold bBoolS runsOk
  omega
theorem runs_nG {l : List GProposal} (hb : bProposalS l) : 0 ≤ nG n1Acceptor (runsA l) ∧ nG n1Acceptor (runsA l) ≤ 200000000000000 := by
  refine ⟨nG_pos (fun x => by unfold n1Acceptor; omega), ?_⟩
  have h := nG_bound (n1 := n1Acceptor) (C := 60000000000000) (l := runsA l) (fun x hx => by
    have h2 := (runsA_b hb).2 x hx
    obtain ⟨h3, h4⟩ := h2
    unfold bIntS at h3 h4
    unfold n1Acceptor
    omega)
  have h3 : (runsA l).length = 3 := runsTo_len.1
  rw [h3] at h
  omega

set_option maxHeartbeats 1000000 in
theorem w_impl_RunProposals (l : List GProposal) (hb : bProposalS l) : Fn Pr n_impl_RunProposals [.sl 7 eGProposal (fun _ => l)] (.tup [.sl 6 eGAcceptor (fun _ => runsA l), .sl 1 encB (fun _ => runsOk l)]) := by
  have hn0 : runsN l ≤ 20 := Nat.min_le_right ..
  have hn1 : runsN l ≤ l.length := Nat.min_le_left ..
  have HN := w_impl_NewAcceptors
  refine k_impl_RunProposals.fn (by kernel_rfl) ?_
  conv => arg 4; cbv
  repeat' first
    | (refine Sat.call HN rfl ledA ?_; conv => arg 4; cbv)
    | (refine Sat.cmp (fun h => ?_) (fun h => ?_) <;> simp only [Cmp.holds] at h <;> (conv => arg 4; cbv))
    | (refine Sat.need ndA ?_; conv => arg 4; cbv)
    | (refine Sat.idxk (by assumption) ?_; conv => arg 4; cbv) | (refine Sat.idx ndA (fun v_ hv_ => ?_); conv => arg 4; cbv)
    | (refine Sat.ari64 ndA ndA ?_; conv => arg 4; cbv)
  refine Sat.loopP (ι := Nat) (fun i => [(4, .ref 32 (fun _ => 0) (fun _ => (runsTo l i).1.length)), (5, .ref 64 (fun _ => 0) (fun _ => (runsTo l i).2.length)), (17, .int .i64 (fun _ => (i : Int)))]) (fun i => [(32, .row 6 eGAcceptor (fun _ => (runsTo l i).1) false), (64, .row 1 encB (fun _ => (runsTo l i).2) false)]) (fun i => i ≤ runsN l) (fun i => 20 - i) 0 ?_ (by omega) (fun i hi => ?_)
  · refine les_of ?_ ?_ rfl
    iterate 2 (focus repeat' (first | exact trivial | refine And.intro ?_ ?_ | exact levA | refine lev_cons ?_ ?_ | refine LeV.agg rfl ?_ | exact Nat.le_of_ble_eq_true rfl | exact Or.inl ⟨_, rfl, .row rfl⟩ | refine Or.inl ⟨_, rfl, .row ?_⟩ | refine Or.inl ⟨_, rfl, .lit rfl ?_⟩ | exact Or.inr ⟨rfl, rfl⟩ | (first | exact .empref (fun h => nomatch h) rfl rfl rfl | rfl)))
  have hb1 := runsTo_b hb (k := i)
  have hl1 := runsTo_len (l := l) (k := i)
  have hN : runsN l = min l.length 20 := rfl
  conv => arg 4; cbv
  repeat' first
    | (refine Sat.cmp (fun h => ?_) (fun h => ?_) <;> simp only [Cmp.holds] at h <;> (conv => arg 4; cbv))
    | (refine Sat.need ndA ?_; conv => arg 4; cbv)
    | (refine Sat.idxk (by assumption) ?_; conv => arg 4; cbv) | (refine Sat.idx ndA (fun v_ hv_ => ?_); conv => arg 4; cbv)
    | (refine Sat.ari64 ndA ndA ?_; conv => arg 4; cbv)
    | (refine Sat.pop ?_; conv => arg 4; cbv)
    | (exfalso; exact arA)
    | refine Sat.done ?_
  · have hp : l[i]? = some v_ := by
      have h1 := hv_
      (try simp only [List.drop_zero, Nat.sub_zero, Int.toNat_natCast, List.getElem?_take] at h1)
      (try split at h1)
      all_goals first | exact h1 | (exfalso; cases h1; done) | (simp at h1; done)
    have hpb := hb.2 _ (List.mem_of_getElem? hp)
    have hlt : i < l.length := (List.getElem?_eq_some_iff.1 hp).1
    have H := w_impl_RunProposal (runsTo l i).1 v_ hb1 hpb (by omega)
    have e := runsTo_step hp
    generalize runOk (runsTo l i).1 v_ = b at *
    cases b
    all_goals refine Sat.call H rfl ledA ?_
    all_goals (conv => arg 4; cbv)
    all_goals repeat' first
      | (refine Sat.typed true tcA ?_; conv => arg 4; cbv)
      | (refine Sat.typed false tcA ?_; conv => arg 4; cbv)
      | (refine Sat.need ndA ?_; conv => arg 4; cbv)
      | (refine Sat.ari64 ndA ndA ?_; conv => arg 4; cbv)
      | (refine Sat.pop ?_; conv => arg 4; cbv)
      | refine Sat.nextR 338 32 (i + 1) rfl rfl rfl rfl ?_ (by exact arA) (by exact arA)
    · refine les_of ?_ ?_ rfl
      iterate 2 (focus repeat' (first | exact trivial | refine And.intro ?_ ?_ | exact levA | refine lev_cons ?_ ?_ | refine LeV.agg rfl ?_ | exact Nat.le_of_ble_eq_true rfl | exact Or.inl ⟨_, rfl, .row rfl⟩ | refine Or.inl ⟨_, rfl, .row ?_⟩ | refine Or.inl ⟨_, rfl, .lit rfl ?_⟩ | exact Or.inr ⟨rfl, rfl⟩ | (first | exact .int ndA | (exact .ref (fun h => nomatch h) (fun h => nomatch h) rfl (by (try dsimp only); rw [e]; (try simp))) | (rw [e]; done) | (rw [e]; simp; done))))
    · refine les_of ?_ ?_ rfl
      iterate 2 (focus repeat' (first | exact trivial | refine And.intro ?_ ?_ | exact levA | refine lev_cons ?_ ?_ | refine LeV.agg rfl ?_ | exact Nat.le_of_ble_eq_true rfl | exact Or.inl ⟨_, rfl, .row rfl⟩ | refine Or.inl ⟨_, rfl, .row ?_⟩ | refine Or.inl ⟨_, rfl, .lit rfl ?_⟩ | exact Or.inr ⟨rfl, rfl⟩ | (first | exact .int ndA | (exact .ref (fun h => nomatch h) (fun h => nomatch h) rfl (by (try dsimp only); rw [e]; (try simp))) | (rw [e]; done) | (rw [e]; simp; done))))
  all_goals (have ei : i = runsN l := by exact arA)
  all_goals subst ei
  all_goals exact .tup rfl (led_cons (.sl (by simp [runsA])) (led_cons (.sl (by simp [runsOk])) led_nil))

set_option maxHeartbeats 1000000 in
theorem w_spec_RunProposals (l : List GProposal) (hb : bProposalS l) : Fn Pr n_spec_RunProposals [.sl 7 eGProposal (fun _ => l)] (.tup [.sl 6 eGAcceptor (fun _ => runsA l), .sl 1 encB (fun _ => runsOk l)]) := by
  have hn0 : runsN l ≤ 20 := Nat.min_le_right ..
  have hn1 : runsN l ≤ l.length := Nat.min_le_left ..
  have HN := w_spec_NewAcceptors
  refine k_spec_RunProposals.fn (by kernel_rfl) ?_
  conv => arg 4; cbv
  repeat' first
    | (refine Sat.call HN rfl ledA ?_; conv => arg 4; cbv)
    | (refine Sat.cmp (fun h => ?_) (fun h => ?_) <;> simp only [Cmp.holds] at h <;> (conv => arg 4; cbv))
    | (refine Sat.need ndA ?_; conv => arg 4; cbv)
    | (refine Sat.idxk (by assumption) ?_; conv => arg 4; cbv) | (refine Sat.idx ndA (fun v_ hv_ => ?_); conv => arg 4; cbv)
    | (refine Sat.ari64 ndA ndA ?_; conv => arg 4; cbv)
  refine Sat.loopP (ι := Nat) (fun i => [(4, .ref 32 (fun _ => 0) (fun _ => (runsTo l i).1.length)), (5, .ref 64 (fun _ => 0) (fun _ => (runsTo l i).2.length)), (6, .int .i64 (fun _ => (i : Int)))]) (fun i => [(32, .row 6 eGAcceptor (fun _ => (runsTo l i).1) false), (64, .row 1 encB (fun _ => (runsTo l i).2) false)]) (fun i => i ≤ runsN l) (fun i => 20 - i) 0 ?_ (by omega) (fun i hi => ?_)
  · refine les_of ?_ ?_ rfl
    iterate 2 (focus repeat' (first | exact trivial | refine And.intro ?_ ?_ | exact levA | refine lev_cons ?_ ?_ | refine LeV.agg rfl ?_ | exact Nat.le_of_ble_eq_true rfl | exact Or.inl ⟨_, rfl, .row rfl⟩ | refine Or.inl ⟨_, rfl, .row ?_⟩ | refine Or.inl ⟨_, rfl, .lit rfl ?_⟩ | exact Or.inr ⟨rfl, rfl⟩ | (first | exact .empref (fun h => nomatch h) rfl rfl rfl | rfl)))
  have hb1 := runsTo_b hb (k := i)
  have hl1 := runsTo_len (l := l) (k := i)
  have hN : runsN l = min l.length 20 := rfl
  conv => arg 4; cbv
  repeat' first
    | (refine Sat.cmp (fun h => ?_) (fun h => ?_) <;> simp only [Cmp.holds] at h <;> (conv => arg 4; cbv))
    | (refine Sat.need ndA ?_; conv => arg 4; cbv)
    | (refine Sat.idxk (by assumption) ?_; conv => arg 4; cbv) | (refine Sat.idx ndA (fun v_ hv_ => ?_); conv => arg 4; cbv)
    | (refine Sat.ari64 ndA ndA ?_; conv => arg 4; cbv)
    | (refine Sat.pop ?_; conv => arg 4; cbv)
    | (exfalso; exact arA)
    | refine Sat.done ?_
  · have hp : l[i]? = some v_ := by
      have h1 := hv_
      (try simp only [List.drop_zero, Nat.sub_zero, Int.toNat_natCast, List.getElem?_take] at h1)
      (try split at h1)
      all_goals first | exact h1 | (exfalso; cases h1; done) | (simp at h1; done)
    have hpb := hb.2 _ (List.mem_of_getElem? hp)
    have hlt : i < l.length := (List.getElem?_eq_some_iff.1 hp).1
    have H := w_spec_RunProposal (runsTo l i).1 v_ hb1 hpb (by omega)
    have e := runsTo_step hp
    generalize runOk (runsTo l i).1 v_ = b at *
    cases b
    all_goals refine Sat.call H rfl ledA ?_
    all_goals (conv => arg 4; cbv)
    all_goals repeat' first
      | (refine Sat.typed true tcA ?_; conv => arg 4; cbv)
      | (refine Sat.typed false tcA ?_; conv => arg 4; cbv)
      | (refine Sat.need ndA ?_; conv => arg 4; cbv)
      | (refine Sat.ari64 ndA ndA ?_; conv => arg 4; cbv)
      | (refine Sat.pop ?_; conv => arg 4; cbv)
      | refine Sat.nextR 322 32 (i + 1) rfl rfl rfl rfl ?_ (by exact arA) (by exact arA)
    · refine les_of ?_ ?_ rfl
      iterate 2 (focus repeat' (first | exact trivial | refine And.intro ?_ ?_ | exact levA | refine lev_cons ?_ ?_ | refine LeV.agg rfl ?_ | exact Nat.le_of_ble_eq_true rfl | exact Or.inl ⟨_, rfl, .row rfl⟩ | refine Or.inl ⟨_, rfl, .row ?_⟩ | refine Or.inl ⟨_, rfl, .lit rfl ?_⟩ | exact Or.inr ⟨rfl, rfl⟩ | (first | exact .int ndA | (exact .ref (fun h => nomatch h) (fun h => nomatch h) rfl (by (try dsimp only); rw [e]; (try simp))) | (rw [e]; done) | (rw [e]; simp; done))))
    · refine les_of ?_ ?_ rfl
      iterate 2 (focus repeat' (first | exact trivial | refine And.intro ?_ ?_ | exact levA | refine lev_cons ?_ ?_ | refine LeV.agg rfl ?_ | exact Nat.le_of_ble_eq_true rfl | exact Or.inl ⟨_, rfl, .row rfl⟩ | refine Or.inl ⟨_, rfl, .row ?_⟩ | refine Or.inl ⟨_, rfl, .lit rfl ?_⟩ | exact Or.inr ⟨rfl, rfl⟩ | (first | exact .int ndA | (exact .ref (fun h => nomatch h) (fun h => nomatch h) rfl (by (try dsimp only); rw [e]; (try simp))) | (rw [e]; done) | (rw [e]; simp; done))))
  all_goals (have ei : i = runsN l := by exact arA)
  all_goals subst ei
  all_goals exact .tup rfl (led_cons (.sl (by simp [runsA])) (led_cons (.sl (by simp [runsOk])) led_nil))

theorem w_spec_l1New (code : List Int) (hc : code.length ≤ 1048576) : FnN Pr n_spec_l1New [.sl 1 (encI .u8) (fun _ => code)] (fun cs => ∃ i h : Int, (0 ≤ i ∧ i ≤ (code.length : Int)) ∧ cs = curA code i h) := by
  refine k_spec_l1New.fnn (by kernel_rfl) ?_
  conv => arg 4; cbv
  repeat' first
    | (refine Sat.ari64 ndA ndA ?_; conv => arg 4; cbv)
    | (refine Sat.cmp (fun h => ?_) (fun h => ?_) <;> simp only [Cmp.holds] at h <;> (conv => arg 4; cbv))
  refine Sat.loopP (ι := Nat × Int) (fun p => [(3, .int .i64 (fun _ => p.2)), (4, .int .i64 (fun _ => (p.1 : Int)))]) (fun p => []) (fun p => p.1 ≤ code.length) (fun p => code.length - p.1) (0, 10101 + (code.length : Int)) ?_ (by simp) (fun p hp => ?_)
  · exact lesA
  conv => arg 4; cbv
  repeat' first
    | (refine Sat.cmp (fun h => ?_) (fun h => ?_) <;> simp only [Cmp.holds] at h <;> (conv => arg 4; cbv))
    | (refine Sat.need ndA ?_; conv => arg 4; cbv)
    | (refine Sat.idxk (by assumption) ?_; conv => arg 4; cbv) | (refine Sat.idx ndA (fun v_ hv_ => ?_); conv => arg 4; cbv)
    | (refine Sat.ari64 ndA ndA ?_; conv => arg 4; cbv)
    | (refine Sat.pop ?_; conv => arg 4; cbv)
    | (refine Sat.ariw ?_; conv => arg 4; cbv)
  · generalize bitI BinOp.and IntKind.i64 _ _ = z
    refine Sat.next (p.1 + 1, z) ?_ (by exact arA) (by exact arA)
    exact lesA
  all_goals exact Sat.done ⟨curA code 0 p.2, ⟨0, p.2, ⟨by omega, by omega⟩, rfl⟩, .same _⟩

def isInt (lo hi : Int) : AV → Prop := fun r => ∃ v : Int, r = .int .i64 (fun _ => v) ∧ lo ≤ v ∧ v ≤ hi
theorem w_spec_l1Byte (code : List Int) (hc : code.length ≤ 1048576) (i h : Int) (hi : 0 ≤ i ∧ i ≤ (code.length : Int)) : FnP Pr n_spec_l1Byte [.ptr 0 0] [curA code i h] (Dr code (isInt 0 255)) := by
  refine k_spec_l1Byte.fnp (by kernel_rfl) ?_
  conv => arg 4; cbv
  repeat' first
    | (refine Sat.cmp (fun h => ?_) (fun h => ?_) <;> simp only [Cmp.holds] at h <;> (conv => arg 4; cbv))
    | (refine Sat.need ndA ?_; conv => arg 4; cbv)
    | (refine Sat.idxk (by assumption) ?_; conv => arg 4; cbv) | (refine Sat.idx ndA (fun v_ hv_ => ?_); conv => arg 4; cbv)
    | (refine Sat.ari64 ndA ndA ?_; conv => arg 4; cbv)
    | (refine Sat.pop ?_; conv => arg 4; cbv)
    | (refine Sat.ariw ?_; conv => arg 4; cbv)
  all_goals generalize hz : bitI BinOp.and IntKind.i64 _ _ = z
  all_goals have hb : 0 ≤ z ∧ z ≤ 255 := by rw [← hz]; exact and_le (m := 255) (by omega)
  · have hi2 : 0 ≤ i + 1 ∧ i + 1 ≤ (code.length : Int) := ⟨by omega, by (simp only [ncast] at *; omega)⟩
    exact Sat.done (dr_end (ret := .int .i64 (fun _ => z)) ⟨z, rfl, hb.1, hb.2⟩ (.int rfl) hi2 rfl)
  · exact Sat.done (dr_end (ret := .int .i64 (fun _ => z)) ⟨z, rfl, hb.1, hb.2⟩ (.int rfl) hi rfl)

theorem w_spec_l1Below (code : List Int) (hc : code.length ≤ 1048576) (n : Int) (i h : Int) (hi : 0 ≤ i ∧ i ≤ (code.length : Int)) : FnP Pr n_spec_l1Below [.ptr 0 0, .int .i64 (fun _ => n)] [curA code i h] (Dr code (isInt 0 (max 0 (n - 1)))) := by
  refine k_spec_l1Below.fnp (by kernel_rfl) ?_
  conv => arg 4; cbv
  repeat' first
    | (refine Sat.cmp (fun h => ?_) (fun h => ?_) <;> simp only [Cmp.holds] at h <;> (conv => arg 4; cbv))
    | (refine Sat.need ndA ?_; conv => arg 4; cbv)
    | (refine Sat.draw (w_spec_l1Byte code hc) (by (try dsimp only); omega) (fun ret i' h' hi' hR => ?_); obtain ⟨v, rfl, hv0, hv1⟩ := hR; conv => arg 4; cbv)
    | (refine Sat.ari64 ndA ndA ?_; conv => arg 4; cbv)
    | (refine Sat.pop ?_; conv => arg 4; cbv)
  · exact Sat.done (dr_end (ret := .int .i64 (fun _ => 0)) ⟨0, rfl, by omega, by omega⟩ (.int rfl) hi rfl)
  · have h1 := Int.tmod_nonneg n hv0
    have h2 := Int.tmod_lt_of_pos v (show 0 < n by omega)
    exact Sat.done (dr_end (ret := .int .i64 (fun _ => v.tmod n)) ⟨_, rfl, by omega, by omega⟩ (.int rfl) hi' rfl)
  · rename_i i1 k1 hi1 v1 a1 b1 i2 k2 hi2 v2 a2 b2 i3 k3 hi3 v3 a3 b3
    have h1 := Int.tmod_nonneg n (show 0 ≤ v1 * 16777216 + v2 * 65536 + v3 * 256 + v by omega)
    have h2 := Int.tmod_lt_of_pos (v1 * 16777216 + v2 * 65536 + v3 * 256 + v) (show 0 < n by omega)
    exact Sat.done (dr_end (ret := .int .i64 (fun _ => (v1 * 16777216 + v2 * 65536 + v3 * 256 + v).tmod n)) ⟨_, rfl, by omega, by omega⟩ (.int rfl) hi' rfl)

def isB : AV → Prop := fun r => ∃ b : Bool, r = .bo b
theorem w_spec_l1Once (code : List Int) (hc : code.length ≤ 1048576) (n : Int) (i h : Int) (hi : 0 ≤ i ∧ i ≤ (code.length : Int)) : FnP Pr n_spec_l1Once [.ptr 0 0, .int .i64 (fun _ => n)] [curA code i h] (Dr code isB) := by
  refine k_spec_l1Once.fnp (by kernel_rfl) ?_
  conv => arg 4; cbv
  repeat' first
    | (refine Sat.cmp (fun h => ?_) (fun h => ?_) <;> simp only [Cmp.holds] at h <;> (conv => arg 4; cbv))
    | (refine Sat.need ndA ?_; conv => arg 4; cbv)
    | (refine Sat.draw (w_spec_l1Below code hc n) (by (try dsimp only); omega) (fun ret i' h' hi' hR => ?_); obtain ⟨v, rfl, hv0, hv1⟩ := hR; conv => arg 4; cbv)
    | (refine Sat.ari64 ndA ndA ?_; conv => arg 4; cbv)
    | (refine Sat.pop ?_; conv => arg 4; cbv)
  · exact Sat.done (dr_end (ret := .bo true) ⟨_, rfl⟩ (.same _) hi' rfl)
  · exact Sat.done (dr_end (ret := .bo false) ⟨_, rfl⟩ (.same _) hi' rfl)

def isAny : AV → Prop := fun r => ∃ v : Int, r = .int .i64 (fun _ => v)
theorem w_spec_l1PickInt (code : List Int) (hc : code.length ≤ 1048576) (l : List Int) (hl : 1 ≤ l.length) (hm : l.length ≤ 1000000) (i h : Int) (hi : 0 ≤ i ∧ i ≤ (code.length : Int)) : FnP Pr n_spec_l1PickInt [.ptr 0 0, .sl 1 (encI .i64) (fun _ => l)] [curA code i h] (Dr code isAny) := by
  refine k_spec_l1PickInt.fnp (by kernel_rfl) ?_
  conv => arg 4; cbv
  repeat' first
    | (refine Sat.cmp (fun h => ?_) (fun h => ?_) <;> simp only [Cmp.holds] at h <;> (conv => arg 4; cbv))
    | (refine Sat.need ndA ?_; conv => arg 4; cbv)
    | (refine Sat.draw (w_spec_l1Below code hc (l.length : Int)) (by (try dsimp only); omega) (fun ret i' h' hi' hR => ?_); obtain ⟨v, rfl, hv0, hv1⟩ := hR; conv => arg 4; cbv)
    | (refine Sat.idxk (by assumption) ?_; conv => arg 4; cbv) | (refine Sat.idx ndA (fun v_ hv_ => ?_); conv => arg 4; cbv)
    | (refine Sat.ari64 ndA ndA ?_; conv => arg 4; cbv)
    | (refine Sat.pop ?_; conv => arg 4; cbv)
  exact Sat.done (dr_end (ret := .int .i64 (fun _ => v_)) ⟨_, rfl⟩ (.int rfl) hi' rfl)

/-- Some whole numbers, at most n. -/
def isL (n : Nat) : AV → Prop := fun r => ∃ l : List Int, r = .sl 1 (encI .i64) (fun _ => l) ∧ l.length ≤ n
theorem w_spec_l2Some (code : List Int) (hc : code.length ≤ 1048576) (i h : Int) (hi : 0 ≤ i ∧ i ≤ (code.length : Int)) : FnP Pr n_spec_l2Some [.ptr 0 0] [curA code i h] (Dr code (isL 5)) := by
  refine k_spec_l2Some.fnp (by kernel_rfl) ?_
  conv => arg 4; cbv
  refine Sat.loopP (ι := Nat × List Int × Int × Int) (fun p => [(3, .ref 64 (fun _ => 0) (fun _ => p.2.1.length)), (4, .int .i64 (fun _ => (p.1 : Int)))]) (fun p => [(0, .lit 99 [.sl 1 (encI .u8) (fun _ => code), .int .i64 (fun _ => p.2.2.1), .int .i64 (fun _ => p.2.2.2)]), (64, .row 1 (encI .i64) (fun _ => p.2.1) false)]) (fun p => p.1 ≤ 5 ∧ p.2.1.length ≤ p.1 ∧ 0 ≤ p.2.2.1 ∧ p.2.2.1 ≤ (code.length : Int)) (fun p => 5 - p.1) (0, [], i, h) ?_ (by simp; omega) (fun p hp => ?_)
  · refine les_of ?_ ?_ rfl
    iterate 2 (focus repeat' (first | exact trivial | refine And.intro ?_ ?_ | exact levA | refine lev_cons ?_ ?_ | refine LeV.agg rfl ?_ | exact Nat.le_of_ble_eq_true rfl | exact Or.inl ⟨_, rfl, .row rfl⟩ | refine Or.inl ⟨_, rfl, .row ?_⟩ | refine Or.inl ⟨_, rfl, .lit rfl ?_⟩ | exact Or.inr ⟨rfl, rfl⟩ | (first | exact .empref (fun h => nomatch h) rfl rfl rfl | rfl)))
  conv => arg 4; cbv
  repeat' first
    | (refine Sat.cmp (fun h => ?_) (fun h => ?_) <;> simp only [Cmp.holds] at h <;> (conv => arg 4; cbv))
    | (refine Sat.need ndA ?_; conv => arg 4; cbv)
    | (refine Sat.draw (w_spec_l1Once code hc 2) hp.2.2 (fun ret i' h' hi' hR => ?_); obtain ⟨b, rfl⟩ := hR; cases b <;> (conv => arg 4; cbv))
    | (refine Sat.idxk (by assumption) ?_; conv => arg 4; cbv) | (refine Sat.idx ndA (fun v_ hv_ => ?_); conv => arg 4; cbv)
    | (refine Sat.ari64 ndA ndA ?_; conv => arg 4; cbv)
    | (refine Sat.pop ?_; conv => arg 4; cbv)
    | (refine Sat.need ⟨rfl, fun y hy j hj => rfl, by (try dsimp only); omega⟩ ?_; conv => arg 4; cbv)
    | (refine Sat.same ?_; conv => arg 4; cbv)
  · refine Sat.next (p.1 + 1, p.2.1, i', h') ?_ ⟨by exact arA, by (try dsimp only); omega, hi'⟩ (by (try dsimp only); exact arA)
    exact lesA
  · refine Sat.next (p.1 + 1, p.2.1 ++ [(p.1 : Int)], i', h') ?_ ⟨by exact arA, by (try dsimp only); simp; omega, hi'⟩ (by (try dsimp only); exact arA)
    refine les_of ?_ ?_ rfl
    iterate 2 (focus repeat' (first | exact trivial | refine And.intro ?_ ?_ | exact levA | refine lev_cons ?_ ?_ | refine LeV.agg rfl ?_ | exact Nat.le_of_ble_eq_true rfl | exact Or.inl ⟨_, rfl, .row rfl⟩ | refine Or.inl ⟨_, rfl, .row ?_⟩ | refine Or.inl ⟨_, rfl, .lit rfl ?_⟩ | exact Or.inr ⟨rfl, rfl⟩ | (first | exact .ref (fun h => nomatch h) (fun h => nomatch h) rfl (by simp) | (simp; done))))
  · exact Sat.done (dr_end (ret := .sl 1 (encI .i64) (fun _ => p.2.1)) ⟨_, rfl, by omega⟩ (.sl (by simp)) hp.2.2 rfl)

theorem w_spec_l2Any (code : List Int) (hc : code.length ≤ 1048576) (i h : Int) (hi : 0 ≤ i ∧ i ≤ (code.length : Int)) : FnP Pr n_spec_l2Any [.ptr 0 0] [curA code i h] (Dr code (isL 6)) := by
  refine k_spec_l2Any.fnp (by kernel_rfl) ?_
  conv => arg 4; cbv
  repeat' first
    | (refine Sat.cmp (fun h => ?_) (fun h => ?_) <;> simp only [Cmp.holds] at h <;> (conv => arg 4; cbv))
    | (refine Sat.need ndA ?_; conv => arg 4; cbv)
    | (refine Sat.draw (w_spec_l2Some code hc) (by (try dsimp only); omega) (fun ret i' h' hi' hR => ?_); obtain ⟨l, rfl, hl⟩ := hR; conv => arg 4; cbv)
    | (refine Sat.draw (w_spec_l1Once code hc 8) (by (try dsimp only); omega) (fun ret i' h' hi' hR => ?_); obtain ⟨b, rfl⟩ := hR; cases b <;> (conv => arg 4; cbv))
    | (refine Sat.draw (w_spec_l1PickInt code hc [-1, 0, 4, 5] (by decide) (by decide)) (by (try dsimp only); omega) (fun ret i' h' hi' hR => ?_); obtain ⟨v, rfl⟩ := hR; conv => arg 4; cbv)
    | (refine Sat.idxk (by assumption) ?_; conv => arg 4; cbv) | (refine Sat.idx ndA (fun v_ hv_ => ?_); conv => arg 4; cbv)
    | (refine Sat.ari64 ndA ndA ?_; conv => arg 4; cbv)
    | (refine Sat.pop ?_; conv => arg 4; cbv)
  · exact Sat.done (dr_end (ret := .sl 1 (encI .i64) (fun _ => l)) ⟨_, rfl, by omega⟩ (.sl (by simp)) hi' rfl)
  · refine Sat.need ⟨rfl, fun y hy j hj => ?_, by (try dsimp only); omega⟩ ?_
    · rfl
    conv => arg 4; cbv
    refine Sat.same ?_
    conv => arg 4; cbv
    exact Sat.done (dr_end (ret := .sl 1 (encI .i64) (fun _ => l ++ [v])) ⟨_, rfl, by simp; omega⟩ (.sl (by simp)) hi' rfl)

theorem w_laws_big (code : List Int) (hb : code.length * 1 ≤ 140737488351232) : Fn Pr n_laws_big [.sl 1 (encI .u8) (fun _ => code)] (.bo (decide ((1048576 : Int) < code.length))) := by
  refine k_laws_big.fn (by kernel_rfl) ?_
  conv => arg 4; cbv
  repeat' first
    | (refine Sat.cmp (fun h => ?_) (fun h => ?_) <;> simp only [Cmp.holds] at h <;> (conv => arg 4; cbv))
    | (refine Sat.need ndA ?_; conv => arg 4; cbv)
    | (refine Sat.idxk (by assumption) ?_; conv => arg 4; cbv) | (refine Sat.idx ndA (fun v_ hv_ => ?_); conv => arg 4; cbv)
    | (refine Sat.ari64 ndA ndA ?_; conv => arg 4; cbv)
    | (refine Sat.pop ?_; conv => arg 4; cbv)
    | refine Sat.done ?_
  all_goals refine led_bo ?_
  all_goals (simp only [ncast] at *; simp; omega)

def isC : AV → Prop := fun r => ∃ c : GConfig, r = aGConfig c ∧ c.Replicas.length ≤ 6 ∧ c.Witnesses.length ≤ 6
theorem tk {α : Type} (l : List α) : (l.drop 0).take l.length = l := by simp
theorem led_c {e p : Int} {x y : AV} {a b : List Int} (hx : LeD x (.sl 1 (encI .i64) (fun _ => a))) (hy : LeD y (.sl 1 (encI .i64) (fun _ => b))) : LeD (.agg [.int .i64 (fun _ => e), .int .i64 (fun _ => p), x, y]) (aGConfig ⟨e, p, a, b⟩) := .agg rfl (led_cons (.same _) (led_cons (.same _) (led_cons hx (led_cons hy led_nil))))
theorem w_spec_l8Config (code : List Int) (hc : code.length ≤ 1048576) (e : Int) (i h : Int) (hi : 0 ≤ i ∧ i ≤ (code.length : Int)) : FnP Pr n_spec_l8Config [.ptr 0 0, .int .i64 (fun _ => e)] [curA code i h] (Dr code isC) := by
  refine k_spec_l8Config.fnp (by kernel_rfl) ?_
  conv => arg 4; cbv
  refine Sat.draw (w_spec_l1Below code hc _) hi (fun ret ia ha hia hR => ?_)
  obtain ⟨p, rfl, p0, p1⟩ := hR
  conv => arg 4; cbv
  have hp1 : [p].length ≤ 6 := by simp
  have hn0 : ([] : List Int).length ≤ 6 := by simp
  refine Sat.may (fun _ => ?_) ?_ <;> (conv => arg 4; cbv)
  all_goals refine Sat.draw (w_spec_l2Some code hc) hia (fun ret ib hb hib hR => ?_)
  all_goals obtain ⟨l, rfl, hl⟩ := hR
  all_goals conv => arg 4; cbv
  all_goals refine Sat.call (w_spec_l2Put l p (by omega)) rfl ledA ?_
  all_goals have hput := put_len (x := p) (l := l)
  all_goals have hR6 : (put p l).length ≤ 6 := by omega
  all_goals generalize put p l = R at *
  all_goals conv => arg 4; cbv
  all_goals refine Sat.cmp (fun hg => ?_) (fun hg => ?_) <;> (conv => arg 4; cbv)
  all_goals refine Sat.draw (w_spec_l1Once code hc 2) hib (fun ret ic hd hic hR => ?_)
  all_goals obtain ⟨b, rfl⟩ := hR
  all_goals cases b <;> (conv => arg 4; cbv)
  all_goals try refine Sat.may (fun _ => ?_) ?_ <;> (conv => arg 4; cbv)
  all_goals try (refine Sat.draw (w_spec_l2Some code hc) hic (fun ret ij hj hij hR => ?_); obtain ⟨w, rfl, hw⟩ := hR; conv => arg 4; cbv)
  all_goals first
    | (refine Sat.call (w_spec_WithoutServers w R (by omega) (by unfold bIntS; omega)) rfl ledA ?_
       have hwl := without_len (a := w) (b := R)
       have hU1 : ((without w R).take 1).length ≤ 6 := by rw [List.length_take]; omega
       generalize without w R = U at *
       conv => arg 4; cbv)
    | (refine Sat.call (w_spec_WithoutServers w [p] (by omega) (by unfold bIntS; simp)) rfl ledA ?_
       have hwl := without_len (a := w) (b := [p])
       have hU1 : ((without w [p]).take 1).length ≤ 6 := by rw [List.length_take]; omega
       generalize without w [p] = U at *
       conv => arg 4; cbv)
    | skip
  all_goals repeat' first
    | (refine Sat.cmp (fun h => ?_) (fun h => ?_) <;> simp only [Cmp.holds] at h <;> (conv => arg 4; cbv))
    | (refine Sat.need ndA ?_; conv => arg 4; cbv)
  all_goals first
    | exact Sat.done (dr_end (ret := aGConfig ⟨e, p, R, U.take 1⟩) ⟨_, rfl, hR6, hU1⟩ (led_c (.sl (tk R)) (.sl rfl)) hij rfl)
    | exact Sat.done (dr_end (ret := aGConfig ⟨e, p, [p], U.take 1⟩) ⟨_, rfl, hp1, hU1⟩ (led_c (.sl rfl) (.sl rfl)) hij rfl)
    | exact Sat.done (dr_end (ret := aGConfig ⟨e, p, R, []⟩) ⟨_, rfl, hR6, hn0⟩ (led_c (.sl (tk R)) (.nil rfl)) hic rfl)
    | exact Sat.done (dr_end (ret := aGConfig ⟨e, p, [p], []⟩) ⟨_, rfl, hp1, hn0⟩ (led_c (.sl rfl) (.nil rfl)) hic rfl)
    | exact Sat.done (dr_end (ret := aGConfig ⟨e, p, R, []⟩) ⟨_, rfl, hR6, hn0⟩ (led_c (.sl (tk R)) (.nil rfl)) hij rfl)
    | exact Sat.done (dr_end (ret := aGConfig ⟨e, p, [p], []⟩) ⟨_, rfl, hp1, hn0⟩ (led_c (.sl rfl) (.nil rfl)) hij rfl)
    | trace_state

theorem w_spec_l8Any (code : List Int) (hc : code.length ≤ 1048576) (i h : Int) (hi : 0 ≤ i ∧ i ≤ (code.length : Int)) : FnP Pr n_spec_l8Any [.ptr 0 0] [curA code i h] (Dr code isC) := by
  refine k_spec_l8Any.fnp (by kernel_rfl) ?_
  conv => arg 4; cbv
  refine Sat.draw (w_spec_l1Below code hc _) hi (fun ret ia ha hia hR => ?_)
  obtain ⟨p, rfl, p0, p1⟩ := hR
  conv => arg 4; cbv
  (refine Sat.ari64 ndA ndA ?_; conv => arg 4; cbv)
  refine Sat.draw (w_spec_l8Config code hc _) hia (fun ret ib hb hib hR => ?_)
  obtain ⟨c, rfl, c1, c2⟩ := hR
  conv => arg 4; cbv
  refine Sat.draw (w_spec_l1Below code hc _) hib (fun ret ic hd hic hR => ?_)
  obtain ⟨q, rfl, q0, q1⟩ := hR
  conv => arg 4; cbv
  repeat' first
    | (refine Sat.cmp (fun h => ?_) (fun h => ?_) <;> simp only [Cmp.holds] at h <;> (conv => arg 4; cbv))
    | (refine Sat.ari64 ndA ndA ?_; conv => arg 4; cbv)
    | (refine Sat.draw (w_spec_l1PickInt code hc [0, 20, 21] (by decide) (by decide)) hic (fun ret ij hj hij hR => ?_); obtain ⟨u, rfl⟩ := hR; conv => arg 4; cbv)
    | (refine Sat.draw (w_spec_l1Below code hc 7) hic (fun ret ij hj hij hR => ?_); obtain ⟨u, rfl, u0, u1⟩ := hR; conv => arg 4; cbv)
    | (refine Sat.draw (w_spec_l2Any code hc) hic (fun ret ij hj hij hR => ?_); obtain ⟨w, rfl, hw⟩ := hR; conv => arg 4; cbv)
  all_goals first
    | exact Sat.done (dr_end (ret := aGConfig { c with Epoch := u }) ⟨_, rfl, c1, c2⟩ (led_c (.sl (tk _)) (.sl (tk _))) hij rfl)
    | exact Sat.done (dr_end (ret := aGConfig { c with Primary := u - 1 }) ⟨_, rfl, c1, c2⟩ (led_c (.sl (tk _)) (.sl (tk _))) hij rfl)
    | exact Sat.done (dr_end (ret := aGConfig { c with Replicas := w }) ⟨_, rfl, hw, c2⟩ (led_c (.sl (tk _)) (.sl (tk _))) hij rfl)
    | exact Sat.done (dr_end (ret := aGConfig { c with Witnesses := w }) ⟨_, rfl, c1, hw⟩ (led_c (.sl (tk _)) (.sl (tk _))) hij rfl)
    | exact Sat.done (dr_end (ret := aGConfig c) ⟨_, rfl, c1, c2⟩ (led_c (.sl (tk _)) (.sl (tk _))) hic rfl)
    | trace_state

def smC (c : GConfig) : Prop := c.Replicas.length ≤ 6 ∧ c.Witnesses.length ≤ 6
theorem smC_b {c : GConfig} (h : smC c) : bConfig c := ⟨by have := h.1; unfold bIntS; omega, by have := h.2; unfold bIntS; omega⟩
def isA : AV → Prop := fun r => ∃ a : GAcceptor, r = aGAcceptor a ∧ smC a.Value
theorem prepareA_sm {a : GAcceptor} {n : Int} (h : smC a.Value) : smC (prepareA a n).Value := by unfold prepareA; split <;> exact h
theorem acceptA_sm {a : GAcceptor} {n : Int} {c : GConfig} (h : smC a.Value) (hc : smC c) : smC (acceptA a n c).Value := by
  unfold acceptA
  split
  · exact hc
  · exact h
theorem led_a {p b e q : Int} {x y : AV} {r w : List Int} (hx : LeD x (.sl 1 (encI .i64) (fun _ => r))) (hy : LeD y (.sl 1 (encI .i64) (fun _ => w))) : LeD (.agg [.int .i64 (fun _ => p), .int .i64 (fun _ => b), .int .i64 (fun _ => e), .int .i64 (fun _ => q), x, y]) (aGAcceptor ⟨p, b, ⟨e, q, r, w⟩⟩) := .agg rfl (led_cons (.same _) (led_cons (.same _) (led_cons (.same _) (led_cons (.same _) (led_cons hx (led_cons hy led_nil))))))

theorem two3 {f : GAcceptor → Bool} {a b c : GAcceptor} : 2 ≤ [a, b, c].countP f ↔ (f a = true ∧ f b = true) ∨ (f a = true ∧ f c = true) ∨ (f b = true ∧ f c = true) := by
  simp only [List.countP_cons, List.countP_nil]
  cases f a <;> cases f b <;> cases f c <;> simp
/-- Two of three. -/
def two (P : GAcceptor → Prop) (a b c : GAcceptor) : Prop := (P a ∧ P b) ∨ (P a ∧ P c) ∨ (P b ∧ P c)
theorem votes3 {a b c x : GAcceptor} : 3 < 2 * votes [a, b, c] x ↔ 0 < x.Ballot ∧ two (fun y => y.Ballot = x.Ballot ∧ y.Value = x.Value) a b c := by
  have h := two3 (f := fun y => decide (0 < x.Ballot ∧ y.Ballot = x.Ballot ∧ y.Value = x.Value)) (a := a) (b := b) (c := c)
  simp only [decide_eq_true_eq] at h
  have e : 3 < 2 * votes [a, b, c] x ↔ 2 ≤ votes [a, b, c] x := by omega
  rw [e]
  unfold votes two
  rw [h]
  constructor
  · rintro (⟨h1, h2⟩ | ⟨h1, h2⟩ | ⟨h1, h2⟩)
    · exact ⟨h1.1, .inl ⟨h1.2, h2.2⟩⟩
    · exact ⟨h1.1, .inr (.inl ⟨h1.2, h2.2⟩)⟩
    · exact ⟨h1.1, .inr (.inr ⟨h1.2, h2.2⟩)⟩
  · rintro ⟨h0, (⟨h1, h2⟩ | ⟨h1, h2⟩ | ⟨h1, h2⟩)⟩
    · exact .inl ⟨⟨h0, h1⟩, ⟨h0, h2⟩⟩
    · exact .inr (.inl ⟨⟨h0, h1⟩, ⟨h0, h2⟩⟩)
    · exact .inr (.inr ⟨⟨h0, h1⟩, ⟨h0, h2⟩⟩)
theorem two_meet {P R : GAcceptor → Prop} {a b c : GAcceptor} (h : two P a b c) (h' : two R a b c) : ∃ x, (x = a ∨ x = b ∨ x = c) ∧ P x ∧ R x := by
  rcases h with ⟨h1, h2⟩ | ⟨h1, h2⟩ | ⟨h1, h2⟩ <;> rcases h' with ⟨g1, g2⟩ | ⟨g1, g2⟩ | ⟨g1, g2⟩ <;>
    first
      | exact ⟨a, .inl rfl, by assumption, by assumption⟩
      | exact ⟨b, .inr (.inl rfl), by assumption, by assumption⟩
      | exact ⟨c, .inr (.inr rfl), by assumption, by assumption⟩
theorem two_mono {P R : GAcceptor → Prop} {a b c a' b' c' : GAcceptor} (ha : P a → R a') (hb : P b → R b') (hc : P c → R c') (h : two P a b c) : two R a' b' c' := by
  rcases h with ⟨h1, h2⟩ | ⟨h1, h2⟩ | ⟨h1, h2⟩
  · exact .inl ⟨ha h1, hb h2⟩
  · exact .inr (.inl ⟨ha h1, hc h2⟩)
  · exact .inr (.inr ⟨hb h1, hc h2⟩)
/-- What is chosen. -/
def Cho (a b c : GAcceptor) (w : GConfig) : Prop := ∃ n : Int, 0 < n ∧ two (fun y => y.Ballot = n ∧ y.Value = w) a b c
theorem cho_one {a b c : GAcceptor} {w w' : GConfig} (h : Cho a b c w) (h' : Cho a b c w') : w = w' := by
  obtain ⟨n, _, h⟩ := h
  obtain ⟨n', _, h'⟩ := h'
  obtain ⟨x, _, h1, h2⟩ := two_meet h h'
  rw [← h1.2, h2.2]
theorem cho_in {a b c : GAcceptor} {w : GConfig} : ∀ {r : List GAcceptor}, chosenIn [a, b, c] r = some w → Cho a b c w
  | [], h => by cases h
  | x :: r, h => by
    rw [chosenIn] at h
    split at h
    · rename_i hv
      cases h
      have := votes3.1 hv
      exact ⟨x.Ballot, this.1, this.2⟩
    · exact cho_in h
theorem cho_hit {a b c x : GAcceptor} (hv : 3 < 2 * votes [a, b, c] x) : ∀ {r : List GAcceptor}, x ∈ r → ∃ w, chosenIn [a, b, c] r = some w
  | [], h => by cases h
  | y :: r, h => by
    rw [chosenIn]
    split
    · exact ⟨_, rfl⟩
    · rename_i hn
      rcases List.mem_cons.1 h with rfl | h
      · exact absurd hv hn
      · exact cho_hit hv h
theorem chosen_iff {a b c : GAcceptor} {w : GConfig} (hA : areAcc [a, b, c] = true) : chosen [a, b, c] = some w ↔ Cho a b c w := by
  unfold chosen
  rw [if_pos hA]
  constructor
  · exact cho_in
  · intro h
    obtain ⟨n, h0, h1⟩ := id h
    obtain ⟨x, hx, hxn, hxw⟩ : ∃ x, (x = a ∨ x = b ∨ x = c) ∧ x.Ballot = n ∧ x.Value = w := by
      obtain ⟨x, hx, h2, _⟩ := two_meet h1 h1
      exact ⟨x, hx, h2.1, h2.2⟩
    obtain ⟨w', hw⟩ := cho_hit (a := a) (b := b) (c := c) (x := x) (votes3.2 ⟨by omega, by rw [hxn, hxw]; exact h1⟩) (r := [a, b, c]) (by rcases hx with rfl | rfl | rfl <;> simp)
    rw [hw, cho_one (cho_in hw) h]

/-- One step of an acceptor: nothing; a greater promise; the proposal's value. -/
def Mv (m : Int) (V : GConfig) (a a' : GAcceptor) : Prop := (a'.Ballot = a.Ballot ∧ a'.Value = a.Value ∧ a.Promised ≤ a'.Promised) ∨ (a'.Ballot = m ∧ a'.Promised = m ∧ a'.Value = V ∧ a.Promised ≤ m)
def keepK : Option GConfig → Option GConfig → Option GConfig
  | some v, _ => some v
  | none, w => w
structure PInv (a b c : GAcceptor) (K : Option GConfig) : Prop where
  acc : areAcc [a, b, c] = true
  prom : ∀ x, (x = a ∨ x = b ∨ x = c) → 0 < x.Ballot → two (fun y => x.Ballot ≤ y.Promised) a b c
  kn : K = none → chosen [a, b, c] = none
  ks : ∀ v, K = some v → ∃ n : Int, 0 < n ∧ two (fun y => n ≤ y.Ballot) a b c ∧ ∀ x, (x = a ∨ x = b ∨ x = c) → n ≤ x.Ballot → x.Value = v
theorem PInv.one {a b c : GAcceptor} {v w : GConfig} (h : PInv a b c (some v)) (hw : chosen [a, b, c] = some w) : w = v := by
  obtain ⟨n, h0, h1, h2⟩ := h.ks v rfl
  obtain ⟨n', h3, h4⟩ := (chosen_iff h.acc).1 hw
  obtain ⟨x, hx, h5, h6⟩ := two_meet h1 h4
  rw [← h6.2, h2 x hx h5]
/-- A step in which nobody accepts. -/
theorem PInv.still {a b c a' b' c' : GAcceptor} {K : Option GConfig} (h : PInv a b c K) (hA : areAcc [a', b', c'] = true) (ha : a'.Ballot = a.Ballot ∧ a'.Value = a.Value ∧ a.Promised ≤ a'.Promised) (hb : b'.Ballot = b.Ballot ∧ b'.Value = b.Value ∧ b.Promised ≤ b'.Promised) (hc : c'.Ballot = c.Ballot ∧ c'.Value = c.Value ∧ c.Promised ≤ c'.Promised) : PInv a' b' c' K ∧ chosen [a', b', c'] = chosen [a, b, c] := by
  have hcho : chosen [a', b', c'] = chosen [a, b, c] := by
    apply Option.ext
    intro w
    rw [chosen_iff hA, chosen_iff h.acc]
    constructor
    · rintro ⟨n, h0, h1⟩
      exact ⟨n, h0, two_mono (fun q => by rw [← ha.1, ← ha.2.1]; exact q) (fun q => by rw [← hb.1, ← hb.2.1]; exact q) (fun q => by rw [← hc.1, ← hc.2.1]; exact q) h1⟩
    · rintro ⟨n, h0, h1⟩
      exact ⟨n, h0, two_mono (fun q => by rw [ha.1, ha.2.1]; exact q) (fun q => by rw [hb.1, hb.2.1]; exact q) (fun q => by rw [hc.1, hc.2.1]; exact q) h1⟩
  have old : ∀ x', (x' = a' ∨ x' = b' ∨ x' = c') → ∃ x, (x = a ∨ x = b ∨ x = c) ∧ x'.Ballot = x.Ballot ∧ x'.Value = x.Value := by
    rintro x' (rfl | rfl | rfl)
    · exact ⟨a, .inl rfl, ha.1, ha.2.1⟩
    · exact ⟨b, .inr (.inl rfl), hb.1, hb.2.1⟩
    · exact ⟨c, .inr (.inr rfl), hc.1, hc.2.1⟩
  refine ⟨⟨hA, fun x' hx' h0 => ?_, fun hK => by rw [hcho]; exact h.kn hK, fun v hK => ?_⟩, hcho⟩
  · obtain ⟨x, hx, e1, e2⟩ := old x' hx'
    exact two_mono (fun q => by have := ha.2.2; omega) (fun q => by have := hb.2.2; omega) (fun q => by have := hc.2.2; omega) (h.prom x hx (by omega))
  · obtain ⟨n, h0, h1, h2⟩ := h.ks v hK
    refine ⟨n, h0, two_mono (fun q => by omega) (fun q => by omega) (fun q => by omega) h1, fun x' hx' hn => ?_⟩
    obtain ⟨x, hx, e1, e2⟩ := old x' hx'
    rw [e2]
    exact h2 x hx (by omega)

theorem PInv.go {a b c a' b' c' : GAcceptor} {K : Option GConfig} {m : Int} {V : GConfig} (h : PInv a b c K) (hm : 1 ≤ m) (hlt : ∀ x, (x = a ∨ x = b ∨ x = c) → x.Ballot < m) (ha : Mv m V a a') (hb : Mv m V b b') (hc : Mv m V c c')
    (hA : areAcc [a', b', c'] = true) (hprom : two (fun y => m ≤ y.Promised) a' b' c') (hV : ∀ v, K = some v → V = v) :
    PInv a' b' c' (keepK K (chosen [a', b', c'])) ∧ (two (fun y => y.Ballot = m ∧ y.Value = V) a' b' c' → chosen [a', b', c'] = some V) := by
  have old : ∀ x', (x' = a' ∨ x' = b' ∨ x' = c') → (∃ x, (x = a ∨ x = b ∨ x = c) ∧ x'.Ballot = x.Ballot ∧ x'.Value = x.Value) ∨ (x'.Ballot = m ∧ x'.Value = V) := by
    rintro x' (rfl | rfl | rfl)
    · rcases ha with ⟨h1, h2, _⟩ | ⟨h1, _, h2, _⟩
      · exact .inl ⟨a, .inl rfl, h1, h2⟩
      · exact .inr ⟨h1, h2⟩
    · rcases hb with ⟨h1, h2, _⟩ | ⟨h1, _, h2, _⟩
      · exact .inl ⟨b, .inr (.inl rfl), h1, h2⟩
      · exact .inr ⟨h1, h2⟩
    · rcases hc with ⟨h1, h2, _⟩ | ⟨h1, _, h2, _⟩
      · exact .inl ⟨c, .inr (.inr rfl), h1, h2⟩
      · exact .inr ⟨h1, h2⟩
  have pr : ∀ {x x' : GAcceptor}, Mv m V x x' → x.Promised ≤ x'.Promised := by
    intro x x' q
    rcases q with ⟨_, _, q⟩ | ⟨_, q1, _, q2⟩
    · exact q
    · omega
  have bl : ∀ {x x' : GAcceptor} {n : Int}, Mv m V x x' → x.Ballot < m → n ≤ x.Ballot → n ≤ x'.Ballot := by
    intro x x' n q q1 q2
    rcases q with ⟨q, _, _⟩ | ⟨q, _, _, _⟩ <;> omega
  refine ⟨⟨hA, fun x' hx' h0 => ?_, fun hK => ?_, fun v hK => ?_⟩, fun h2 => (chosen_iff hA).2 ⟨m, by omega, h2⟩⟩
  · rcases old x' hx' with ⟨x, hx, e1, _⟩ | ⟨e1, _⟩
    · exact two_mono (fun q => by have := pr ha; omega) (fun q => by have := pr hb; omega) (fun q => by have := pr hc; omega) (h.prom x hx (by omega))
    · exact two_mono (fun q => by omega) (fun q => by omega) (fun q => by omega) hprom
  · cases K with
    | none => exact hK
    | some v => cases hK
  · cases K with
    | some v0 =>
      cases hK
      obtain ⟨n, h0, h1, h2⟩ := h.ks v rfl
      refine ⟨n, h0, two_mono (bl ha (hlt a (.inl rfl))) (bl hb (hlt b (.inr (.inl rfl)))) (bl hc (hlt c (.inr (.inr rfl)))) h1, fun x' hx' hn => ?_⟩
      rcases old x' hx' with ⟨x, hx, e1, e2⟩ | ⟨_, e2⟩
      · rw [e2]
        exact h2 x hx (by omega)
      · rw [e2]
        exact hV v rfl
    | none =>
      have hK : chosen [a', b', c'] = some v := hK
      obtain ⟨n0, g0, g1⟩ := (chosen_iff hA).1 hK
      by_cases e : n0 = m
      · subst e
        have hv : V = v := by
          obtain ⟨x', hx', q, _⟩ := two_meet g1 g1
          rcases old x' hx' with ⟨x, hx, e1, _⟩ | ⟨_, e2⟩
          · have := hlt x hx
            have := q.1
            omega
          · rw [← e2, q.2]
        refine ⟨n0, g0, two_mono (fun q => by omega) (fun q => by omega) (fun q => by omega) g1, fun x' hx' hn => ?_⟩
        rcases old x' hx' with ⟨x, hx, e1, _⟩ | ⟨_, e2⟩
        · have := hlt x hx
          omega
        · rw [e2, hv]
      · exfalso
        have back : ∀ {x x' : GAcceptor}, Mv m V x x' → (x'.Ballot = n0 ∧ x'.Value = v) → (x.Ballot = n0 ∧ x.Value = v) := by
          intro x x' q q2
          rcases q with ⟨h1, h2, _⟩ | ⟨h1, _, _, _⟩
          · rw [← h1, ← h2]; exact q2
          · exact absurd (q2.1.symm.trans h1) e
        have := (chosen_iff h.acc).2 ⟨n0, g0, two_mono (back ha) (back hb) (back hc) g1⟩
        rw [h.kn rfl] at this
        cases this

def ph1 (p : GProposal) (i : Nat) (a : GAcceptor) : GAcceptor := if hit1 p i a = true then prepareA a p.Ballot else a
def ph2 (p : GProposal) (v : GConfig) (i : Nat) (a : GAcceptor) : GAcceptor := if hit2 p v i a = true then acceptA a p.Ballot v else a
theorem run1_3 {a b c : GAcceptor} {p : GProposal} : run1 [a, b, c] p = [ph1 p 0 a, ph1 p 1 b, ph1 p 2 c] := by simp [run1, putTo, ph1]
theorem run2_3 {a b c : GAcceptor} {p : GProposal} {v : GConfig} : run2 [a, b, c] p v = [ph2 p v 0 a, ph2 p v 1 b, ph2 p v 2 c] := by simp [run2, putTo, ph2]
theorem cnt3 {h : Nat → GAcceptor → Bool} {a b c : GAcceptor} : 3 < 2 * cntTo h [a, b, c] 3 ↔ (h 0 a = true ∧ h 1 b = true) ∨ (h 0 a = true ∧ h 2 c = true) ∨ (h 1 b = true ∧ h 2 c = true) := by
  simp only [cntTo, List.getElem?_cons_zero, List.getElem?_cons_succ]
  cases h 0 a <;> cases h 1 b <;> cases h 2 c <;> simp
theorem best_facts {p : GProposal} {l : List GAcceptor} : ∀ {k : Nat}, (∀ (i : Nat) (x : GAcceptor), i < k → l[i]? = some x → hit1 p i x = true → x.Ballot ≤ (bestTo p l k).1) ∧ (((bestTo p l k).1 = 0 ∧ (bestTo p l k).2 = p.Value) ∨ ∃ x ∈ l, x.Ballot = (bestTo p l k).1 ∧ x.Value = (bestTo p l k).2 ∧ 0 < x.Ballot) ∧ 0 ≤ (bestTo p l k).1
  | 0 => ⟨fun i x h => absurd h (Nat.not_lt_zero _), .inl ⟨rfl, rfl⟩, Int.le_refl _⟩
  | k + 1 => by
    obtain ⟨h1, h2, h3⟩ := best_facts (p := p) (l := l) (k := k)
    rw [bestTo]
    cases e : l[k]? with
    | none =>
      refine ⟨fun i x hi hx hh => ?_, h2, h3⟩
      rcases Nat.lt_or_ge i k with hi2 | hi2
      · exact h1 i x hi2 hx hh
      · have : i = k := by omega
        subst this
        rw [e] at hx
        cases hx
    | some a =>
      dsimp only
      split
      · rename_i hc
        refine ⟨fun i x hi hx hh => ?_, .inr ⟨a, List.mem_of_getElem? e, rfl, rfl, by omega⟩, by (try dsimp only); omega⟩
        dsimp only
        rcases Nat.lt_or_ge i k with hi2 | hi2
        · have := h1 i x hi2 hx hh
          omega
        · have : i = k := by omega
          subst this
          rw [e] at hx
          cases hx
          omega
      · rename_i hc
        refine ⟨fun i x hi hx hh => ?_, h2, h3⟩
        rcases Nat.lt_or_ge i k with hi2 | hi2
        · exact h1 i x hi2 hx hh
        · have : i = k := by omega
          subst this
          rw [e] at hx
          cases hx
          rcases Int.lt_or_le (bestTo p l i).1 a.Ballot with q | q
          · exact absurd ⟨hh, q⟩ hc
          · exact q
theorem validA_prep {a : GAcceptor} {n : Int} (h : validA a = true) (h1 : 1 ≤ n ∧ n ≤ 99) (h2 : a.Promised < n) : validA { a with Promised := n } = true := by
  simp only [validA, Bool.and_eq_true, decide_eq_true_eq] at h ⊢
  exact ⟨⟨by omega, by omega⟩, h.2⟩
theorem validA_acc {n : Int} {v : GConfig} (h1 : 1 ≤ n ∧ n ≤ 99) (h2 : validC v = true) : validA ⟨n, n, v⟩ = true := by
  simp only [validA, Bool.and_eq_true, decide_eq_true_eq]
  refine ⟨⟨by omega, by omega⟩, ?_⟩
  rw [if_neg (by omega)]
  exact h2
theorem areAcc3 {a b c : GAcceptor} : areAcc [a, b, c] = true ↔ validA a = true ∧ validA b = true ∧ validA c = true := by
  simp [areAcc]
theorem ph1_facts {p : GProposal} {i : Nat} {a : GAcceptor} (hv : validA a = true) : (hit1 p i a = true ∧ a.Promised < p.Ballot ∧ ph1 p i a = { a with Promised := p.Ballot } ∧ validA (ph1 p i a) = true) ∨ (hit1 p i a = false ∧ ph1 p i a = a ∧ validA (ph1 p i a) = true) := by
  cases e : hit1 p i a with
  | false =>
    have : ph1 p i a = a := by rw [ph1, if_neg (by rw [e]; simp)]
    exact .inr ⟨rfl, this, by rw [this]; exact hv⟩
  | true =>
    have h := e
    simp only [hit1, Bool.and_eq_true] at h
    have hp := h.1
    have hq := h.1
    simp only [prepareOk, Bool.and_eq_true, decide_eq_true_eq] at hq
    have : ph1 p i a = { a with Promised := p.Ballot } := by rw [ph1, if_pos e, prepareA, if_pos hp]
    exact .inl ⟨rfl, hq.2, this, by rw [this]; exact validA_prep hv hq.1.2 hq.2⟩
theorem ph2_facts {p : GProposal} {v : GConfig} {i : Nat} {a : GAcceptor} (hv : validA a = true) : (hit2 p v i a = true ∧ a.Promised ≤ p.Ballot ∧ ph2 p v i a = ⟨p.Ballot, p.Ballot, v⟩ ∧ validA (ph2 p v i a) = true) ∨ (hit2 p v i a = false ∧ ph2 p v i a = a ∧ validA (ph2 p v i a) = true) := by
  cases e : hit2 p v i a with
  | false =>
    have : ph2 p v i a = a := by rw [ph2, if_neg (by rw [e]; simp)]
    exact .inr ⟨rfl, this, by rw [this]; exact hv⟩
  | true =>
    have h := e
    simp only [hit2, Bool.and_eq_true] at h
    have hp := h.1
    have hq := h.1
    simp only [acceptOk, Bool.and_eq_true, decide_eq_true_eq] at hq
    have : ph2 p v i a = ⟨p.Ballot, p.Ballot, v⟩ := by rw [ph2, if_pos e, acceptA, if_pos hp]
    exact .inl ⟨rfl, hq.2, this, by rw [this]; exact validA_acc hq.1.2 hq.1.1.2⟩

end Go.V.T
