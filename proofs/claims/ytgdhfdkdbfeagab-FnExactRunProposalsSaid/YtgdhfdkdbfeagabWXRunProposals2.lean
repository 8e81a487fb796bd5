/- Contracts of the functions that FnExactRunProposals reaches: what each returns. Conditions: those that each theorem states. -/
import Derived.Test.YtgdhfdkdbfeagabWXRunProposals1
namespace Go.V.T
open Go Go.V Go.RowKit
set_option maxRecDepth 100000
set_option linter.unusedVariables false
set_option linter.unusedSimpArgs false
theorem w_laws_heldBoolS (x : List Bool) (k : Int) (hb : bBoolS x) (hk : 0 ≤ k ∧ k ≤ 1152921504606846976) : Fn Pr n_laws_heldBoolS [.sl 1 encB (fun _ => x), .int .i64 (fun _ => k)] (.int .i64 (fun _ => if mkBoolS k x.length = x then k + 1 * (x.length : Int) else -1)) := by
  refine k_laws_heldBoolS.fn (by kernel_rfl) ?_
  have h0 : x.length * 1 ≤ 140737488351232 := hb
  conv => arg 4; cbv
  refine Sat.loopP (ι := Nat) (fun i => [(5, .int .i64 (fun _ => (i : Int))), (1, .int .i64 (fun _ => k + 1 * (i : Int)))]) (fun i => []) (fun i => i ≤ x.length ∧ x.take i = (mkBoolS k x.length).take i) (fun i => x.length - i) 0 ?_ ⟨by omega, by simp⟩ (fun i hi => ?_)
  · refine les_of ?_ ?_ rfl
    iterate 2 (focus repeat' (first | exact trivial | refine And.intro ?_ ?_ | exact levA | refine lev_cons ?_ ?_ | refine LeV.agg rfl ?_ | exact Nat.le_of_ble_eq_true rfl | exact Or.inl ⟨_, rfl, .row rfl⟩ | refine Or.inl ⟨_, rfl, .row ?_⟩ | refine Or.inl ⟨_, rfl, .lit rfl ?_⟩ | exact Or.inr ⟨rfl, rfl⟩ | (exact .int (by (try dsimp only); exact arA))))
  conv => arg 4; cbv
  repeat' first
    | (refine Sat.cmp (fun h => ?_) (fun h => ?_) <;> simp only [Cmp.holds] at h <;> (conv => arg 4; cbv))
    | (refine Sat.need ndA ?_; conv => arg 4; cbv)
    | (refine Sat.idx ndA (fun v_ hv_ => ?_); cases v_ <;> (conv => arg 4; cbv))
    | (refine Sat.ari64 ndA ndA ?_; conv => arg 4; cbv)
    | (refine Sat.pop ?_; conv => arg 4; cbv)
  · have e : mkBool (k + 1 * (i : Int)) = true := by unfold mkBool; exact decide_eq_true (by assumption)
    refine Sat.done (.int ?_)
    rw [if_neg]
    intro q
    have h1 := gen_get (f := fun i => mkBool (k + 1 * (i : Int))) (n := x.length) (i := i) (by exact arA)
    rw [show genL (fun i => mkBool (k + 1 * (i : Int))) x.length = x from q, e, show x[i]? = some false by simpa using hv_] at h1
    cases h1
  · have e : mkBool (k + 1 * (i : Int)) = false := by unfold mkBool; exact decide_eq_false (by assumption)
    have h1 := gen_get (f := fun i => mkBool (k + 1 * (i : Int))) (n := x.length) (i := i) (by exact arA)
    refine Sat.next (i + 1) ?_ ⟨by exact arA, ?_⟩ (by exact arA)
    · refine les_of ?_ ?_ rfl
      iterate 2 (focus repeat' (first | exact trivial | refine And.intro ?_ ?_ | exact levA | refine lev_cons ?_ ?_ | refine LeV.agg rfl ?_ | exact Nat.le_of_ble_eq_true rfl | exact Or.inl ⟨_, rfl, .row rfl⟩ | refine Or.inl ⟨_, rfl, .row ?_⟩ | refine Or.inl ⟨_, rfl, .lit rfl ?_⟩ | exact Or.inr ⟨rfl, rfl⟩ | (exact .int (by (try dsimp only); exact arA))))
    · rw [List.take_add_one, List.take_add_one, hi.2, show x[i]? = some false by simpa using hv_, show (mkBoolS k x.length)[i]? = some false from by rw [← e]; exact h1]
  · have e : mkBool (k + 1 * (i : Int)) = true := by unfold mkBool; exact decide_eq_true (by assumption)
    have h1 := gen_get (f := fun i => mkBool (k + 1 * (i : Int))) (n := x.length) (i := i) (by exact arA)
    refine Sat.next (i + 1) ?_ ⟨by exact arA, ?_⟩ (by exact arA)
    · refine les_of ?_ ?_ rfl
      iterate 2 (focus repeat' (first | exact trivial | refine And.intro ?_ ?_ | exact levA | refine lev_cons ?_ ?_ | refine LeV.agg rfl ?_ | exact Nat.le_of_ble_eq_true rfl | exact Or.inl ⟨_, rfl, .row rfl⟩ | refine Or.inl ⟨_, rfl, .row ?_⟩ | refine Or.inl ⟨_, rfl, .lit rfl ?_⟩ | exact Or.inr ⟨rfl, rfl⟩ | (exact .int (by (try dsimp only); exact arA))))
    · rw [List.take_add_one, List.take_add_one, hi.2, show x[i]? = some true by simpa using hv_, show (mkBoolS k x.length)[i]? = some true from by rw [← e]; exact h1]
  · have e : mkBool (k + 1 * (i : Int)) = false := by unfold mkBool; exact decide_eq_false (by assumption)
    refine Sat.done (.int ?_)
    rw [if_neg]
    intro q
    have h1 := gen_get (f := fun i => mkBool (k + 1 * (i : Int))) (n := x.length) (i := i) (by exact arA)
    rw [show genL (fun i => mkBool (k + 1 * (i : Int))) x.length = x from q, e, show x[i]? = some true by simpa using hv_] at h1
    cases h1
  · have e : i = x.length := by exact arA
    subst e
    have h2 := hi.2
    rw [List.take_length, List.take_of_length_le (by simp)] at h2
    refine Sat.done (.int ?_)
    rw [if_pos h2.symm]
    try rfl

theorem w_laws_heldBoolS_mk (k : Int) (n : Nat) (hb : bBoolS (mkBoolS k n)) (hk : 0 ≤ k ∧ k ≤ 1152921504606846976) : Fn Pr n_laws_heldBoolS [.sl 1 encB (fun _ => mkBoolS k n), .int .i64 (fun _ => k)] (.int .i64 (fun _ => k + 1 * (n : Int))) := by
  have h := w_laws_heldBoolS (mkBoolS k n) k hb hk
  simp only [mkBoolS_length, if_true] at h
  exact h

set_option maxHeartbeats 1000000 in
theorem w_impl_RunProposals (l : List GProposal) (hb : bProposalS l) : Fn Pr n_impl_RunProposals [.sl 7 eGProposal (fun _ => l)] (.tup [.sl 6 eGAcceptor (fun _ => runsA l), .sl 1 encB (fun _ => runsOk l)]) := by
  have hn0 : runsN l ≤ 20 := Nat.min_le_right ..
  have hn1 : runsN l ≤ l.length := Nat.min_le_left ..
  have HN := w_impl_NewAcceptors
  refine k_impl_RunProposals.fn (by kernel_rfl) ?_
  conv => arg 4; cbv
  repeat' first
    | (refine Sat.call HN rfl ledA ?_; conv => arg 4; cbv)
    | (refine Sat.cmp (fun h => ?_) (fun h => ?_) <;> simp only [Cmp.holds] at h <;> (conv => arg 4; cbv))
    | (refine Sat.need ndA ?_; conv => arg 4; cbv)
    | (refine Sat.idxk (by assumption) ?_; conv => arg 4; cbv) | (refine Sat.idx ndA (fun v_ hv_ => ?_); conv => arg 4; cbv)
    | (refine Sat.ari64 ndA ndA ?_; conv => arg 4; cbv)
  refine Sat.loopP (ι := Nat) (fun i => [(4, .ref 32 (fun _ => 0) (fun _ => (runsTo l i).1.length)), (5, .ref 64 (fun _ => 0) (fun _ => (runsTo l i).2.length)), (17, .int .i64 (fun _ => (i : Int)))]) (fun i => [(32, .row 6 eGAcceptor (fun _ => (runsTo l i).1) false), (64, .row 1 encB (fun _ => (runsTo l i).2) false)]) (fun i => i ≤ runsN l) (fun i => 20 - i) 0 ?_ (by omega) (fun i hi => ?_)
  · refine les_of ?_ ?_ rfl
    iterate 2 (focus repeat' (first | exact trivial | refine And.intro ?_ ?_ | exact levA | refine lev_cons ?_ ?_ | refine LeV.agg rfl ?_ | exact Nat.le_of_ble_eq_true rfl | exact Or.inl ⟨_, rfl, .row rfl⟩ | refine Or.inl ⟨_, rfl, .row ?_⟩ | refine Or.inl ⟨_, rfl, .lit rfl ?_⟩ | exact Or.inr ⟨rfl, rfl⟩ | (first | exact .empref (fun h => nomatch h) rfl rfl rfl | rfl)))
  have hb1 := runsTo_b hb (k := i)
  have hl1 := runsTo_len (l := l) (k := i)
  have hN : runsN l = min l.length 20 := rfl
  conv => arg 4; cbv
  repeat' first
    | (refine Sat.cmp (fun h => ?_) (fun h => ?_) <;> simp only [Cmp.holds] at h <;> (conv => arg 4; cbv))
    | (refine Sat.need ndA ?_; conv => arg 4; cbv)
    | (refine Sat.idxk (by assumption) ?_; conv => arg 4; cbv) | (refine Sat.idx ndA (fun v_ hv_ => ?_); conv => arg 4; cbv)
    | (refine Sat.ari64 ndA ndA ?_; conv => arg 4; cbv)
    | (refine Sat.pop ?_; conv => arg 4; cbv)
    | (exfalso; exact arA)
    | refine Sat.done ?_
  · have hp : l[i]? = some v_ := by
      have h1 := hv_
      (try simp only [List.drop_zero, Nat.sub_zero, Int.toNat_natCast, List.getElem?_take] at h1)
      (try split at h1)
      all_goals first | exact h1 | (exfalso; cases h1; done) | (simp at h1; done)
    have hpb := hb.2 _ (List.mem_of_getElem? hp)
    have hlt : i < l.length := (List.getElem?_eq_some_iff.1 hp).1
    have H := w_impl_RunProposal (runsTo l i).1 v_ hb1 hpb (by omega)
    have e := runsTo_step hp
    generalize runOk (runsTo l i).1 v_ = b at *
    cases b
    all_goals refine Sat.call H rfl ledA ?_
    all_goals (conv => arg 4; cbv)
    all_goals repeat' first
      | (refine Sat.typed true tcA ?_; conv => arg 4; cbv)
      | (refine Sat.typed false tcA ?_; conv => arg 4; cbv)
      | (refine Sat.need ndA ?_; conv => arg 4; cbv)
      | (refine Sat.ari64 ndA ndA ?_; conv => arg 4; cbv)
      | (refine Sat.pop ?_; conv => arg 4; cbv)
      | refine Sat.nextR 338 32 (i + 1) rfl rfl rfl rfl ?_ (by exact arA) (by exact arA)
    · refine les_of ?_ ?_ rfl
      iterate 2 (focus repeat' (first | exact trivial | refine And.intro ?_ ?_ | exact levA | refine lev_cons ?_ ?_ | refine LeV.agg rfl ?_ | exact Nat.le_of_ble_eq_true rfl | exact Or.inl ⟨_, rfl, .row rfl⟩ | refine Or.inl ⟨_, rfl, .row ?_⟩ | refine Or.inl ⟨_, rfl, .lit rfl ?_⟩ | exact Or.inr ⟨rfl, rfl⟩ | (first | exact .int ndA | (exact .ref (fun h => nomatch h) (fun h => nomatch h) rfl (by (try dsimp only); rw [e]; (try simp))) | (rw [e]; done) | (rw [e]; simp; done))))
    · refine les_of ?_ ?_ rfl
      iterate 2 (focus repeat' (first | exact trivial | refine And.intro ?_ ?_ | exact levA | refine lev_cons ?_ ?_ | refine LeV.agg rfl ?_ | exact Nat.le_of_ble_eq_true rfl | exact Or.inl ⟨_, rfl, .row rfl⟩ | refine Or.inl ⟨_, rfl, .row ?_⟩ | refine Or.inl ⟨_, rfl, .lit rfl ?_⟩ | exact Or.inr ⟨rfl, rfl⟩ | (first | exact .int ndA | (exact .ref (fun h => nomatch h) (fun h => nomatch h) rfl (by (try dsimp only); rw [e]; (try simp))) | (rw [e]; done) | (rw [e]; simp; done))))
  all_goals (have ei : i = runsN l := by exact arA)
  all_goals subst ei
  all_goals exact .tup rfl (led_cons (.sl (by simp [runsA])) (led_cons (.sl (by simp [runsOk])) led_nil))

set_option maxHeartbeats 1000000 in
theorem w_spec_RunProposals (l : List GProposal) (hb : bProposalS l) : Fn Pr n_spec_RunProposals [.sl 7 eGProposal (fun _ => l)] (.tup [.sl 6 eGAcceptor (fun _ => runsA l), .sl 1 encB (fun _ => runsOk l)]) := by
  have hn0 : runsN l ≤ 20 := Nat.min_le_right ..
  have hn1 : runsN l ≤ l.length := Nat.min_le_left ..
  have HN := w_spec_NewAcceptors
  refine k_spec_RunProposals.fn (by kernel_rfl) ?_
  conv => arg 4; cbv
  repeat' first
    | (refine Sat.call HN rfl ledA ?_; conv => arg 4; cbv)
    | (refine Sat.cmp (fun h => ?_) (fun h => ?_) <;> simp only [Cmp.holds] at h <;> (conv => arg 4; cbv))
    | (refine Sat.need ndA ?_; conv => arg 4; cbv)
    | (refine Sat.idxk (by assumption) ?_; conv => arg 4; cbv) | (refine Sat.idx ndA (fun v_ hv_ => ?_); conv => arg 4; cbv)
    | (refine Sat.ari64 ndA ndA ?_; conv => arg 4; cbv)
  refine Sat.loopP (ι := Nat) (fun i => [(4, .ref 32 (fun _ => 0) (fun _ => (runsTo l i).1.length)), (5, .ref 64 (fun _ => 0) (fun _ => (runsTo l i).2.length)), (6, .int .i64 (fun _ => (i : Int)))]) (fun i => [(32, .row 6 eGAcceptor (fun _ => (runsTo l i).1) false), (64, .row 1 encB (fun _ => (runsTo l i).2) false)]) (fun i => i ≤ runsN l) (fun i => 20 - i) 0 ?_ (by omega) (fun i hi => ?_)
  · refine les_of ?_ ?_ rfl
    iterate 2 (focus repeat' (first | exact trivial | refine And.intro ?_ ?_ | exact levA | refine lev_cons ?_ ?_ | refine LeV.agg rfl ?_ | exact Nat.le_of_ble_eq_true rfl | exact Or.inl ⟨_, rfl, .row rfl⟩ | refine Or.inl ⟨_, rfl, .row ?_⟩ | refine Or.inl ⟨_, rfl, .lit rfl ?_⟩ | exact Or.inr ⟨rfl, rfl⟩ | (first | exact .empref (fun h => nomatch h) rfl rfl rfl | rfl)))
  have hb1 := runsTo_b hb (k := i)
  have hl1 := runsTo_len (l := l) (k := i)
  have hN : runsN l = min l.length 20 := rfl
  conv => arg 4; cbv
  repeat' first
    | (refine Sat.cmp (fun h => ?_) (fun h => ?_) <;> simp only [Cmp.holds] at h <;> (conv => arg 4; cbv))
    | (refine Sat.need ndA ?_; conv => arg 4; cbv)
    | (refine Sat.idxk (by assumption) ?_; conv => arg 4; cbv) | (refine Sat.idx ndA (fun v_ hv_ => ?_); conv => arg 4; cbv)
    | (refine Sat.ari64 ndA ndA ?_; conv => arg 4; cbv)
    | (refine Sat.pop ?_; conv => arg 4; cbv)
    | (exfalso; exact arA)
    | refine Sat.done ?_
  · have hp : l[i]? = some v_ := by
      have h1 := hv_
      (try simp only [List.drop_zero, Nat.sub_zero, Int.toNat_natCast, List.getElem?_take] at h1)
      (try split at h1)
      all_goals first | exact h1 | (exfalso; cases h1; done) | (simp at h1; done)
    have hpb := hb.2 _ (List.mem_of_getElem? hp)
    have hlt : i < l.length := (List.getElem?_eq_some_iff.1 hp).1
    have H := w_spec_RunProposal (runsTo l i).1 v_ hb1 hpb (by omega)
    have e := runsTo_step hp
    generalize runOk (runsTo l i).1 v_ = b at *
    cases b
    all_goals refine Sat.call H rfl ledA ?_
    all_goals (conv => arg 4; cbv)
    all_goals repeat' first
      | (refine Sat.typed true tcA ?_; conv => arg 4; cbv)
      | (refine Sat.typed false tcA ?_; conv => arg 4; cbv)
      | (refine Sat.need ndA ?_; conv => arg 4; cbv)
      | (refine Sat.ari64 ndA ndA ?_; conv => arg 4; cbv)
      | (refine Sat.pop ?_; conv => arg 4; cbv)
      | refine Sat.nextR 322 32 (i + 1) rfl rfl rfl rfl ?_ (by exact arA) (by exact arA)
    · refine les_of ?_ ?_ rfl
      iterate 2 (focus repeat' (first | exact trivial | refine And.intro ?_ ?_ | exact levA | refine lev_cons ?_ ?_ | refine LeV.agg rfl ?_ | exact Nat.le_of_ble_eq_true rfl | exact Or.inl ⟨_, rfl, .row rfl⟩ | refine Or.inl ⟨_, rfl, .row ?_⟩ | refine Or.inl ⟨_, rfl, .lit rfl ?_⟩ | exact Or.inr ⟨rfl, rfl⟩ | (first | exact .int ndA | (exact .ref (fun h => nomatch h) (fun h => nomatch h) rfl (by (try dsimp only); rw [e]; (try simp))) | (rw [e]; done) | (rw [e]; simp; done))))
    · refine les_of ?_ ?_ rfl
      iterate 2 (focus repeat' (first | exact trivial | refine And.intro ?_ ?_ | exact levA | refine lev_cons ?_ ?_ | refine LeV.agg rfl ?_ | exact Nat.le_of_ble_eq_true rfl | exact Or.inl ⟨_, rfl, .row rfl⟩ | refine Or.inl ⟨_, rfl, .row ?_⟩ | refine Or.inl ⟨_, rfl, .lit rfl ?_⟩ | exact Or.inr ⟨rfl, rfl⟩ | (first | exact .int ndA | (exact .ref (fun h => nomatch h) (fun h => nomatch h) rfl (by (try dsimp only); rw [e]; (try simp))) | (rw [e]; done) | (rw [e]; simp; done))))
  all_goals (have ei : i = runsN l := by exact arA)
  all_goals subst ei
  all_goals exact .tup rfl (led_cons (.sl (by simp [runsA])) (led_cons (.sl (by simp [runsOk])) led_nil))

set_option maxHeartbeats 4000000 in
theorem w_laws_FnExactRunProposals (l_ : List GProposal) {G : Prop} (F : fProposalS l_ ∧ G) : Fn Pr n_laws_FnExactRunProposals [.sl 7 eGProposal (fun _ => l_)] (.bo true) := by
  have hb_l : bProposalS l_ := fProposalS_b F.1
  have q0 := sProposalS_rng (x := l_) (n := 1048576)
  by_cases hsz : sProposalS l_ 1048576 < 0
  · refine k_laws_FnExactRunProposals.fn (by kernel_rfl) ?_
    conv => arg 4; cbv
    repeat' first
      | (refine Sat.cmp (fun h => ?_) (fun h => ?_) <;> simp only [Cmp.holds] at h <;> (conv => arg 4; cbv))
      | (refine Sat.call (w_laws_szProposalS l_ 1048576 hb_l (by exact arA)) rfl ledA ?_; conv => arg 4; cbv)
      | (exfalso; omega)
      | (refine Sat.need ndA ?_; conv => arg 4; cbv)
      | (refine Sat.idxk (by assumption) ?_; conv => arg 4; cbv) | (refine Sat.idx ndA (fun v_ hv_ => ?_); conv => arg 4; cbv)
      | (refine Sat.ari64 ndA ndA ?_; conv => arg 4; cbv)
      | (refine Sat.pop ?_; conv => arg 4; cbv)
      | refine Sat.done ?_
    all_goals first | exact .same _ | (exfalso; exact arA)
  have hlen := sProposalS_nG hsz
  have hg0 := runs_nG (l := l_) hb_l
  have HS := w_spec_RunProposals l_ hb_l
  have HI := w_impl_RunProposals l_ hb_l
  have hc0 : bAcceptorS (runsA l_) := runsA_b hb_l
  have hc1 : bBoolS (runsOk l_) := runsOk_b
  generalize runsA l_ = g0 at *
  generalize runsOk l_ = g1 at *
  have hd1 : g1.length * 1 ≤ 140737488351232 := hc1
  have hm1 : ∀ k, bBoolS (mkBoolS k g1.length) := fun k => by show (mkBoolS _ _).length * 1 ≤ _; rw [mkBoolS_length]; exact hc1
  refine k_laws_FnExactRunProposals.fn (by kernel_rfl) ?_
  (conv => arg 4; cbv)
  repeat' first
    | (refine Sat.cmp (fun h => ?_) (fun h => ?_) <;> simp only [Cmp.holds] at h <;> (conv => arg 4; cbv))
    | (refine Sat.call (w_laws_szProposalS l_ 1048576 hb_l (by exact arA)) rfl ledA ?_; conv => arg 4; cbv)
    | (refine Sat.call (w_laws_toProposalS l_ hb_l) rfl ledA ?_; conv => arg 4; cbv)
    | (refine Sat.callb (HS) rfl ledA (fun h => ?_) (fun h => ?_) <;> (try simp only [decide_eq_true_eq, decide_eq_false_iff_not] at h) <;> (conv => arg 4; cbv))
    | (refine Sat.call (HS) rfl ledA ?_; conv => arg 4; cbv)
    | (refine Sat.callb (HI) rfl ledA (fun h => ?_) (fun h => ?_) <;> (try simp only [decide_eq_true_eq, decide_eq_false_iff_not] at h) <;> (conv => arg 4; cbv))
    | (refine Sat.call (HI) rfl ledA ?_; conv => arg 4; cbv)
    | (refine Sat.callb (w_laws_eqAcceptorS g0 g0 hc0) rfl ledA (fun h => ?_) (fun h => ?_) <;> (try simp only [decide_eq_true_eq, decide_eq_false_iff_not] at h) <;> (conv => arg 4; cbv))
    | (refine Sat.callb (w_laws_eqBoolS g1 g1 hc1) rfl ledA (fun h => ?_) (fun h => ?_) <;> (try simp only [decide_eq_true_eq, decide_eq_false_iff_not] at h) <;> (conv => arg 4; cbv))
    | (refine Sat.callb (w_laws_eqProposalS l_ l_ hb_l) rfl ledA (fun h => ?_) (fun h => ?_) <;> (try simp only [decide_eq_true_eq, decide_eq_false_iff_not] at h) <;> (conv => arg 4; cbv))
    | (refine Sat.callm (w_laws_markProposalS l_ (1) hb_l (by exact arA) (by exact arA)) rfl ledA rfl ledA ?_; conv => arg 4; cbv)
    | (refine Sat.callm (w_laws_markAcceptorS g0 1 hc0 (by exact arA) (by exact arA)) rfl ledA rfl ledA ?_; conv => arg 4; cbv)
    | (refine Sat.call (w_laws_heldAcceptorS_mk g0 1 hc0 (by exact arA) (by exact arA)) rfl ledA ?_; conv => arg 4; cbv)
    | (refine Sat.callm (w_laws_markBoolS g1 (1 + nG n1Acceptor g0) hc1 (by exact arA)) rfl ledA rfl ledA ?_; conv => arg 4; cbv)
    | (refine Sat.call (w_laws_heldBoolS_mk (1 + nG n1Acceptor g0) g1.length (hm1 _) (by exact arA)) rfl ledA ?_; conv => arg 4; cbv)
    | (refine Sat.need ndA ?_; conv => arg 4; cbv)
    | (refine Sat.need (by (repeat' (first | exact trivial | refine And.intro ?_ ?_ | rfl | (dsimp only; simp [genL_length]; done))); (first | done | fail)) ?_; conv => arg 4; cbv)
    | (refine Sat.idxk (by assumption) ?_; conv => arg 4; cbv) | (refine Sat.idx ndA (fun v_ hv_ => ?_); conv => arg 4; cbv)
    | (refine Sat.ari64 ndA ndA ?_; conv => arg 4; cbv)
    | (refine Sat.pop ?_; conv => arg 4; cbv)
    | refine Sat.done ?_
  all_goals refine led_bo ?_
  all_goals first | rfl | contradiction | (exfalso; (try simp only [ncast] at *); omega) | (exfalso; simp_all; done)

end Go.V.T
