/- Contracts of the functions that FnSynod reaches: what each returns. Conditions: those that each theorem states. -/
import Derived.Test.YtmimpgleknffgaaWLSynod1
namespace Go.V.T
open Go Go.V Go.RowKit
set_option maxRecDepth 100000
set_option linter.unusedVariables false
set_option linter.unusedSimpArgs false
theorem pinv_step {a b c : GAcceptor} {K : Option GConfig} {p : GProposal} (h : PInv a b c K) :
    ∃ a' b' c', runA [a, b, c] p = [a', b', c'] ∧ PInv a' b' c' (keepK K (chosen [a', b', c'])) ∧ (runOk [a, b, c] p = true → chosen [a', b', c'] = some (runC [a, b, c] p)) := by
  obtain ⟨va, vb, vc⟩ := areAcc3.1 h.acc
  cases hin : runIn [a, b, c] p with
  | false =>
    have hok : runOk [a, b, c] p = false := by rw [runOk, hin]; rfl
    refine ⟨a, b, c, by rw [runA, if_neg (by rw [hin]; simp)], ?_, fun q => by rw [hok] at q; cases q⟩
    cases K with
    | some v => exact h
    | none => rw [h.kn rfl]; exact h
  | true =>
    have hin2 := hin
    simp only [runIn, Bool.and_eq_true, decide_eq_true_eq] at hin2
    have hm := hin2.2
    have f1 := ph1_facts (p := p) (i := 0) va
    have f2 := ph1_facts (p := p) (i := 1) vb
    have f3 := ph1_facts (p := p) (i := 2) vc
    have v1 : validA (ph1 p 0 a) = true := by rcases f1 with ⟨_, _, _, q⟩ | ⟨_, _, q⟩ <;> exact q
    have v2 : validA (ph1 p 1 b) = true := by rcases f2 with ⟨_, _, _, q⟩ | ⟨_, _, q⟩ <;> exact q
    have v3 : validA (ph1 p 2 c) = true := by rcases f3 with ⟨_, _, _, q⟩ | ⟨_, _, q⟩ <;> exact q
    have keep : ∀ {x x' : GAcceptor} {i : Nat}, x' = ph1 p i x → validA x = true → x'.Ballot = x.Ballot ∧ x'.Value = x.Value ∧ x.Promised ≤ x'.Promised := by
      intro x x' i e hx
      subst e
      rcases ph1_facts (p := p) (i := i) hx with ⟨_, q1, q2, _⟩ | ⟨_, q2, _⟩
      · rw [q2]; exact ⟨rfl, rfl, by (try dsimp only); omega⟩
      · rw [q2]; exact ⟨rfl, rfl, Int.le_refl _⟩
    cases h1 : run1Ok [a, b, c] p with
    | false =>
      have hok : runOk [a, b, c] p = false := by rw [runOk, hin, h1]; rfl
      obtain ⟨g1, g2⟩ := PInv.still h (a' := ph1 p 0 a) (b' := ph1 p 1 b) (c' := ph1 p 2 c) (areAcc3.2 ⟨v1, v2, v3⟩) (keep rfl va) (keep rfl vb) (keep rfl vc)
      refine ⟨ph1 p 0 a, ph1 p 1 b, ph1 p 2 c, by rw [runA, if_pos hin, if_neg (by rw [h1]; simp), run1_3], ?_, fun q => by rw [hok] at q; cases q⟩
      cases K with
      | some v => exact g1
      | none => rw [g2, h.kn rfl]; exact g1
    | true =>
      have hc := h1
      rw [run1Ok, decide_eq_true_eq, cnt3] at hc
      generalize hV : runV [a, b, c] p = V
      obtain ⟨b1, b2, b3⟩ := best_facts (p := p) (l := [a, b, c]) (k := 3)
      have hbv : (bestTo p [a, b, c] 3).2 = V := hV
      rw [hbv] at b2
      generalize (bestTo p [a, b, c] 3).1 = β at b1 b2 b3
      have lo : two (fun x => x.Ballot ≤ β) a b c := by
        rcases hc with ⟨q1, q2⟩ | ⟨q1, q2⟩ | ⟨q1, q2⟩
        · exact .inl ⟨b1 0 a (by omega) rfl q1, b1 1 b (by omega) rfl q2⟩
        · exact .inr (.inl ⟨b1 0 a (by omega) rfl q1, b1 2 c (by omega) rfl q2⟩)
        · exact .inr (.inr ⟨b1 1 b (by omega) rfl q1, b1 2 c (by omega) rfl q2⟩)
      have free : ∀ {i : Nat} {x : GAcceptor}, hit1 p i x = true → x.Promised < p.Ballot := by
        intro i x q
        simp only [hit1, prepareOk, Bool.and_eq_true, decide_eq_true_eq] at q
        exact q.1.2
      have fr : two (fun x => x.Promised < p.Ballot) a b c := by
        rcases hc with ⟨q1, q2⟩ | ⟨q1, q2⟩ | ⟨q1, q2⟩
        · exact .inl ⟨free q1, free q2⟩
        · exact .inr (.inl ⟨free q1, free q2⟩)
        · exact .inr (.inr ⟨free q1, free q2⟩)
      have hlt : ∀ x, (x = a ∨ x = b ∨ x = c) → x.Ballot < p.Ballot := fun x hx => by
        rcases Int.lt_or_le x.Ballot p.Ballot with q | q
        · exact q
        · obtain ⟨y, _, q1, q2⟩ := two_meet fr (h.prom x hx (by omega))
          omega
      have g1 := ph2_facts (p := p) (v := V) (i := 0) v1
      have g2 := ph2_facts (p := p) (v := V) (i := 1) v2
      have g3 := ph2_facts (p := p) (v := V) (i := 2) v3
      have mv : ∀ {x : GAcceptor} {i j : Nat}, validA x = true → Mv p.Ballot V x (ph2 p V j (ph1 p i x)) := by
        intro x i j hx
        obtain ⟨k1, k2, k3⟩ := keep (x := x) (i := i) rfl hx
        have hv1 : validA (ph1 p i x) = true := by rcases ph1_facts (p := p) (i := i) hx with ⟨_, _, _, q⟩ | ⟨_, _, q⟩ <;> exact q
        rcases ph2_facts (p := p) (v := V) (i := j) hv1 with ⟨_, q1, q2, _⟩ | ⟨_, q2, _⟩
        · rw [q2]
          exact .inr ⟨rfl, rfl, rfl, by omega⟩
        · rw [q2]
          exact .inl ⟨k1, k2, k3⟩
      have pm : ∀ {x : GAcceptor} {i j : Nat}, validA x = true → hit1 p i x = true → p.Ballot ≤ (ph2 p V j (ph1 p i x)).Promised := by
        intro x i j hx q
        have hv1 : validA (ph1 p i x) = true := by rcases ph1_facts (p := p) (i := i) hx with ⟨_, _, _, q⟩ | ⟨_, _, q⟩ <;> exact q
        have e : (ph1 p i x).Promised = p.Ballot := by
          rcases ph1_facts (p := p) (i := i) hx with ⟨_, _, q2, _⟩ | ⟨q2, _⟩
          · rw [q2]
          · rw [q] at q2; cases q2
        rcases ph2_facts (p := p) (v := V) (i := j) hv1 with ⟨_, q1, q2, _⟩ | ⟨_, q2, _⟩
        · rw [q2]; exact Int.le_refl _
        · rw [q2, e]; exact Int.le_refl _
      have w1 : validA (ph2 p V 0 (ph1 p 0 a)) = true := by rcases g1 with ⟨_, _, _, q⟩ | ⟨_, _, q⟩ <;> exact q
      have w2 : validA (ph2 p V 1 (ph1 p 1 b)) = true := by rcases g2 with ⟨_, _, _, q⟩ | ⟨_, _, q⟩ <;> exact q
      have w3 : validA (ph2 p V 2 (ph1 p 2 c)) = true := by rcases g3 with ⟨_, _, _, q⟩ | ⟨_, _, q⟩ <;> exact q
      obtain ⟨r1, r2⟩ := PInv.go h (m := p.Ballot) (V := V) hm.1 hlt (mv (i := 0) (j := 0) va) (mv (i := 1) (j := 1) vb) (mv (i := 2) (j := 2) vc) (areAcc3.2 ⟨w1, w2, w3⟩) (by
          rcases hc with ⟨q1, q2⟩ | ⟨q1, q2⟩ | ⟨q1, q2⟩
          · exact .inl ⟨pm va q1, pm vb q2⟩
          · exact .inr (.inl ⟨pm va q1, pm vc q2⟩)
          · exact .inr (.inr ⟨pm vb q1, pm vc q2⟩)) (fun v hK => by
          obtain ⟨n, h0, k1, k2⟩ := h.ks v hK
          obtain ⟨x, hx, q1, q2⟩ := two_meet k1 lo
          rcases b2 with ⟨q3, _⟩ | ⟨y, hy, q3, q4, _⟩
          · omega
          · rw [← q4]
            exact k2 y (by simpa using hy) (by omega))
      refine ⟨_, _, _, by rw [runA, if_pos hin, if_pos h1, hV, run1_3, run2_3], r1, fun q => ?_⟩
      have q2 := q
      rw [runOk, hin, h1, hV, run1_3] at q2
      simp only [Bool.true_and] at q2
      rw [run2Ok, decide_eq_true_eq, cnt3] at q2
      have acc : ∀ {x : GAcceptor} {j : Nat}, validA x = true → hit2 p V j x = true → (ph2 p V j x).Ballot = p.Ballot ∧ (ph2 p V j x).Value = V := by
        intro x j hx q
        rcases ph2_facts (p := p) (v := V) (i := j) hx with ⟨_, _, q2, _⟩ | ⟨q2, _⟩
        · rw [q2]; exact ⟨rfl, rfl⟩
        · rw [q] at q2; cases q2
      rw [runC, if_pos q, hV]
      refine r2 ?_
      rcases q2 with ⟨q1, q2⟩ | ⟨q1, q2⟩ | ⟨q1, q2⟩
      · exact .inl ⟨acc v1 q1, acc v2 q2⟩
      · exact .inr (.inl ⟨acc v1 q1, acc v3 q2⟩)
      · exact .inr (.inr ⟨acc v2 q1, acc v3 q2⟩)
theorem pinv_new : ∃ a b c, newAcc = [a, b, c] ∧ PInv a b c none := by
  refine ⟨⟨0, 0, ⟨0, 0, [], []⟩⟩, ⟨0, 0, ⟨0, 0, [], []⟩⟩, ⟨0, 0, ⟨0, 0, [], []⟩⟩, rfl, ?_⟩
  have hv : validA ⟨0, 0, ⟨0, 0, [], []⟩⟩ = true := by simp [validA, noConfig]
  have hA := areAcc3.2 ⟨hv, hv, hv⟩
  refine ⟨hA, fun x hx h0 => ?_, fun _ => ?_, fun v hK => by cases hK⟩
  · exfalso
    rcases hx with rfl | rfl | rfl <;> exact absurd h0 (by simp)
  · cases e : chosen [(⟨0, 0, ⟨0, 0, [], []⟩⟩ : GAcceptor), ⟨0, 0, ⟨0, 0, [], []⟩⟩, ⟨0, 0, ⟨0, 0, [], []⟩⟩] with
    | none => rfl
    | some w =>
      exfalso
      obtain ⟨n, h0, h1⟩ := (chosen_iff hA).1 e
      obtain ⟨x, hx, q, _⟩ := two_meet h1 h1
      have := q.1
      rcases hx with rfl | rfl | rfl <;> (dsimp only at this; omega)

theorem runsTo_okget {l : List GProposal} : ∀ {n : Nat}, n ≤ l.length → (runsTo l n).2.length = n ∧ ∀ (i : Nat) (p : GProposal), i < n → l[i]? = some p → (runsTo l n).2[i]? = some (runOk (runsTo l i).1 p)
  | 0, _ => ⟨rfl, fun i p hi => absurd hi (Nat.not_lt_zero _)⟩
  | n + 1, hn => by
    obtain ⟨h1, h2⟩ := runsTo_okget (l := l) (n := n) (by omega)
    have hp := List.getElem?_eq_getElem (show n < l.length by omega)
    rw [runsTo_step hp]
    refine ⟨by simp [h1], fun i p hi hx => ?_⟩
    dsimp only
    by_cases e : i = n
    · subst e
      rw [hp] at hx
      cases hx
      rw [List.getElem?_append_right (by omega), h1, Nat.sub_self]
      rfl
    · rw [List.getElem?_append_left (by omega)]
      exact h2 i p (by omega) hx
theorem runsOk_get {l : List GProposal} (hl : l.length ≤ 20) {i : Nat} {p : GProposal} (hp : l[i]? = some p) : (runsOk l)[i]? = some (runOk (runsTo l i).1 p) := by
  have e : runsN l = l.length := by unfold runsN; omega
  unfold runsOk
  rw [e]
  have hi : i < l.length := by
    rw [List.getElem?_eq_some_iff] at hp
    exact hp.1
  exact (runsTo_okget (Nat.le_refl _)).2 i p hi hp

theorem w_spec_l11Set (code : List Int) (hc : code.length ≤ 1048576) (i h : Int) (hi : 0 ≤ i ∧ i ≤ (code.length : Int)) : FnP Pr n_spec_l11Set [.ptr 0 0] [curA code i h] (Dr code (isL 3)) := by
  refine k_spec_l11Set.fnp (by kernel_rfl) ?_
  conv => arg 4; cbv
  refine Sat.loopP (ι := Nat × List Int × Int × Int) (fun p => [(3, .ref 64 (fun _ => 0) (fun _ => p.2.1.length)), (4, .int .i64 (fun _ => (p.1 : Int)))]) (fun p => [(0, .lit 99 [.sl 1 (encI .u8) (fun _ => code), .int .i64 (fun _ => p.2.2.1), .int .i64 (fun _ => p.2.2.2)]), (64, .row 1 (encI .i64) (fun _ => p.2.1) false)]) (fun p => p.1 ≤ 3 ∧ p.2.1.length ≤ p.1 ∧ 0 ≤ p.2.2.1 ∧ p.2.2.1 ≤ (code.length : Int)) (fun p => 3 - p.1) (0, [], i, h) ?_ (by simp; omega) (fun p hp => ?_)
  · refine les_of ?_ ?_ rfl
    iterate 2 (focus repeat' (first | exact trivial | refine And.intro ?_ ?_ | exact levA | refine lev_cons ?_ ?_ | refine LeV.agg rfl ?_ | exact Nat.le_of_ble_eq_true rfl | exact Or.inl ⟨_, rfl, .row rfl⟩ | refine Or.inl ⟨_, rfl, .row ?_⟩ | refine Or.inl ⟨_, rfl, .lit rfl ?_⟩ | exact Or.inr ⟨rfl, rfl⟩ | (first | exact .empref (fun h => nomatch h) rfl rfl rfl | rfl)))
  conv => arg 4; cbv
  repeat' first
    | (refine Sat.cmp (fun h => ?_) (fun h => ?_) <;> simp only [Cmp.holds] at h <;> (conv => arg 4; cbv))
    | (refine Sat.need ndA ?_; conv => arg 4; cbv)
    | (refine Sat.draw (w_spec_l1Once code hc 3) hp.2.2 (fun ret i' h' hi' hR => ?_); obtain ⟨b, rfl⟩ := hR; cases b <;> (conv => arg 4; cbv))
    | (refine Sat.idxk (by assumption) ?_; conv => arg 4; cbv) | (refine Sat.idx ndA (fun v_ hv_ => ?_); conv => arg 4; cbv)
    | (refine Sat.ari64 ndA ndA ?_; conv => arg 4; cbv)
    | (refine Sat.pop ?_; conv => arg 4; cbv)
    | (refine Sat.need ⟨rfl, fun y hy j hj => rfl, by (try dsimp only); omega⟩ ?_; conv => arg 4; cbv)
    | (refine Sat.same ?_; conv => arg 4; cbv)
  · refine Sat.next (p.1 + 1, p.2.1 ++ [(p.1 : Int)], i', h') ?_ ⟨by exact arA, by (try dsimp only); simp; omega, hi'⟩ (by (try dsimp only); exact arA)
    refine les_of ?_ ?_ rfl
    iterate 2 (focus repeat' (first | exact trivial | refine And.intro ?_ ?_ | exact levA | refine lev_cons ?_ ?_ | refine LeV.agg rfl ?_ | exact Nat.le_of_ble_eq_true rfl | exact Or.inl ⟨_, rfl, .row rfl⟩ | refine Or.inl ⟨_, rfl, .row ?_⟩ | refine Or.inl ⟨_, rfl, .lit rfl ?_⟩ | exact Or.inr ⟨rfl, rfl⟩ | (first | exact .ref (fun h => nomatch h) (fun h => nomatch h) rfl (by simp) | (simp; done))))
  · refine Sat.next (p.1 + 1, p.2.1, i', h') ?_ ⟨by exact arA, by (try dsimp only); omega, hi'⟩ (by (try dsimp only); exact arA)
    exact lesA
  · exact Sat.done (dr_end (ret := .sl 1 (encI .i64) (fun _ => p.2.1)) ⟨_, rfl, by omega⟩ (.sl (by simp)) hp.2.2 rfl)

def smP (p : GProposal) : Prop := p.First.length ≤ 3 ∧ p.Second.length ≤ 3 ∧ smC p.Value
def isPs (n : Nat) : AV → Prop := fun r => ∃ l : List GProposal, r = .sl 7 eGProposal (fun _ => l) ∧ l.length ≤ n ∧ ∀ p ∈ l, smP p
set_option maxHeartbeats 2000000 in
theorem w_spec_l11Proposals (code : List Int) (hc : code.length ≤ 1048576) (st : Int) (hst : 0 ≤ st ∧ st ≤ 100) (i h : Int) (hi : 0 ≤ i ∧ i ≤ (code.length : Int)) : FnP Pr n_spec_l11Proposals [.ptr 0 0, .int .i64 (fun _ => st)] [curA code i h] (Dr code (isPs 6)) := by
  refine k_spec_l11Proposals.fnp (by kernel_rfl) ?_
  conv => arg 4; cbv
  refine Sat.draw (w_spec_l1Below code hc _) hi (fun ret ia ha hia hR => ?_)
  obtain ⟨n, rfl, n0, n1⟩ := hR
  conv => arg 4; cbv
  (refine Sat.ari64 ndA ndA ?_; conv => arg 4; cbv)
  refine Sat.loopP (ι := List GProposal × Int × Int × Int) (fun p => [(5, .ref 40 (fun _ => 0) (fun _ => p.1.length)), (6, .int .i64 (fun _ => p.2.1))]) (fun p => [(0, .lit 99 [.sl 1 (encI .u8) (fun _ => code), .int .i64 (fun _ => p.2.2.1), .int .i64 (fun _ => p.2.2.2)]), (40, .row 7 eGProposal (fun _ => p.1) false)]) (fun p => ((p.1.length : Int) + p.2.1 ≤ 6 ∧ 0 ≤ p.2.1 ∧ 1 ≤ (p.1.length : Int) + p.2.1 ∧ ∀ x ∈ p.1, smP x) ∧ 0 ≤ p.2.2.1 ∧ p.2.2.1 ≤ (code.length : Int)) (fun p => p.2.1.toNat) ([], 1 + n, ia, ha) ?_ ⟨⟨by simp; omega, by (try dsimp only); omega, by simp; omega, fun x hx => nomatch hx⟩, hia⟩ (fun p hp => ?_)
  · refine les_of ?_ ?_ rfl
    iterate 2 (focus repeat' (first | exact trivial | refine And.intro ?_ ?_ | exact levA | refine lev_cons ?_ ?_ | refine LeV.agg rfl ?_ | exact Nat.le_of_ble_eq_true rfl | exact Or.inl ⟨_, rfl, .row rfl⟩ | refine Or.inl ⟨_, rfl, .row ?_⟩ | refine Or.inl ⟨_, rfl, .lit rfl ?_⟩ | exact Or.inr ⟨rfl, rfl⟩ | (first | exact .empref (fun h => nomatch h) rfl rfl rfl | rfl)))
  conv => arg 4; cbv
  refine Sat.cmp (fun hn => ?_) (fun hn => ?_) <;> simp only [Cmp.holds] at hn <;> (conv => arg 4; cbv)
  · have hl := hp.1.1
    have hm1 : 0 ≤ st * (p.1.length : Int) := Int.mul_nonneg hst.1 (by omega)
    have hm2 : st * (p.1.length : Int) ≤ 100 * (p.1.length : Int) := Int.mul_le_mul_of_nonneg_right hst.2 (by omega)
    repeat' first
      | (refine Sat.ari64 (by (try dsimp only); (try simp only [ncast]); omega) (by (try dsimp only); (try simp only [ncast]); omega) ?_; conv => arg 4; cbv)
    refine Sat.draw (w_spec_l1Below code hc _) hp.2 (fun ret ib hb hib hR => ?_)
    obtain ⟨u, rfl, u0, u1⟩ := hR
    conv => arg 4; cbv
    refine Sat.ari64 (by (try dsimp only); (try simp only [ncast]); omega) (by (try dsimp only); (try simp only [ncast]); omega) ?_
    conv => arg 4; cbv
    refine Sat.draw (w_spec_l11Set code hc) hib (fun ret ic hd hic hR => ?_)
    obtain ⟨x, rfl, hx⟩ := hR
    conv => arg 4; cbv
    refine Sat.draw (w_spec_l11Set code hc) hic (fun ret ij hj hij hR => ?_)
    obtain ⟨y, rfl, hy⟩ := hR
    conv => arg 4; cbv
    refine Sat.draw (w_spec_l8Config code hc 2) hij (fun ret ik hk hik hR => ?_)
    obtain ⟨c, rfl, c1, c2⟩ := hR
    conv => arg 4; cbv
    refine Sat.need ⟨rfl, rfl, rfl, by (try dsimp only); omega⟩ ?_
    conv => arg 4; cbv
    refine Sat.typed (⟨st * (p.1.length : Int) + 1 + u, x, y, c⟩ : GProposal) tcA ?_
    conv => arg 4; cbv
    (refine Sat.ari64 ndA ndA ?_; conv => arg 4; cbv)
    refine Sat.next (p.1 ++ [⟨st * (p.1.length : Int) + 1 + u, x, y, c⟩], p.2.1 - 1, ik, hk) ?_ ⟨⟨by simp; omega, by (try dsimp only); omega, by simp; omega, fun z hz => ?_⟩, hik⟩ (by (try dsimp only); omega)
    · refine les_of ?_ ?_ rfl
      iterate 2 (focus repeat' (first | exact trivial | refine And.intro ?_ ?_ | exact levA | refine lev_cons ?_ ?_ | refine LeV.agg rfl ?_ | exact Nat.le_of_ble_eq_true rfl | exact Or.inl ⟨_, rfl, .row rfl⟩ | refine Or.inl ⟨_, rfl, .row ?_⟩ | refine Or.inl ⟨_, rfl, .lit rfl ?_⟩ | exact Or.inr ⟨rfl, rfl⟩ | (first | exact .ref (fun h => nomatch h) (fun h => nomatch h) rfl (by simp) | (simp; done))))
    · rcases List.mem_append.1 hz with hz | hz
      · exact hp.1.2.2.2 z hz
      · rw [List.mem_singleton] at hz
        rw [hz]
        exact ⟨hx, hy, c1, c2⟩
  · (refine Sat.pop ?_; conv => arg 4; cbv)
    have hl1 : 1 ≤ p.1.length := by have := hp.1; omega
    have hl6 : p.1.length ≤ 6 := by have := hp.1; omega
    refine Sat.draw (w_spec_l1Once code hc 12) hp.2 (fun ret ib hb hib hR => ?_)
    obtain ⟨b, rfl⟩ := hR
    cases b <;> (conv => arg 4; cbv)
    · exact Sat.done (dr_end (ret := .sl 7 eGProposal (fun _ => p.1)) ⟨_, rfl, hl6, hp.1.2.2.2⟩ (.sl (tk _)) hib rfl)
    · refine Sat.draw (w_spec_l8Any code hc) hib (fun ret ic hd hic hR => ?_)
      obtain ⟨c, rfl, c1, c2⟩ := hR
      conv => arg 4; cbv
      repeat' first
        | (refine Sat.need ndA ?_; conv => arg 4; cbv)
        | (refine Sat.idxk (by assumption) ?_; conv => arg 4; cbv) | (refine Sat.idx ndA (fun v_ hv_ => ?_); conv => arg 4; cbv)
      have hv : v_ ∈ p.1 := List.mem_of_getElem? hv_
      refine Sat.typed ({ v_ with Value := c } : GProposal) tcA ?_
      conv => arg 4; cbv
      exact Sat.done (dr_end (ret := .sl 7 eGProposal (fun _ => p.1.set 0 { v_ with Value := c })) ⟨_, rfl, by simp; omega, fun z hz => by
        rcases List.mem_or_eq_of_mem_set hz with hz | hz
        · exact hp.1.2.2.2 z hz
        · rw [hz]
          have := hp.1.2.2.2 v_ hv
          exact ⟨this.1, this.2.1, c1, c2⟩⟩ (.sl (by simp [setAt])) hic rfl)

theorem w_spec_DrawRunProposals (code : List Int) (hc : code.length ≤ 1048576) : FnP Pr n_spec_DrawRunProposals [.sl 1 (encI .u8) (fun _ => code)] [] (fun ret outs => outs = [] ∧ ∃ l : List GProposal, ret = .sl 7 eGProposal (fun _ => l) ∧ l.length ≤ 6 ∧ ∀ p ∈ l, smP p) := by
  refine k_spec_DrawRunProposals.fnq (by kernel_rfl) ?_
  conv => arg 4; cbv
  refine Sat.newv (w_spec_l1New code hc) (fun cs hcs => ?_)
  obtain ⟨i, h, hi, rfl⟩ := hcs
  conv => arg 4; cbv
  refine Sat.draw (w_spec_l1Below code hc _) hi (fun ret ia ha hia hR => ?_)
  obtain ⟨u, rfl, u0, u1⟩ := hR
  conv => arg 4; cbv
  (refine Sat.ari64 ndA ndA ?_; conv => arg 4; cbv)
  refine Sat.draw (w_spec_l11Proposals code hc (1 + u) (by omega)) hia (fun ret ib hb hib hR => ?_)
  obtain ⟨l, rfl, h1, h2⟩ := hR
  conv => arg 4; cbv
  exact Sat.done ⟨.sl 7 eGProposal (fun _ => l), ⟨rfl, l, rfl, h1, h2⟩, .sl (tk _)⟩

theorem smP_b {l : List GProposal} (hl : l.length ≤ 6) (h : ∀ p ∈ l, smP p) : bProposalS l := ⟨by omega, fun p hp => ⟨by have := (h p hp).1; unfold bIntS; omega, by have := (h p hp).2.1; unfold bIntS; omega, smC_b (h p hp).2.2⟩⟩
/-- What is known to be chosen. -/
def kC : Option GConfig → GConfig
  | some v => v
  | none => noConfig
def kK : Option GConfig → Bool
  | some _ => true
  | none => false

theorem Sat.nextR3 {ι : Type} {As : List (St → Prop)} {Q : AV → Prop} {s : St} {G : ι → Prop} {μ : ι → Nat} {S : ι → St} {x : ι} (b c b' c' b2 c2 : Nat) (y : ι) (hc : noFx c s.st = true) (hb : noFx b s.st = true) (hlt : Nat.blt c s.nx = true) (hlt2 : Nat.blt b s.nx = true)
    (hc' : noFx c' (renS b c s).st = true) (hb' : noFx b' (renS b c s).st = true) (hlt' : Nat.blt c' (renS b c s).nx = true) (hlt2' : Nat.blt b' (renS b c s).nx = true)
    (hc2 : noFx c2 (renS b' c' (renS b c s)).st = true) (hb2 : noFx b2 (renS b' c' (renS b c s)).st = true) (hlt3 : Nat.blt c2 (renS b' c' (renS b c s)).nx = true) (hlt4 : Nat.blt b2 (renS b' c' (renS b c s)).nx = true)
    (h : LeS (renS b2 c2 (renS b' c' (renS b c s))) (S y)) (hg : G y) (hm : μ y < μ x) : Sat Pr Q ((fun s' => ∃ y, LeS s' (S y) ∧ G y ∧ μ y < μ x) :: As) (.again s) :=
  .again (.step b c hc hb hlt hlt2 (.step b' c' hc' hb' hlt' hlt2' (.step b2 c2 hc2 hb2 hlt3 hlt4 (.refl _)))) ⟨y, h, hg, hm⟩

set_option maxHeartbeats 8000000 in
theorem w_laws_FnSynod (code_ : List Int) {G : Prop} (F : (code_.length ≤ maxLen ∧ code_.length * 1 ≤ 140737488351232 ∧ ∀ x ∈ code_, (Lit.int .u8 x).wf = true) ∧ G) : Fn Pr n_laws_FnSynod [.sl 1 (encI .u8) (fun _ => code_)] (.bo true) := by
  by_cases hc : (1048576 : Int) < code_.length
  · have hB := w_laws_big code_ F.1.2.1
    rw [decide_eq_true hc] at hB
    refine k_laws_FnSynod.fn (by kernel_rfl) ?_
    conv => arg 4; cbv
    refine Sat.call hB rfl ledA ?_
    conv => arg 4; cbv
    exact Sat.done (.same _)
  have hB := w_laws_big code_ F.1.2.1
  rw [decide_eq_false hc] at hB
  refine k_laws_FnSynod.fn (by kernel_rfl) ?_
  conv => arg 4; cbv
  refine Sat.call hB rfl ledA ?_
  conv => arg 4; cbv
  refine Sat.rel (w_spec_DrawRunProposals code_ (by omega)) (fun ret outs hR => ?_)
  obtain ⟨rfl, l, rfl, hl6, hs⟩ := hR
  have hbl : bProposalS l := smP_b hl6 hs
  have htr : True := trivial
  have HI := w_impl_RunProposals l hbl
  have HS := w_spec_RunProposals l hbl
  have hA3 : (runsA l).length = 3 := runsTo_len.1
  have hAb : bAcceptorS (runsA l) := runsA_b hbl
  have hOl : (runsOk l).length = l.length := by
    have e : runsN l = l.length := by unfold runsN; omega
    unfold runsOk
    rw [e]
    exact (runsTo_okget (Nat.le_refl _)).1
  have hOg := fun (i : Nat) (p : GProposal) (hp : l[i]? = some p) => runsOk_get (l := l) (by omega) hp
  generalize runsA l = A at *
  generalize runsOk l = O at *
  conv => arg 4; cbv
  refine Sat.call HI rfl ledA ?_
  conv => arg 4; cbv
  refine Sat.call HS rfl ledA ?_
  conv => arg 4; cbv
  repeat' first
    | (refine Sat.cmp (fun h => ?_) (fun h => ?_) <;> simp only [Cmp.holds] at h <;> (conv => arg 4; cbv))
    | contradiction
  clear HI HS htr
  refine Sat.loopP (ι := Nat) (fun i => [(8, .int .i64 (fun _ => (i : Int)))]) (fun i => []) (fun i => i ≤ A.length) (fun i => A.length - i) 0 ?_ (by omega) (fun i hi => ?_)
  · exact lesA
  conv => arg 4; cbv
  refine Sat.cmp (fun hn => ?_) (fun hn => ?_) <;> simp only [Cmp.holds] at hn <;> (conv => arg 4; cbv)
  · repeat' first
      | (refine Sat.need ndA ?_; conv => arg 4; cbv)
      | (refine Sat.idxk (by assumption) ?_; conv => arg 4; cbv) | (refine Sat.idx ndA (fun v_ hv_ => ?_); conv => arg 4; cbv)
    have hb1 : bAcceptor v_ := hAb.2 v_ (List.mem_of_getElem? hv_)
    refine Sat.callb (w_impl_EqualAcceptors v_ v_ hb1) rfl ledA (fun h => ?_) (fun h => absurd rfl (of_decide_eq_false h)) <;> (conv => arg 4; cbv)
    (refine Sat.ari64 ndA ndA ?_; conv => arg 4; cbv)
    refine Sat.next (i + 1) ?_ (by exact arA) (by exact arA)
    exact lesA
  · (refine Sat.pop ?_; conv => arg 4; cbv)
    refine Sat.call (w_impl_NewAcceptors) rfl (led_nil) ?_
    obtain ⟨a0, b0, c0, hnew, hinv⟩ := pinv_new
    have hnb := newAcc_b
    conv => arg 4; cbv
    refine Sat.loopP (ι := Nat × List GAcceptor × Option GConfig) (fun p => [(9, .ref 592 (fun _ => 0) (fun _ => p.2.1.length)), (11, .bo (kK p.2.2)), (12, .int .i64 (fun _ => (p.1 : Int)))]) (fun p => [(592, .row 6 eGAcceptor (fun _ => p.2.1) false), (640, .lit 0 [.int .i64 (fun _ => (kC p.2.2).Epoch), .int .i64 (fun _ => (kC p.2.2).Primary), .ref 700 (fun _ => 0) (fun _ => (kC p.2.2).Replicas.length), .ref 701 (fun _ => 0) (fun _ => (kC p.2.2).Witnesses.length)]), (700, .row 1 (encI .i64) (fun _ => (kC p.2.2).Replicas) false), (701, .row 1 (encI .i64) (fun _ => (kC p.2.2).Witnesses) false)]) (fun p => p.1 ≤ l.length ∧ p.2.1 = (runsTo l p.1).1 ∧ ∃ a b c, p.2.1 = [a, b, c] ∧ PInv a b c p.2.2) (fun p => l.length - p.1) (0, newAcc, none) ?_ ⟨Nat.zero_le _, rfl, a0, b0, c0, hnew, hinv⟩ (fun p hp => ?_)
    · refine les_of ?_ ?_ rfl
      iterate 2 (focus repeat' (first | exact trivial | refine And.intro ?_ ?_ | exact levA | refine lev_cons ?_ ?_ | refine LeV.agg rfl ?_ | exact Nat.le_of_ble_eq_true rfl | exact Or.inl ⟨_, rfl, .row rfl⟩ | refine Or.inl ⟨_, rfl, .row ?_⟩ | refine Or.inl ⟨_, rfl, .lit rfl ?_⟩ | exact Or.inr ⟨rfl, rfl⟩ | (first | exact .nilref (fun h => nomatch h) rfl rfl rfl | rfl)))
    obtain ⟨j, x, K⟩ := p
    obtain ⟨hj, hx, a, b, c, hxe, hpi⟩ := hp
    dsimp only at hj hx hxe hpi
    clear hinv hnew hnb
    have hbx : bAcceptorS x := by
      rw [hx]
      exact runsTo_b hbl
    have hx3 : x.length = 3 := by rw [hxe]; rfl
    conv => arg 4; cbv
    refine Sat.cmp (fun hn => ?_) (fun hn => ?_) <;> simp only [Cmp.holds] at hn <;> (conv => arg 4; cbv)
    · repeat' first
        | (refine Sat.need ndA ?_; conv => arg 4; cbv)
        | (refine Sat.idxk (by assumption) ?_; conv => arg 4; cbv) | (refine Sat.idx ndA (fun v_ hv_ => ?_); conv => arg 4; cbv)
      have e0 : 0 + ((j : Int)).toNat = j := by omega
      have hv : l[j]? = some v_ := (congrArg (fun k => l[k]?) e0).symm.trans hv_
      have hmem : v_ ∈ l := List.mem_of_getElem? hv
      have hjl : j < l.length := (List.getElem?_eq_some_iff.1 hv).1
      have HR := w_impl_RunProposal x v_ hbx (hbl.2 v_ hmem) (by omega)
      obtain ⟨a', b', c', hrun, hpi', hok⟩ := pinv_step (p := v_) hpi
      have hO := hOg j v_ hv
      have hnx : (runsTo l (j + 1)).1 = runA x v_ := by rw [runsTo_step hv, ← hx]
      rw [← hxe] at hrun hok
      rw [← hrun] at hpi' hok
      rw [← hx] at hO
      have hby : bAcceptorS (runA x v_) := runA_b hbx (hbl.2 v_ hmem).2.2
      have hbr : bConfig (runC x v_) := runC_b hbx (hbl.2 v_ hmem).2.2
      have HC := w_impl_ChosenValue (runA x v_) hby
      have hyl : (runA x v_).length = 3 := by rw [hrun]; rfl
      have hone : ∀ v w, K = some v → chosen (runA x v_) = some w → w = v := fun v w hK hw => by
        subst hK
        rw [hrun] at hw
        exact PInv.one hpi' hw
      have hcb : bConfig (chosenC (runA x v_)) := chosenC_b hby
      generalize runA x v_ = y at *
      generalize runC x v_ = r at *
      generalize runOk x v_ = ok at *
      have hO2 : O[0 + ((j : Int)).toNat]? = some ok := by rw [e0]; exact hO
      cases hch : chosen y with
      | none =>
        have hok2 : ok = false := by
          cases ok with
          | false => rfl
          | true => rw [hok rfl] at hch; cases hch
        subst hok2
        simp only [chosenC, chosenOk, hch, Option.isSome_none] at HC
        rw [hch] at hpi'
        refine Sat.call HR rfl ledA ?_
        cases K <;> (conv => arg 4; cbv)
        all_goals repeat' first
          | (refine Sat.need ndA ?_; conv => arg 4; cbv)
          | (refine Sat.idxk hO2 ?_; conv => arg 4; cbv)
          | (refine Sat.call HC rfl ledA ?_; conv => arg 4; cbv)
          | (refine Sat.ari64 ndA ndA ?_; conv => arg 4; cbv)
        · refine Sat.nextR 852 592 (j + 1, y, none) rfl rfl rfl rfl ?_ ⟨by (try dsimp only); omega, hnx.symm, a', b', c', hrun, hpi'⟩ (by (try dsimp only); omega)
          exact lesA
        · rename_i v
          refine Sat.nextR 852 592 (j + 1, y, some v) rfl rfl rfl rfl ?_ ⟨by (try dsimp only); omega, hnx.symm, a', b', c', hrun, hpi'⟩ (by (try dsimp only); omega)
          exact lesA
      | some w =>
        simp only [chosenC, chosenOk, hch, Option.isSome_some] at HC hcb
        have hbw : bConfig w := hcb
        rw [hch] at hpi'
        refine Sat.call HR rfl ledA ?_
        have HE := w_impl_EqualConfigs w w hbw
        rw [decide_eq_true rfl] at HE
        cases K with
        | none =>
          cases ok
          · conv => arg 4; cbv
            repeat' first
              | (refine Sat.need ndA ?_; conv => arg 4; cbv)
              | (refine Sat.idxk hO2 ?_; conv => arg 4; cbv)
              | (refine Sat.call HC rfl ledA ?_; conv => arg 4; cbv)
              | (refine Sat.ari64 ndA ndA ?_; conv => arg 4; cbv)
            refine Sat.nextR3 1332 700 1333 701 852 592 (j + 1, y, some w) rfl rfl rfl rfl rfl rfl rfl rfl rfl rfl rfl rfl ?_ ⟨by (try dsimp only); omega, hnx.symm, a', b', c', hrun, hpi'⟩ (by (try dsimp only); omega)
            exact lesA
          · have hrw : w = r := Option.some.inj (hch.symm.trans (hok rfl))
            subst hrw
            conv => arg 4; cbv
            repeat' first
              | (refine Sat.need ndA ?_; conv => arg 4; cbv)
              | (refine Sat.idxk hO2 ?_; conv => arg 4; cbv)
              | (refine Sat.call HC rfl ledA ?_; conv => arg 4; cbv)
              | (refine Sat.ari64 ndA ndA ?_; conv => arg 4; cbv)
            refine Sat.nextR3 1332 700 1333 701 852 592 (j + 1, y, some w) rfl rfl rfl rfl rfl rfl rfl rfl rfl rfl rfl rfl ?_ ⟨by (try dsimp only); omega, hnx.symm, a', b', c', hrun, hpi'⟩ (by (try dsimp only); omega)
            exact lesA
        | some v =>
          have hwv : w = v := hone v w rfl hch
          subst hwv
          cases ok
          · conv => arg 4; cbv
            repeat' first
              | (refine Sat.need ndA ?_; conv => arg 4; cbv)
              | (refine Sat.idxk hO2 ?_; conv => arg 4; cbv)
              | (refine Sat.call HC rfl ledA ?_; conv => arg 4; cbv)
              | (refine Sat.call HE rfl (led_cons (led_c (.sl (tk _)) (.sl (tk _))) (led_cons (led_c (.sl (tk _)) (.sl (tk _))) led_nil)) ?_; conv => arg 4; cbv)
              | (refine Sat.ari64 ndA ndA ?_; conv => arg 4; cbv)
            refine Sat.nextR3 1332 700 1333 701 852 592 (j + 1, y, some w) rfl rfl rfl rfl rfl rfl rfl rfl rfl rfl rfl rfl ?_ ⟨by (try dsimp only); omega, hnx.symm, a', b', c', hrun, hpi'⟩ (by (try dsimp only); omega)
            exact lesA
          · have hrw : w = r := Option.some.inj (hch.symm.trans (hok rfl))
            subst hrw
            conv => arg 4; cbv
            repeat' first
              | (refine Sat.need ndA ?_; conv => arg 4; cbv)
              | (refine Sat.idxk hO2 ?_; conv => arg 4; cbv)
              | (refine Sat.call HC rfl ledA ?_; conv => arg 4; cbv)
              | (refine Sat.call HE rfl (led_cons (led_c (.sl (tk _)) (.sl (tk _))) (led_cons (led_c (.sl (tk _)) (.sl (tk _))) led_nil)) ?_; conv => arg 4; cbv)
              | (refine Sat.ari64 ndA ndA ?_; conv => arg 4; cbv)
            refine Sat.nextR3 1332 700 1333 701 852 592 (j + 1, y, some w) rfl rfl rfl rfl rfl rfl rfl rfl rfl rfl rfl rfl ?_ ⟨by (try dsimp only); omega, hnx.symm, a', b', c', hrun, hpi'⟩ (by (try dsimp only); omega)
            exact lesA
    · (refine Sat.pop ?_; conv => arg 4; cbv)
      have HA := w_impl_AreAcceptors x hbx
      rw [hxe, hpi.acc, ← hxe] at HA
      refine Sat.call HA rfl ledA ?_
      conv => arg 4; cbv
      exact Sat.done (.same _)

end Go.V.T
