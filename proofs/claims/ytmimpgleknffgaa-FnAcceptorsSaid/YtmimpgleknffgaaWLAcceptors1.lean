/- Contracts of the functions that FnAcceptors reaches: what each returns. Conditions: those that each theorem states. -/
import Derived.Test.YtmimpgleknffgaaWLAcceptors
namespace Go.V.T
open Go Go.V Go.RowKit
set_option maxRecDepth 100000
set_option linter.unusedVariables false
set_option linter.unusedSimpArgs false
def isB : AV → Prop := fun r => ∃ b : Bool, r = .bo b
theorem w_spec_l1Once (code : List Int) (hc : code.length ≤ 1048576) (n : Int) (i h : Int) (hi : 0 ≤ i ∧ i ≤ (code.length : Int)) : FnP Pr n_spec_l1Once [.ptr 0 0, .int .i64 (fun _ => n)] [curA code i h] (Dr code isB) := by
  refine k_spec_l1Once.fnp (by kernel_rfl) ?_
  conv => arg 4; cbv
  repeat' first
    | (refine Sat.cmp (fun h => ?_) (fun h => ?_) <;> simp only [Cmp.holds] at h <;> (conv => arg 4; cbv))
    | (refine Sat.need ndA ?_; conv => arg 4; cbv)
    | (refine Sat.draw (w_spec_l1Below code hc n) (by (try dsimp only); omega) (fun ret i' h' hi' hR => ?_); obtain ⟨v, rfl, hv0, hv1⟩ := hR; conv => arg 4; cbv)
    | (refine Sat.ari64 ndA ndA ?_; conv => arg 4; cbv)
    | (refine Sat.pop ?_; conv => arg 4; cbv)
  · exact Sat.done (dr_end (ret := .bo true) ⟨_, rfl⟩ (.same _) hi' rfl)
  · exact Sat.done (dr_end (ret := .bo false) ⟨_, rfl⟩ (.same _) hi' rfl)

def isAny : AV → Prop := fun r => ∃ v : Int, r = .int .i64 (fun _ => v)
theorem w_spec_l1PickInt (code : List Int) (hc : code.length ≤ 1048576) (l : List Int) (hl : 1 ≤ l.length) (hm : l.length ≤ 1000000) (i h : Int) (hi : 0 ≤ i ∧ i ≤ (code.length : Int)) : FnP Pr n_spec_l1PickInt [.ptr 0 0, .sl 1 (encI .i64) (fun _ => l)] [curA code i h] (Dr code isAny) := by
  refine k_spec_l1PickInt.fnp (by kernel_rfl) ?_
  conv => arg 4; cbv
  repeat' first
    | (refine Sat.cmp (fun h => ?_) (fun h => ?_) <;> simp only [Cmp.holds] at h <;> (conv => arg 4; cbv))
    | (refine Sat.need ndA ?_; conv => arg 4; cbv)
    | (refine Sat.draw (w_spec_l1Below code hc (l.length : Int)) (by (try dsimp only); omega) (fun ret i' h' hi' hR => ?_); obtain ⟨v, rfl, hv0, hv1⟩ := hR; conv => arg 4; cbv)
    | (refine Sat.idxk (by assumption) ?_; conv => arg 4; cbv) | (refine Sat.idx ndA (fun v_ hv_ => ?_); conv => arg 4; cbv)
    | (refine Sat.ari64 ndA ndA ?_; conv => arg 4; cbv)
    | (refine Sat.pop ?_; conv => arg 4; cbv)
  exact Sat.done (dr_end (ret := .int .i64 (fun _ => v_)) ⟨_, rfl⟩ (.int rfl) hi' rfl)

/-- Some whole numbers, at most n. -/
def isL (n : Nat) : AV → Prop := fun r => ∃ l : List Int, r = .sl 1 (encI .i64) (fun _ => l) ∧ l.length ≤ n
theorem w_spec_l2Some (code : List Int) (hc : code.length ≤ 1048576) (i h : Int) (hi : 0 ≤ i ∧ i ≤ (code.length : Int)) : FnP Pr n_spec_l2Some [.ptr 0 0] [curA code i h] (Dr code (isL 5)) := by
  refine k_spec_l2Some.fnp (by kernel_rfl) ?_
  conv => arg 4; cbv
  refine Sat.loopP (ι := Nat × List Int × Int × Int) (fun p => [(3, .ref 64 (fun _ => 0) (fun _ => p.2.1.length)), (4, .int .i64 (fun _ => (p.1 : Int)))]) (fun p => [(0, .lit 99 [.sl 1 (encI .u8) (fun _ => code), .int .i64 (fun _ => p.2.2.1), .int .i64 (fun _ => p.2.2.2)]), (64, .row 1 (encI .i64) (fun _ => p.2.1) false)]) (fun p => p.1 ≤ 5 ∧ p.2.1.length ≤ p.1 ∧ 0 ≤ p.2.2.1 ∧ p.2.2.1 ≤ (code.length : Int)) (fun p => 5 - p.1) (0, [], i, h) ?_ (by simp; omega) (fun p hp => ?_)
  · refine les_of ?_ ?_ rfl
    iterate 2 (focus repeat' (first | exact trivial | refine And.intro ?_ ?_ | exact levA | refine lev_cons ?_ ?_ | refine LeV.agg rfl ?_ | exact Nat.le_of_ble_eq_true rfl | exact Or.inl ⟨_, rfl, .row rfl⟩ | refine Or.inl ⟨_, rfl, .row ?_⟩ | refine Or.inl ⟨_, rfl, .lit rfl ?_⟩ | exact Or.inr ⟨rfl, rfl⟩ | (first | exact .empref (fun h => nomatch h) rfl rfl rfl | rfl)))
  conv => arg 4; cbv
  repeat' first
    | (refine Sat.cmp (fun h => ?_) (fun h => ?_) <;> simp only [Cmp.holds] at h <;> (conv => arg 4; cbv))
    | (refine Sat.need ndA ?_; conv => arg 4; cbv)
    | (refine Sat.draw (w_spec_l1Once code hc 2) hp.2.2 (fun ret i' h' hi' hR => ?_); obtain ⟨b, rfl⟩ := hR; cases b <;> (conv => arg 4; cbv))
    | (refine Sat.idxk (by assumption) ?_; conv => arg 4; cbv) | (refine Sat.idx ndA (fun v_ hv_ => ?_); conv => arg 4; cbv)
    | (refine Sat.ari64 ndA ndA ?_; conv => arg 4; cbv)
    | (refine Sat.pop ?_; conv => arg 4; cbv)
    | (refine Sat.need ⟨rfl, fun y hy j hj => rfl, by (try dsimp only); omega⟩ ?_; conv => arg 4; cbv)
    | (refine Sat.same ?_; conv => arg 4; cbv)
  · refine Sat.next (p.1 + 1, p.2.1, i', h') ?_ ⟨by exact arA, by (try dsimp only); omega, hi'⟩ (by (try dsimp only); exact arA)
    exact lesA
  · refine Sat.next (p.1 + 1, p.2.1 ++ [(p.1 : Int)], i', h') ?_ ⟨by exact arA, by (try dsimp only); simp; omega, hi'⟩ (by (try dsimp only); exact arA)
    refine les_of ?_ ?_ rfl
    iterate 2 (focus repeat' (first | exact trivial | refine And.intro ?_ ?_ | exact levA | refine lev_cons ?_ ?_ | refine LeV.agg rfl ?_ | exact Nat.le_of_ble_eq_true rfl | exact Or.inl ⟨_, rfl, .row rfl⟩ | refine Or.inl ⟨_, rfl, .row ?_⟩ | refine Or.inl ⟨_, rfl, .lit rfl ?_⟩ | exact Or.inr ⟨rfl, rfl⟩ | (first | exact .ref (fun h => nomatch h) (fun h => nomatch h) rfl (by simp) | (simp; done))))
  · exact Sat.done (dr_end (ret := .sl 1 (encI .i64) (fun _ => p.2.1)) ⟨_, rfl, by omega⟩ (.sl (by simp)) hp.2.2 rfl)

theorem w_spec_l2Any (code : List Int) (hc : code.length ≤ 1048576) (i h : Int) (hi : 0 ≤ i ∧ i ≤ (code.length : Int)) : FnP Pr n_spec_l2Any [.ptr 0 0] [curA code i h] (Dr code (isL 6)) := by
  refine k_spec_l2Any.fnp (by kernel_rfl) ?_
  conv => arg 4; cbv
  repeat' first
    | (refine Sat.cmp (fun h => ?_) (fun h => ?_) <;> simp only [Cmp.holds] at h <;> (conv => arg 4; cbv))
    | (refine Sat.need ndA ?_; conv => arg 4; cbv)
    | (refine Sat.draw (w_spec_l2Some code hc) (by (try dsimp only); omega) (fun ret i' h' hi' hR => ?_); obtain ⟨l, rfl, hl⟩ := hR; conv => arg 4; cbv)
    | (refine Sat.draw (w_spec_l1Once code hc 8) (by (try dsimp only); omega) (fun ret i' h' hi' hR => ?_); obtain ⟨b, rfl⟩ := hR; cases b <;> (conv => arg 4; cbv))
    | (refine Sat.draw (w_spec_l1PickInt code hc [-1, 0, 4, 5] (by decide) (by decide)) (by (try dsimp only); omega) (fun ret i' h' hi' hR => ?_); obtain ⟨v, rfl⟩ := hR; conv => arg 4; cbv)
    | (refine Sat.idxk (by assumption) ?_; conv => arg 4; cbv) | (refine Sat.idx ndA (fun v_ hv_ => ?_); conv => arg 4; cbv)
    | (refine Sat.ari64 ndA ndA ?_; conv => arg 4; cbv)
    | (refine Sat.pop ?_; conv => arg 4; cbv)
  · exact Sat.done (dr_end (ret := .sl 1 (encI .i64) (fun _ => l)) ⟨_, rfl, by omega⟩ (.sl (by simp)) hi' rfl)
  · refine Sat.need ⟨rfl, fun y hy j hj => ?_, by (try dsimp only); omega⟩ ?_
    · rfl
    conv => arg 4; cbv
    refine Sat.same ?_
    conv => arg 4; cbv
    exact Sat.done (dr_end (ret := .sl 1 (encI .i64) (fun _ => l ++ [v])) ⟨_, rfl, by simp; omega⟩ (.sl (by simp)) hi' rfl)

theorem w_laws_big (code : List Int) (hb : code.length * 1 ≤ 140737488351232) : Fn Pr n_laws_big [.sl 1 (encI .u8) (fun _ => code)] (.bo (decide ((1048576 : Int) < code.length))) := by
  refine k_laws_big.fn (by kernel_rfl) ?_
  conv => arg 4; cbv
  repeat' first
    | (refine Sat.cmp (fun h => ?_) (fun h => ?_) <;> simp only [Cmp.holds] at h <;> (conv => arg 4; cbv))
    | (refine Sat.need ndA ?_; conv => arg 4; cbv)
    | (refine Sat.idxk (by assumption) ?_; conv => arg 4; cbv) | (refine Sat.idx ndA (fun v_ hv_ => ?_); conv => arg 4; cbv)
    | (refine Sat.ari64 ndA ndA ?_; conv => arg 4; cbv)
    | (refine Sat.pop ?_; conv => arg 4; cbv)
    | refine Sat.done ?_
  all_goals refine led_bo ?_
  all_goals (simp only [ncast] at *; simp; omega)

def isC : AV → Prop := fun r => ∃ c : GConfig, r = aGConfig c ∧ c.Replicas.length ≤ 6 ∧ c.Witnesses.length ≤ 6
theorem tk {α : Type} (l : List α) : (l.drop 0).take l.length = l := by simp
theorem led_c {e p : Int} {x y : AV} {a b : List Int} (hx : LeD x (.sl 1 (encI .i64) (fun _ => a))) (hy : LeD y (.sl 1 (encI .i64) (fun _ => b))) : LeD (.agg [.int .i64 (fun _ => e), .int .i64 (fun _ => p), x, y]) (aGConfig ⟨e, p, a, b⟩) := .agg rfl (led_cons (.same _) (led_cons (.same _) (led_cons hx (led_cons hy led_nil))))
theorem w_spec_l8Config (code : List Int) (hc : code.length ≤ 1048576) (e : Int) (i h : Int) (hi : 0 ≤ i ∧ i ≤ (code.length : Int)) : FnP Pr n_spec_l8Config [.ptr 0 0, .int .i64 (fun _ => e)] [curA code i h] (Dr code isC) := by
  refine k_spec_l8Config.fnp (by kernel_rfl) ?_
  conv => arg 4; cbv
  refine Sat.draw (w_spec_l1Below code hc _) hi (fun ret ia ha hia hR => ?_)
  obtain ⟨p, rfl, p0, p1⟩ := hR
  conv => arg 4; cbv
  have hp1 : [p].length ≤ 6 := by simp
  have hn0 : ([] : List Int).length ≤ 6 := by simp
  refine Sat.may (fun _ => ?_) ?_ <;> (conv => arg 4; cbv)
  all_goals refine Sat.draw (w_spec_l2Some code hc) hia (fun ret ib hb hib hR => ?_)
  all_goals obtain ⟨l, rfl, hl⟩ := hR
  all_goals conv => arg 4; cbv
  all_goals refine Sat.call (w_spec_l2Put l p (by omega)) rfl ledA ?_
  all_goals have hput := put_len (x := p) (l := l)
  all_goals have hR6 : (put p l).length ≤ 6 := by omega
  all_goals generalize put p l = R at *
  all_goals conv => arg 4; cbv
  all_goals refine Sat.cmp (fun hg => ?_) (fun hg => ?_) <;> (conv => arg 4; cbv)
  all_goals refine Sat.draw (w_spec_l1Once code hc 2) hib (fun ret ic hd hic hR => ?_)
  all_goals obtain ⟨b, rfl⟩ := hR
  all_goals cases b <;> (conv => arg 4; cbv)
  all_goals try refine Sat.may (fun _ => ?_) ?_ <;> (conv => arg 4; cbv)
  all_goals try (refine Sat.draw (w_spec_l2Some code hc) hic (fun ret ij hj hij hR => ?_); obtain ⟨w, rfl, hw⟩ := hR; conv => arg 4; cbv)
  all_goals first
    | (refine Sat.call (w_spec_WithoutServers w R (by omega) (by unfold bIntS; omega)) rfl ledA ?_
       have hwl := without_len (a := w) (b := R)
       have hU1 : ((without w R).take 1).length ≤ 6 := by rw [List.length_take]; omega
       generalize without w R = U at *
       conv => arg 4; cbv)
    | (refine Sat.call (w_spec_WithoutServers w [p] (by omega) (by unfold bIntS; simp)) rfl ledA ?_
       have hwl := without_len (a := w) (b := [p])
       have hU1 : ((without w [p]).take 1).length ≤ 6 := by rw [List.length_take]; omega
       generalize without w [p] = U at *
       conv => arg 4; cbv)
    | skip
  all_goals repeat' first
    | (refine Sat.cmp (fun h => ?_) (fun h => ?_) <;> simp only [Cmp.holds] at h <;> (conv => arg 4; cbv))
    | (refine Sat.need ndA ?_; conv => arg 4; cbv)
  all_goals first
    | exact Sat.done (dr_end (ret := aGConfig ⟨e, p, R, U.take 1⟩) ⟨_, rfl, hR6, hU1⟩ (led_c (.sl (tk R)) (.sl rfl)) hij rfl)
    | exact Sat.done (dr_end (ret := aGConfig ⟨e, p, [p], U.take 1⟩) ⟨_, rfl, hp1, hU1⟩ (led_c (.sl rfl) (.sl rfl)) hij rfl)
    | exact Sat.done (dr_end (ret := aGConfig ⟨e, p, R, []⟩) ⟨_, rfl, hR6, hn0⟩ (led_c (.sl (tk R)) (.nil rfl)) hic rfl)
    | exact Sat.done (dr_end (ret := aGConfig ⟨e, p, [p], []⟩) ⟨_, rfl, hp1, hn0⟩ (led_c (.sl rfl) (.nil rfl)) hic rfl)
    | exact Sat.done (dr_end (ret := aGConfig ⟨e, p, R, []⟩) ⟨_, rfl, hR6, hn0⟩ (led_c (.sl (tk R)) (.nil rfl)) hij rfl)
    | exact Sat.done (dr_end (ret := aGConfig ⟨e, p, [p], []⟩) ⟨_, rfl, hp1, hn0⟩ (led_c (.sl rfl) (.nil rfl)) hij rfl)
    | trace_state

theorem w_spec_l8Any (code : List Int) (hc : code.length ≤ 1048576) (i h : Int) (hi : 0 ≤ i ∧ i ≤ (code.length : Int)) : FnP Pr n_spec_l8Any [.ptr 0 0] [curA code i h] (Dr code isC) := by
  refine k_spec_l8Any.fnp (by kernel_rfl) ?_
  conv => arg 4; cbv
  refine Sat.draw (w_spec_l1Below code hc _) hi (fun ret ia ha hia hR => ?_)
  obtain ⟨p, rfl, p0, p1⟩ := hR
  conv => arg 4; cbv
  (refine Sat.ari64 ndA ndA ?_; conv => arg 4; cbv)
  refine Sat.draw (w_spec_l8Config code hc _) hia (fun ret ib hb hib hR => ?_)
  obtain ⟨c, rfl, c1, c2⟩ := hR
  conv => arg 4; cbv
  refine Sat.draw (w_spec_l1Below code hc _) hib (fun ret ic hd hic hR => ?_)
  obtain ⟨q, rfl, q0, q1⟩ := hR
  conv => arg 4; cbv
  repeat' first
    | (refine Sat.cmp (fun h => ?_) (fun h => ?_) <;> simp only [Cmp.holds] at h <;> (conv => arg 4; cbv))
    | (refine Sat.ari64 ndA ndA ?_; conv => arg 4; cbv)
    | (refine Sat.draw (w_spec_l1PickInt code hc [0, 20, 21] (by decide) (by decide)) hic (fun ret ij hj hij hR => ?_); obtain ⟨u, rfl⟩ := hR; conv => arg 4; cbv)
    | (refine Sat.draw (w_spec_l1Below code hc 7) hic (fun ret ij hj hij hR => ?_); obtain ⟨u, rfl, u0, u1⟩ := hR; conv => arg 4; cbv)
    | (refine Sat.draw (w_spec_l2Any code hc) hic (fun ret ij hj hij hR => ?_); obtain ⟨w, rfl, hw⟩ := hR; conv => arg 4; cbv)
  all_goals first
    | exact Sat.done (dr_end (ret := aGConfig { c with Epoch := u }) ⟨_, rfl, c1, c2⟩ (led_c (.sl (tk _)) (.sl (tk _))) hij rfl)
    | exact Sat.done (dr_end (ret := aGConfig { c with Primary := u - 1 }) ⟨_, rfl, c1, c2⟩ (led_c (.sl (tk _)) (.sl (tk _))) hij rfl)
    | exact Sat.done (dr_end (ret := aGConfig { c with Replicas := w }) ⟨_, rfl, hw, c2⟩ (led_c (.sl (tk _)) (.sl (tk _))) hij rfl)
    | exact Sat.done (dr_end (ret := aGConfig { c with Witnesses := w }) ⟨_, rfl, c1, hw⟩ (led_c (.sl (tk _)) (.sl (tk _))) hij rfl)
    | exact Sat.done (dr_end (ret := aGConfig c) ⟨_, rfl, c1, c2⟩ (led_c (.sl (tk _)) (.sl (tk _))) hic rfl)
    | trace_state

def smC (c : GConfig) : Prop := c.Replicas.length ≤ 6 ∧ c.Witnesses.length ≤ 6
theorem smC_b {c : GConfig} (h : smC c) : bConfig c := ⟨by have := h.1; unfold bIntS; omega, by have := h.2; unfold bIntS; omega⟩
def isA : AV → Prop := fun r => ∃ a : GAcceptor, r = aGAcceptor a ∧ smC a.Value
theorem prepareA_sm {a : GAcceptor} {n : Int} (h : smC a.Value) : smC (prepareA a n).Value := by unfold prepareA; split <;> exact h
theorem acceptA_sm {a : GAcceptor} {n : Int} {c : GConfig} (h : smC a.Value) (hc : smC c) : smC (acceptA a n c).Value := by
  unfold acceptA
  split
  · exact hc
  · exact h
theorem led_a {p b e q : Int} {x y : AV} {r w : List Int} (hx : LeD x (.sl 1 (encI .i64) (fun _ => r))) (hy : LeD y (.sl 1 (encI .i64) (fun _ => w))) : LeD (.agg [.int .i64 (fun _ => p), .int .i64 (fun _ => b), .int .i64 (fun _ => e), .int .i64 (fun _ => q), x, y]) (aGAcceptor ⟨p, b, ⟨e, q, r, w⟩⟩) := .agg rfl (led_cons (.same _) (led_cons (.same _) (led_cons (.same _) (led_cons (.same _) (led_cons hx (led_cons hy led_nil))))))

set_option maxHeartbeats 2000000 in
theorem w_spec_l10Any (code : List Int) (hc : code.length ≤ 1048576) (i h : Int) (hi : 0 ≤ i ∧ i ≤ (code.length : Int)) : FnP Pr n_spec_l10Any [.ptr 0 0] [curA code i h] (Dr code isA) := by
  refine k_spec_l10Any.fnp (by kernel_rfl) ?_
  conv => arg 4; cbv
  refine Sat.draw (w_spec_l1Below code hc _) hi (fun ret ia ha hia hR => ?_)
  obtain ⟨n, rfl, n0, n1⟩ := hR
  conv => arg 4; cbv
  refine Sat.loopP (ι := GAcceptor × Int × Int × Int) (fun p => [(4, .int .i64 (fun _ => p.2.1))]) (fun p => [(0, .lit 99 [.sl 1 (encI .u8) (fun _ => code), .int .i64 (fun _ => p.2.2.1), .int .i64 (fun _ => p.2.2.2)]), (33, .lit 0 [.int .i64 (fun _ => p.1.Promised), .int .i64 (fun _ => p.1.Ballot), .int .i64 (fun _ => p.1.Value.Epoch), .int .i64 (fun _ => p.1.Value.Primary), .ref 40 (fun _ => 0) (fun _ => p.1.Value.Replicas.length), .ref 41 (fun _ => 0) (fun _ => p.1.Value.Witnesses.length)]), (40, .row 1 (encI .i64) (fun _ => p.1.Value.Replicas) false), (41, .row 1 (encI .i64) (fun _ => p.1.Value.Witnesses) false)]) (fun p => smC p.1.Value ∧ p.2.1 ≤ 3 ∧ 0 ≤ p.2.2.1 ∧ p.2.2.1 ≤ (code.length : Int)) (fun p => p.2.1.toNat) (⟨0, 0, ⟨0, 0, [], []⟩⟩, n, ia, ha) ?_ ⟨by unfold smC; simp, by (try dsimp only); omega, hia⟩ (fun p hp => ?_)
  · refine les_of ?_ ?_ rfl
    iterate 2 (focus repeat' (first | exact trivial | refine And.intro ?_ ?_ | exact levA | refine lev_cons ?_ ?_ | refine LeV.agg rfl ?_ | exact Nat.le_of_ble_eq_true rfl | exact Or.inl ⟨_, rfl, .row rfl⟩ | refine Or.inl ⟨_, rfl, .row ?_⟩ | refine Or.inl ⟨_, rfl, .lit rfl ?_⟩ | exact Or.inr ⟨rfl, rfl⟩ | (first | exact .nilref (fun h => nomatch h) rfl rfl rfl | rfl)))
  conv => arg 4; cbv
  refine Sat.cmp (fun hn => ?_) (fun hn => ?_) <;> simp only [Cmp.holds] at hn <;> (conv => arg 4; cbv)
  · refine Sat.draw (w_spec_l1Once code hc 2) hp.2.2 (fun ret ib hb hib hR => ?_)
    obtain ⟨b, rfl⟩ := hR
    have hba : bAcceptor p.1 := smC_b hp.1
    cases b <;> (conv => arg 4; cbv)
    · refine Sat.may (fun _ => ?_) ?_ <;> (conv => arg 4; cbv)
      all_goals refine Sat.draw (w_spec_l1Below code hc 6) hib (fun ret ic hd hic hR => ?_)
      all_goals obtain ⟨u, rfl, u0, u1⟩ := hR
      all_goals conv => arg 4; cbv
      all_goals (refine Sat.ari64 ndA ndA ?_; conv => arg 4; cbv)
      all_goals try refine Sat.may (fun _ => ?_) ?_ <;> (conv => arg 4; cbv)
      all_goals refine Sat.draw (w_spec_l8Config code hc 2) hic (fun ret ij hj hij hR => ?_)
      all_goals obtain ⟨c, rfl, c1, c2⟩ := hR
      all_goals conv => arg 4; cbv
      all_goals refine Sat.call (w_spec_Accept p.1 (1 + u) c hba (smC_b ⟨c1, c2⟩)) rfl (led_cons (led_a (.sl (tk _)) (.sl (tk _))) (led_cons (.same _) (led_cons (led_c (.sl (tk _)) (.sl (tk _))) led_nil))) ?_
      all_goals have hsm := acceptA_sm (a := p.1) (n := 1 + u) (c := c) hp.1 ⟨c1, c2⟩
      all_goals generalize acceptA p.1 (1 + u) c = A at *
      all_goals generalize acceptOk p.1 (1 + u) c = B at *
      all_goals conv => arg 4; cbv
      all_goals (refine Sat.ari64 ndA ndA ?_; conv => arg 4; cbv)
      · refine Sat.nextR2 277 40 278 41 (A, p.2.1 - 1, ij, hj) rfl rfl rfl rfl rfl rfl rfl rfl ?_ ⟨hsm, by (try dsimp only); omega, hij⟩ (by (try dsimp only); omega)
        exact lesA
      · refine Sat.nextR2 277 40 278 41 (A, p.2.1 - 1, ij, hj) rfl rfl rfl rfl rfl rfl rfl rfl ?_ ⟨hsm, by (try dsimp only); omega, hij⟩ (by (try dsimp only); omega)
        exact lesA
      · refine Sat.nextR2 277 40 278 41 (A, p.2.1 - 1, ij, hj) rfl rfl rfl rfl rfl rfl rfl rfl ?_ ⟨hsm, by (try dsimp only); omega, hij⟩ (by (try dsimp only); omega)
        exact lesA
    · refine Sat.may (fun _ => ?_) ?_ <;> (conv => arg 4; cbv)
      all_goals refine Sat.draw (w_spec_l1Below code hc 6) hib (fun ret ic hd hic hR => ?_)
      all_goals obtain ⟨u, rfl, u0, u1⟩ := hR
      all_goals conv => arg 4; cbv
      all_goals (refine Sat.ari64 ndA ndA ?_; conv => arg 4; cbv)
      all_goals refine Sat.call (w_spec_Prepare p.1 (1 + u) hba) rfl (led_cons (led_a (.sl (tk _)) (.sl (tk _))) (led_cons (.same _) led_nil)) ?_
      all_goals have hsm := prepareA_sm (a := p.1) (n := 1 + u) hp.1
      all_goals generalize prepareA p.1 (1 + u) = A at *
      all_goals generalize prepareOk p.1 (1 + u) = B at *
      all_goals conv => arg 4; cbv
      all_goals (refine Sat.ari64 ndA ndA ?_; conv => arg 4; cbv)
      · refine Sat.nextR2 245 40 246 41 (A, p.2.1 - 1, ic, hd) rfl rfl rfl rfl rfl rfl rfl rfl ?_ ⟨hsm, by (try dsimp only); omega, hic⟩ (by (try dsimp only); omega)
        exact lesA
      · refine Sat.nextR2 245 40 246 41 (A, p.2.1 - 1, ic, hd) rfl rfl rfl rfl rfl rfl rfl rfl ?_ ⟨hsm, by (try dsimp only); omega, hic⟩ (by (try dsimp only); omega)
        exact lesA
  · (refine Sat.pop ?_; conv => arg 4; cbv)
    refine Sat.draw (w_spec_l1Below code hc _) hp.2.2 (fun ret ib hb hib hR => ?_)
    obtain ⟨q, rfl, q0, q1⟩ := hR
    conv => arg 4; cbv
    repeat' first
      | (refine Sat.cmp (fun h => ?_) (fun h => ?_) <;> simp only [Cmp.holds] at h <;> (conv => arg 4; cbv))
      | (refine Sat.draw (w_spec_l1PickInt code hc [-1, 0, 99, 100] (by decide) (by decide)) hib (fun ret ic hd hic hR => ?_); obtain ⟨u, rfl⟩ := hR; conv => arg 4; cbv)
      | (refine Sat.draw (w_spec_l1PickInt code hc [-1, 0, 1, 7] (by decide) (by decide)) hib (fun ret ic hd hic hR => ?_); obtain ⟨u, rfl⟩ := hR; conv => arg 4; cbv)
      | (refine Sat.draw (w_spec_l8Any code hc) hib (fun ret ic hd hic hR => ?_); obtain ⟨c, rfl, c1, c2⟩ := hR; conv => arg 4; cbv)
    all_goals first
      | exact Sat.done (dr_end (ret := aGAcceptor { p.1 with Promised := u }) ⟨_, rfl, hp.1⟩ (led_a (.sl (tk _)) (.sl (tk _))) hic rfl)
      | exact Sat.done (dr_end (ret := aGAcceptor { p.1 with Ballot := u }) ⟨_, rfl, hp.1⟩ (led_a (.sl (tk _)) (.sl (tk _))) hic rfl)
      | exact Sat.done (dr_end (ret := aGAcceptor { p.1 with Value := c }) ⟨_, rfl, ⟨c1, c2⟩⟩ (led_a (.sl (tk _)) (.sl (tk _))) hic rfl)
      | exact Sat.done (dr_end (ret := aGAcceptor p.1) ⟨_, rfl, hp.1⟩ (led_a (.sl (tk _)) (.sl (tk _))) hib rfl)
      | trace_state

theorem w_spec_DrawPrepare (code : List Int) (hc : code.length ≤ 1048576) : FnP Pr n_spec_DrawPrepare [.sl 1 (encI .u8) (fun _ => code)] [] (fun ret outs => outs = [] ∧ ∃ (a : GAcceptor) (n : Int), ret = .tup [aGAcceptor a, .int .i64 (fun _ => n)] ∧ smC a.Value) := by
  refine k_spec_DrawPrepare.fnq (by kernel_rfl) ?_
  conv => arg 4; cbv
  refine Sat.newv (w_spec_l1New code hc) (fun cs hcs => ?_)
  obtain ⟨i, h, hi, rfl⟩ := hcs
  conv => arg 4; cbv
  refine Sat.draw (w_spec_l10Any code hc) hi (fun ret ia ha hia hR => ?_)
  obtain ⟨a, rfl, hs⟩ := hR
  conv => arg 4; cbv
  refine Sat.draw (w_spec_l1PickInt code hc [1, 2, 3, 5, 7, 99, 100, 0] (by decide) (by decide)) hia (fun ret ib hb hib hR => ?_)
  obtain ⟨n, rfl⟩ := hR
  conv => arg 4; cbv
  exact Sat.done ⟨.tup [aGAcceptor a, .int .i64 (fun _ => n)], ⟨rfl, a, n, rfl, hs⟩, .tup rfl (led_cons (led_a (.sl (tk _)) (.sl (tk _))) (led_cons (.same _) led_nil))⟩

theorem w_spec_DrawAccept (code : List Int) (hc : code.length ≤ 1048576) : FnP Pr n_spec_DrawAccept [.sl 1 (encI .u8) (fun _ => code)] [] (fun ret outs => outs = [] ∧ ∃ (a : GAcceptor) (n : Int) (c : GConfig), ret = .tup [aGAcceptor a, .int .i64 (fun _ => n), aGConfig c] ∧ smC a.Value ∧ smC c) := by
  refine k_spec_DrawAccept.fnq (by kernel_rfl) ?_
  conv => arg 4; cbv
  refine Sat.newv (w_spec_l1New code hc) (fun cs hcs => ?_)
  obtain ⟨i, h, hi, rfl⟩ := hcs
  conv => arg 4; cbv
  refine Sat.draw (w_spec_l10Any code hc) hi (fun ret ia ha hia hR => ?_)
  obtain ⟨a, rfl, hs⟩ := hR
  conv => arg 4; cbv
  refine Sat.draw (w_spec_l1PickInt code hc [1, 2, 3, 5, 7, 99, 100, 0] (by decide) (by decide)) hia (fun ret ib hb hib hR => ?_)
  obtain ⟨n, rfl⟩ := hR
  conv => arg 4; cbv
  refine Sat.may (fun _ => ?_) ?_ <;> (conv => arg 4; cbv)
  all_goals refine Sat.draw (w_spec_l8Any code hc) hib (fun ret ic hd hic hR => ?_)
  all_goals obtain ⟨c, rfl, c1, c2⟩ := hR
  all_goals conv => arg 4; cbv
  all_goals exact Sat.done ⟨.tup [aGAcceptor a, .int .i64 (fun _ => n), aGConfig c], ⟨rfl, a, n, c, rfl, hs, ⟨c1, c2⟩⟩, .tup rfl (led_cons (led_a (.sl (tk _)) (.sl (tk _))) (led_cons (.same _) (led_cons (led_c (.sl (tk _)) (.sl (tk _))) led_nil)))⟩

set_option maxHeartbeats 4000000 in
theorem w_laws_FnAcceptors (code_ : List Int) {G : Prop} (F : (code_.length ≤ maxLen ∧ code_.length * 1 ≤ 140737488351232 ∧ ∀ x ∈ code_, (Lit.int .u8 x).wf = true) ∧ G) : Fn Pr n_laws_FnAcceptors [.sl 1 (encI .u8) (fun _ => code_)] (.bo true) := by
  by_cases hc : (1048576 : Int) < code_.length
  · have hB := w_laws_big code_ F.1.2.1
    rw [decide_eq_true hc] at hB
    refine k_laws_FnAcceptors.fn (by kernel_rfl) ?_
    conv => arg 4; cbv
    refine Sat.call hB rfl ledA ?_
    conv => arg 4; cbv
    exact Sat.done (.same _)
  have hB := w_laws_big code_ F.1.2.1
  rw [decide_eq_false hc] at hB
  refine k_laws_FnAcceptors.fn (by kernel_rfl) ?_
  conv => arg 4; cbv
  refine Sat.call hB rfl ledA ?_
  conv => arg 4; cbv
  refine Sat.rel (w_spec_DrawPrepare code_ (by omega)) (fun ret outs hR => ?_)
  obtain ⟨rfl, a, n, rfl, hs⟩ := hR
  have hb : bAcceptor a := smC_b hs
  have hbp : bAcceptor (prepareA a n) := prepareA_b hb
  have HI := w_impl_Prepare a n hb
  have HS := w_spec_Prepare a n hb
  have HP : prepareOk a n = true → (prepareA a n).Promised = n ∧ (prepareA a n).Ballot = a.Ballot := fun h => by
    rw [prepareA, if_pos h]
    exact ⟨rfl, rfl⟩
  generalize prepareA a n = x at *
  generalize prepareOk a n = ok at *
  conv => arg 4; cbv
  refine Sat.call HI rfl (led_cons (led_a (.sl (tk _)) (.sl (tk _))) (led_cons (.same _) led_nil)) ?_
  conv => arg 4; cbv
  refine Sat.call HS rfl (led_cons (led_a (.sl (tk _)) (.sl (tk _))) (led_cons (.same _) led_nil)) ?_
  cases ok <;> (conv => arg 4; cbv)
  all_goals refine Sat.callb (w_impl_EqualAcceptors x x hbp) rfl (led_cons (led_a (.sl (tk _)) (.sl (tk _))) (led_cons (led_a (.sl (tk _)) (.sl (tk _))) led_nil)) (fun h => ?_) (fun h => absurd rfl (of_decide_eq_false h)) <;> (conv => arg 4; cbv)
  all_goals try (refine Sat.cmp (fun h => ?_) (fun h => absurd (HP rfl).1 h); conv => arg 4; cbv)
  all_goals try (refine Sat.cmp (fun h => ?_) (fun h => absurd (HP rfl).2 h); conv => arg 4; cbv)
  all_goals clear HI HS HP h
  all_goals have HV1 := w_impl_IsValidAcceptor a hb
  all_goals have HV2 := w_spec_IsValidAcceptor a hb
  all_goals refine Sat.rel (w_spec_DrawAccept code_ (by omega)) (fun ret outs hR => ?_)
  all_goals obtain ⟨rfl, b, m, v, rfl, hsb, hsv⟩ := hR
  all_goals have hbb : bAcceptor b := smC_b hsb
  all_goals have hbv : bConfig v := smC_b hsv
  all_goals have hbz : bAcceptor (acceptA b m v) := acceptA_b hbb hbv
  all_goals have HI := w_impl_Accept b m v hbb hbv
  all_goals have HS := w_spec_Accept b m v hbb hbv
  all_goals have HZ : acceptOk b m v = true → b.Promised ≤ (acceptA b m v).Promised ∧ (acceptA b m v).Value = v := fun h => by rw [acceptA, if_pos h]; simp only [acceptOk, Bool.and_eq_true, decide_eq_true_eq] at h; exact ⟨h.2, rfl⟩
  all_goals generalize acceptA b m v = z at *
  all_goals generalize acceptOk b m v = ok at *
  all_goals conv => arg 4; cbv
  all_goals refine Sat.call HI rfl (led_cons (led_a (.sl (tk _)) (.sl (tk _))) (led_cons (.same _) (led_cons (led_c (.sl (tk _)) (.sl (tk _))) led_nil))) ?_
  all_goals conv => arg 4; cbv
  all_goals refine Sat.call HS rfl (led_cons (led_a (.sl (tk _)) (.sl (tk _))) (led_cons (.same _) (led_cons (led_c (.sl (tk _)) (.sl (tk _))) led_nil))) ?_
  all_goals cases ok <;> (conv => arg 4; cbv)
  all_goals refine Sat.callb (w_impl_EqualAcceptors z z hbz) rfl (led_cons (led_a (.sl (tk _)) (.sl (tk _))) (led_cons (led_a (.sl (tk _)) (.sl (tk _))) led_nil)) (fun h => ?_) (fun h => absurd rfl (of_decide_eq_false h)) <;> (conv => arg 4; cbv)
  all_goals try (refine Sat.cmp (fun h => ?_) (fun h => absurd (HZ rfl).1 h); conv => arg 4; cbv)
  all_goals try (refine Sat.callb (w_impl_EqualConfigs z.Value v hbz) rfl (led_cons (led_c (.sl (tk _)) (.sl (tk _))) (led_cons (led_c (.sl (tk _)) (.sl (tk _))) led_nil)) (fun h => ?_) (fun h => absurd (HZ rfl).2 (of_decide_eq_false h)); conv => arg 4; cbv)
  all_goals refine Sat.callb HV1 rfl (led_cons (led_a (.sl (tk _)) (.sl (tk _))) led_nil) (fun h1 => ?_) (fun h1 => ?_) <;> (conv => arg 4; cbv)
  all_goals refine Sat.callb HV2 rfl (led_cons (led_a (.sl (tk _)) (.sl (tk _))) led_nil) (fun h2 => ?_) (fun h2 => ?_) <;> (conv => arg 4; cbv)
  all_goals first
    | exact Sat.done (.same _)
    | exact absurd (h1.symm.trans h2) (fun h => Bool.noConfusion h)

end Go.V.T
