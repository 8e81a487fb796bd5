/- Contracts of the functions that FnConfigs reaches: what each returns. Conditions: those that each theorem states. -/
import Derived.Test.YtmimpgleknffgaaWLConfigs
namespace Go.V.T
open Go Go.V Go.RowKit
set_option maxRecDepth 100000
set_option linter.unusedVariables false
set_option linter.unusedSimpArgs false
theorem w_spec_l2Any (code : List Int) (hc : code.length ≤ 1048576) (i h : Int) (hi : 0 ≤ i ∧ i ≤ (code.length : Int)) : FnP Pr n_spec_l2Any [.ptr 0 0] [curA code i h] (Dr code (isL 6)) := by
  refine k_spec_l2Any.fnp (by kernel_rfl) ?_
  conv => arg 4; cbv
  repeat' first
    | (refine Sat.cmp (fun h => ?_) (fun h => ?_) <;> simp only [Cmp.holds] at h <;> (conv => arg 4; cbv))
    | (refine Sat.need ndA ?_; conv => arg 4; cbv)
    | (refine Sat.draw (w_spec_l2Some code hc) (by (try dsimp only); omega) (fun ret i' h' hi' hR => ?_); obtain ⟨l, rfl, hl⟩ := hR; conv => arg 4; cbv)
    | (refine Sat.draw (w_spec_l1Once code hc 8) (by (try dsimp only); omega) (fun ret i' h' hi' hR => ?_); obtain ⟨b, rfl⟩ := hR; cases b <;> (conv => arg 4; cbv))
    | (refine Sat.draw (w_spec_l1PickInt code hc [-1, 0, 4, 5] (by decide) (by decide)) (by (try dsimp only); omega) (fun ret i' h' hi' hR => ?_); obtain ⟨v, rfl⟩ := hR; conv => arg 4; cbv)
    | (refine Sat.idxk (by assumption) ?_; conv => arg 4; cbv) | (refine Sat.idx ndA (fun v_ hv_ => ?_); conv => arg 4; cbv)
    | (refine Sat.ari64 ndA ndA ?_; conv => arg 4; cbv)
    | (refine Sat.pop ?_; conv => arg 4; cbv)
  · exact Sat.done (dr_end (ret := .sl 1 (encI .i64) (fun _ => l)) ⟨_, rfl, by omega⟩ (.sl (by simp)) hi' rfl)
  · refine Sat.need ⟨rfl, fun y hy j hj => ?_, by (try dsimp only); omega⟩ ?_
    · rfl
    conv => arg 4; cbv
    refine Sat.same ?_
    conv => arg 4; cbv
    exact Sat.done (dr_end (ret := .sl 1 (encI .i64) (fun _ => l ++ [v])) ⟨_, rfl, by simp; omega⟩ (.sl (by simp)) hi' rfl)

theorem w_laws_big (code : List Int) (hb : code.length * 1 ≤ 140737488351232) : Fn Pr n_laws_big [.sl 1 (encI .u8) (fun _ => code)] (.bo (decide ((1048576 : Int) < code.length))) := by
  refine k_laws_big.fn (by kernel_rfl) ?_
  conv => arg 4; cbv
  repeat' first
    | (refine Sat.cmp (fun h => ?_) (fun h => ?_) <;> simp only [Cmp.holds] at h <;> (conv => arg 4; cbv))
    | (refine Sat.need ndA ?_; conv => arg 4; cbv)
    | (refine Sat.idxk (by assumption) ?_; conv => arg 4; cbv) | (refine Sat.idx ndA (fun v_ hv_ => ?_); conv => arg 4; cbv)
    | (refine Sat.ari64 ndA ndA ?_; conv => arg 4; cbv)
    | (refine Sat.pop ?_; conv => arg 4; cbv)
    | refine Sat.done ?_
  all_goals refine led_bo ?_
  all_goals (simp only [ncast] at *; simp; omega)

theorem w_laws_sameInts (a b : List Int) (hb : bIntS a) : Fn Pr n_laws_sameInts [.sl 1 (encI .i64) (fun _ => a), .sl 1 (encI .i64) (fun _ => b)] (.bo (decide (a = b))) := by
  refine k_laws_sameInts.fn (by kernel_rfl) ?_
  have h0 : a.length * 8 ≤ 140737488351232 := hb
  conv => arg 4; cbv
  refine Sat.cmp (fun hl => ?_) (fun hl => ?_) <;> simp only [Cmp.holds] at hl <;> (conv => arg 4; cbv)
  · refine Sat.loopP (ι := Nat) (fun i => [(5, .int .i64 (fun _ => (i : Int)))]) (fun i => []) (fun i => i ≤ a.length ∧ a.take i = b.take i) (fun i => a.length - i) 0 ?_ ⟨by omega, by simp⟩ (fun i hi => ?_)
    · exact lesA
    conv => arg 4; cbv
    repeat' first
      | (refine Sat.cmp (fun h => ?_) (fun h => ?_) <;> simp only [Cmp.holds] at h <;> (conv => arg 4; cbv))
      | (refine Sat.need ndA ?_; conv => arg 4; cbv)
      | (refine Sat.idxk (by assumption) ?_; conv => arg 4; cbv) | (refine Sat.idx ndA (fun v_ hv_ => ?_); conv => arg 4; cbv)
      | (refine Sat.ari64 ndA ndA ?_; conv => arg 4; cbv)
      | (refine Sat.pop ?_; conv => arg 4; cbv)
      | refine Sat.next (i + 1) ?_ ?_ (by (try dsimp only); exact arA)
      | refine Sat.done (led_bo (Eq.symm (decide_eq_false (ne_of_get (by assumption) (by assumption) (fun e => by subst e; first | contradiction | (simp_all; done))))))
      | refine Sat.done ?_
    · exact lesA
    · exact ⟨by exact arA, take_ext (by assumption) (by assumption) hi.2 (by assumption)⟩
    · refine led_bo ?_
      have e1 : i = a.length := by exact arA
      have e2 : a.length = b.length := by exact arA
      have := hi.2
      rw [e1, List.take_length, e2, List.take_length] at this
      simp [this]
  · refine Sat.done (led_bo ?_)
    exact (decide_eq_false (fun e => hl (by rw [e]))).symm

def isC : AV → Prop := fun r => ∃ c : GConfig, r = aGConfig c ∧ c.Replicas.length ≤ 6 ∧ c.Witnesses.length ≤ 6
theorem tk {α : Type} (l : List α) : (l.drop 0).take l.length = l := by simp
theorem led_c {e p : Int} {x y : AV} {a b : List Int} (hx : LeD x (.sl 1 (encI .i64) (fun _ => a))) (hy : LeD y (.sl 1 (encI .i64) (fun _ => b))) : LeD (.agg [.int .i64 (fun _ => e), .int .i64 (fun _ => p), x, y]) (aGConfig ⟨e, p, a, b⟩) := .agg rfl (led_cons (.same _) (led_cons (.same _) (led_cons hx (led_cons hy led_nil))))
theorem w_spec_l8Config (code : List Int) (hc : code.length ≤ 1048576) (e : Int) (i h : Int) (hi : 0 ≤ i ∧ i ≤ (code.length : Int)) : FnP Pr n_spec_l8Config [.ptr 0 0, .int .i64 (fun _ => e)] [curA code i h] (Dr code isC) := by
  refine k_spec_l8Config.fnp (by kernel_rfl) ?_
  conv => arg 4; cbv
  refine Sat.draw (w_spec_l1Below code hc _) hi (fun ret ia ha hia hR => ?_)
  obtain ⟨p, rfl, p0, p1⟩ := hR
  conv => arg 4; cbv
  have hp1 : [p].length ≤ 6 := by simp
  have hn0 : ([] : List Int).length ≤ 6 := by simp
  refine Sat.may (fun _ => ?_) ?_ <;> (conv => arg 4; cbv)
  all_goals refine Sat.draw (w_spec_l2Some code hc) hia (fun ret ib hb hib hR => ?_)
  all_goals obtain ⟨l, rfl, hl⟩ := hR
  all_goals conv => arg 4; cbv
  all_goals refine Sat.call (w_spec_l2Put l p (by omega)) rfl ledA ?_
  all_goals have hput := put_len (x := p) (l := l)
  all_goals have hR6 : (put p l).length ≤ 6 := by omega
  all_goals generalize put p l = R at *
  all_goals conv => arg 4; cbv
  all_goals refine Sat.cmp (fun hg => ?_) (fun hg => ?_) <;> (conv => arg 4; cbv)
  all_goals refine Sat.draw (w_spec_l1Once code hc 2) hib (fun ret ic hd hic hR => ?_)
  all_goals obtain ⟨b, rfl⟩ := hR
  all_goals cases b <;> (conv => arg 4; cbv)
  all_goals try refine Sat.may (fun _ => ?_) ?_ <;> (conv => arg 4; cbv)
  all_goals try (refine Sat.draw (w_spec_l2Some code hc) hic (fun ret ij hj hij hR => ?_); obtain ⟨w, rfl, hw⟩ := hR; conv => arg 4; cbv)
  all_goals first
    | (refine Sat.call (w_spec_WithoutServers w R (by omega) (by unfold bIntS; omega)) rfl ledA ?_
       have hwl := without_len (a := w) (b := R)
       have hU1 : ((without w R).take 1).length ≤ 6 := by rw [List.length_take]; omega
       generalize without w R = U at *
       conv => arg 4; cbv)
    | (refine Sat.call (w_spec_WithoutServers w [p] (by omega) (by unfold bIntS; simp)) rfl ledA ?_
       have hwl := without_len (a := w) (b := [p])
       have hU1 : ((without w [p]).take 1).length ≤ 6 := by rw [List.length_take]; omega
       generalize without w [p] = U at *
       conv => arg 4; cbv)
    | skip
  all_goals repeat' first
    | (refine Sat.cmp (fun h => ?_) (fun h => ?_) <;> simp only [Cmp.holds] at h <;> (conv => arg 4; cbv))
    | (refine Sat.need ndA ?_; conv => arg 4; cbv)
  all_goals first
    | exact Sat.done (dr_end (ret := aGConfig ⟨e, p, R, U.take 1⟩) ⟨_, rfl, hR6, hU1⟩ (led_c (.sl (tk R)) (.sl rfl)) hij rfl)
    | exact Sat.done (dr_end (ret := aGConfig ⟨e, p, [p], U.take 1⟩) ⟨_, rfl, hp1, hU1⟩ (led_c (.sl rfl) (.sl rfl)) hij rfl)
    | exact Sat.done (dr_end (ret := aGConfig ⟨e, p, R, []⟩) ⟨_, rfl, hR6, hn0⟩ (led_c (.sl (tk R)) (.nil rfl)) hic rfl)
    | exact Sat.done (dr_end (ret := aGConfig ⟨e, p, [p], []⟩) ⟨_, rfl, hp1, hn0⟩ (led_c (.sl rfl) (.nil rfl)) hic rfl)
    | exact Sat.done (dr_end (ret := aGConfig ⟨e, p, R, []⟩) ⟨_, rfl, hR6, hn0⟩ (led_c (.sl (tk R)) (.nil rfl)) hij rfl)
    | exact Sat.done (dr_end (ret := aGConfig ⟨e, p, [p], []⟩) ⟨_, rfl, hp1, hn0⟩ (led_c (.sl rfl) (.nil rfl)) hij rfl)
    | trace_state

theorem w_spec_l8Any (code : List Int) (hc : code.length ≤ 1048576) (i h : Int) (hi : 0 ≤ i ∧ i ≤ (code.length : Int)) : FnP Pr n_spec_l8Any [.ptr 0 0] [curA code i h] (Dr code isC) := by
  refine k_spec_l8Any.fnp (by kernel_rfl) ?_
  conv => arg 4; cbv
  refine Sat.draw (w_spec_l1Below code hc _) hi (fun ret ia ha hia hR => ?_)
  obtain ⟨p, rfl, p0, p1⟩ := hR
  conv => arg 4; cbv
  (refine Sat.ari64 ndA ndA ?_; conv => arg 4; cbv)
  refine Sat.draw (w_spec_l8Config code hc _) hia (fun ret ib hb hib hR => ?_)
  obtain ⟨c, rfl, c1, c2⟩ := hR
  conv => arg 4; cbv
  refine Sat.draw (w_spec_l1Below code hc _) hib (fun ret ic hd hic hR => ?_)
  obtain ⟨q, rfl, q0, q1⟩ := hR
  conv => arg 4; cbv
  repeat' first
    | (refine Sat.cmp (fun h => ?_) (fun h => ?_) <;> simp only [Cmp.holds] at h <;> (conv => arg 4; cbv))
    | (refine Sat.ari64 ndA ndA ?_; conv => arg 4; cbv)
    | (refine Sat.draw (w_spec_l1PickInt code hc [0, 20, 21] (by decide) (by decide)) hic (fun ret ij hj hij hR => ?_); obtain ⟨u, rfl⟩ := hR; conv => arg 4; cbv)
    | (refine Sat.draw (w_spec_l1Below code hc 7) hic (fun ret ij hj hij hR => ?_); obtain ⟨u, rfl, u0, u1⟩ := hR; conv => arg 4; cbv)
    | (refine Sat.draw (w_spec_l2Any code hc) hic (fun ret ij hj hij hR => ?_); obtain ⟨w, rfl, hw⟩ := hR; conv => arg 4; cbv)
  all_goals first
    | exact Sat.done (dr_end (ret := aGConfig { c with Epoch := u }) ⟨_, rfl, c1, c2⟩ (led_c (.sl (tk _)) (.sl (tk _))) hij rfl)
    | exact Sat.done (dr_end (ret := aGConfig { c with Primary := u - 1 }) ⟨_, rfl, c1, c2⟩ (led_c (.sl (tk _)) (.sl (tk _))) hij rfl)
    | exact Sat.done (dr_end (ret := aGConfig { c with Replicas := w }) ⟨_, rfl, hw, c2⟩ (led_c (.sl (tk _)) (.sl (tk _))) hij rfl)
    | exact Sat.done (dr_end (ret := aGConfig { c with Witnesses := w }) ⟨_, rfl, c1, hw⟩ (led_c (.sl (tk _)) (.sl (tk _))) hij rfl)
    | exact Sat.done (dr_end (ret := aGConfig c) ⟨_, rfl, c1, c2⟩ (led_c (.sl (tk _)) (.sl (tk _))) hic rfl)
    | trace_state

theorem w_spec_DrawRoleOf (code : List Int) (hc : code.length ≤ 1048576) : FnP Pr n_spec_DrawRoleOf [.sl 1 (encI .u8) (fun _ => code)] [] (fun ret outs => outs = [] ∧ ∃ (c : GConfig) (n : Int), ret = .tup [aGConfig c, .int .i64 (fun _ => n)] ∧ c.Replicas.length ≤ 6 ∧ c.Witnesses.length ≤ 6 ∧ -1 ≤ n ∧ n ≤ 5) := by
  refine k_spec_DrawRoleOf.fnq (by kernel_rfl) ?_
  conv => arg 4; cbv
  refine Sat.newv (w_spec_l1New code hc) (fun cs hcs => ?_)
  obtain ⟨i, h, hi, rfl⟩ := hcs
  conv => arg 4; cbv
  refine Sat.draw (w_spec_l8Any code hc) hi (fun ret ia ha hia hR => ?_)
  obtain ⟨c, rfl, c1, c2⟩ := hR
  conv => arg 4; cbv
  refine Sat.draw (w_spec_l1Below code hc _) hia (fun ret ib hb hib hR => ?_)
  obtain ⟨n, rfl, n0, n1⟩ := hR
  conv => arg 4; cbv
  (refine Sat.ari64 ndA ndA ?_; conv => arg 4; cbv)
  exact Sat.done ⟨.tup [aGConfig c, .int .i64 (fun _ => n - 1)], ⟨rfl, c, n - 1, rfl, c1, c2, by omega, by omega⟩, .tup rfl (led_cons (led_c (.sl (by simp)) (.sl (by simp))) (led_cons (.same _) led_nil))⟩

theorem w_laws_has (l : List Int) (x : Int) (hb : bIntS l) : Fn Pr n_laws_has [.sl 1 (encI .i64) (fun _ => l), .int .i64 (fun _ => x)] (.bo (decide (x ∈ l))) := by
  refine k_laws_has.fn (by kernel_rfl) ?_
  have h0 : l.length * 8 ≤ 140737488351232 := hb
  conv => arg 4; cbv
  refine Sat.loopP (ι := Nat) (fun i => [(5, .int .i64 (fun _ => (i : Int)))]) (fun i => []) (fun i => i ≤ l.length ∧ x ∉ l.take i) (fun i => l.length - i) 0 ?_ ⟨by omega, by simp⟩ (fun i hi => ?_)
  · exact lesA
  conv => arg 4; cbv
  repeat' first
    | (refine Sat.cmp (fun h => ?_) (fun h => ?_) <;> simp only [Cmp.holds] at h <;> (conv => arg 4; cbv))
    | (refine Sat.need ndA ?_; conv => arg 4; cbv)
    | (refine Sat.idxk (by assumption) ?_; conv => arg 4; cbv) | (refine Sat.idx ndA (fun v_ hv_ => ?_); conv => arg 4; cbv)
    | (refine Sat.ari64 ndA ndA ?_; conv => arg 4; cbv)
    | (refine Sat.pop ?_; conv => arg 4; cbv)
    | refine Sat.done (led_bo ?_)
    | refine Sat.next (i + 1) ?_ ?_ (by (try dsimp only); exact arA)
  · rw [decide_eq_true (by rw [← show v_ = x from h]; exact List.mem_of_getElem? hv_)]
  · exact lesA
  · refine ⟨by exact arA, fun hx => ?_⟩
    rw [List.take_add_one, show l[i]? = some v_ from hv_, List.mem_append] at hx
    rcases hx with hx | hx
    · exact hi.2 hx
    · simp only [Option.toList_some, List.mem_singleton] at hx
      exact h hx.symm
  · have e : i = l.length := by exact arA
    have h2 := hi.2
    rw [e, List.take_length] at h2
    exact (decide_eq_false h2).symm

theorem members_role {c : GConfig} {i : Int} : i ∈ members c ↔ roleOf c i ≠ 0 := by
  unfold members roleOf
  split
  · rename_i h
    obtain ⟨h1, h2, h3, h4, h5⟩ := validC_spec h
    rw [unite, asc_mem, List.mem_append]
    by_cases e1 : i = c.Primary
    · subst e1
      simp [h4]
    · rw [if_neg e1]
      by_cases e2 : i ∈ c.Replicas
      · simp [e2]
      · rw [if_neg e2]
        by_cases e3 : i ∈ c.Witnesses
        · simp [e3]
        · simp [e2, e3]
  · simp
theorem primary_role {c : GConfig} (h : validC c = true) : roleOf c c.Primary = 1 := by
  unfold roleOf
  rw [if_pos h, if_pos rfl]

set_option maxHeartbeats 4000000 in
theorem w_laws_FnConfigs (code_ : List Int) {G : Prop} (F : (code_.length ≤ maxLen ∧ code_.length * 1 ≤ 140737488351232 ∧ ∀ x ∈ code_, (Lit.int .u8 x).wf = true) ∧ G) : Fn Pr n_laws_FnConfigs [.sl 1 (encI .u8) (fun _ => code_)] (.bo true) := by
  by_cases hc : (1048576 : Int) < code_.length
  · have hB := w_laws_big code_ F.1.2.1
    rw [decide_eq_true hc] at hB
    refine k_laws_FnConfigs.fn (by kernel_rfl) ?_
    conv => arg 4; cbv
    refine Sat.call hB rfl ledA ?_
    conv => arg 4; cbv
    exact Sat.done (.same _)
  have hB := w_laws_big code_ F.1.2.1
  rw [decide_eq_false hc] at hB
  refine k_laws_FnConfigs.fn (by kernel_rfl) ?_
  conv => arg 4; cbv
  refine Sat.call hB rfl ledA ?_
  conv => arg 4; cbv
  refine Sat.rel (w_spec_DrawRoleOf code_ (by omega)) (fun ret outs hR => ?_)
  obtain ⟨rfl, c, n, rfl, hc1, hc2, hn0, hn1⟩ := hR
  have hb : bConfig c := ⟨by unfold bIntS; omega, by unfold bIntS; omega⟩
  have hm := members_role (c := c) (i := n)
  have hp := primary_role (c := c)
  have hml : (members c).length ≤ 12 := by
    unfold members
    split
    · have := asc_len (c.Replicas ++ c.Witnesses)
      rw [List.length_append] at this
      unfold unite
      omega
    · simp
  have hmb : bIntS (members c) := by unfold bIntS; omega
  conv => arg 4; cbv
  repeat' first
    | (refine Sat.cmp (fun h => ?_) (fun h => ?_) <;> simp only [Cmp.holds] at h <;> (conv => arg 4; cbv))
    | (refine Sat.call (w_impl_RoleOf c n hb) rfl ledA ?_; conv => arg 4; cbv)
    | (refine Sat.call (w_spec_RoleOf c n hb) rfl ledA ?_; conv => arg 4; cbv)
    | (refine Sat.call (w_impl_MembersOf c hb) rfl ledA ?_; conv => arg 4; cbv)
    | (refine Sat.call (w_spec_MembersOf c hb) rfl ledA ?_; conv => arg 4; cbv)
    | (refine Sat.callb (w_impl_IsValidConfig c hb) rfl ledA (fun h => ?_) (fun h => ?_) <;> (conv => arg 4; cbv))
    | (refine Sat.callb (w_spec_IsValidConfig c hb) rfl ledA (fun h => ?_) (fun h => ?_) <;> (conv => arg 4; cbv))
    | (refine Sat.callb (w_laws_sameInts (members c) (members c) hmb) rfl ledA (fun h => ?_) (fun h => ?_) <;> (conv => arg 4; cbv))
    | (refine Sat.callb (w_laws_has (members c) n hmb) rfl ledA (fun h => ?_) (fun h => ?_) <;> (conv => arg 4; cbv))
    | (refine Sat.test (fun h => ?_) (fun h => ?_) <;> (conv => arg 4; cbv))
    | (exfalso; rw [decide_eq_false_iff_not] at h; exact h rfl)
    | (exfalso; exact h trivial)
    | (refine Sat.call (w_impl_RoleName _) rfl ledA ?_; conv => arg 4; cbv)
    | (refine Sat.call (w_spec_RoleName _) rfl ledA ?_; conv => arg 4; cbv)
    | (refine Sat.call (w_impl_RoleOf c c.Primary hb) rfl ledA ?_; conv => arg 4; cbv)
  all_goals clear hB F
  all_goals first
    | exact Sat.done (.same _)
    | (exfalso; simp_all; done)

end Go.V.T
