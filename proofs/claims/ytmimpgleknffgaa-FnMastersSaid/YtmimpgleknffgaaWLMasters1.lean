/- Contracts of the functions that FnMasters reaches: what each returns. Conditions: those that each theorem states. -/
import Derived.Test.YtmimpgleknffgaaWLMasters
namespace Go.V.T
open Go Go.V Go.RowKit
set_option maxRecDepth 100000
set_option linter.unusedVariables false
set_option linter.unusedSimpArgs false
theorem w_impl_ActivateConfig (m : GMasterLog) (e : Int) (hb : bMasterLog m) (hn : m.Configs.length ≤ 2000000) : Fn Pr n_impl_ActivateConfig [aGMasterLog m, .int .i64 (fun _ => e)] (.tup [aGMasterLog (actM m e), .bo (actOk m e)]) := by
  cases hv : actOk m e
  · rw [actM, if_neg (by simp [hv])]
    refine k_impl_ActivateConfig.fn (by kernel_rfl) ?_
    conv => arg 4; cbv
    repeat' first
      | (refine Sat.cmp (fun h => ?_) (fun h => ?_) <;> simp only [Cmp.holds] at h <;> (conv => arg 4; cbv))
      | (refine Sat.call (w_impl_masterCopy m hb hn) rfl ledA ?_; conv => arg 4; cbv)
      | (refine Sat.callb (w_impl_IsMasterLog m hb) rfl ledA (fun h => ?_) (fun h => ?_) <;> (try simp only [decide_eq_true_eq, decide_eq_false_iff_not] at h) <;> (conv => arg 4; cbv))
      | (refine Sat.need ndA ?_; conv => arg 4; cbv)
      | (refine Sat.idxk (by assumption) ?_; conv => arg 4; cbv) | (refine Sat.idx ndA (fun v_ hv_ => ?_); conv => arg 4; cbv)
      | (refine Sat.ari64 ndA ndA ?_; conv => arg 4; cbv)
      | (refine Sat.pop ?_; conv => arg 4; cbv)
      | refine Sat.done ?_
    all_goals first | exact ledA | (exfalso; (try simp only [ncast] at *); simp_all [actOk]; done) | (exfalso; (try simp only [ncast] at *); simp_all [actOk]; omega)
  · rw [actM, if_pos hv]
    refine k_impl_ActivateConfig.fn (by kernel_rfl) ?_
    conv => arg 4; cbv
    repeat' first
      | (refine Sat.cmp (fun h => ?_) (fun h => ?_) <;> simp only [Cmp.holds] at h <;> (conv => arg 4; cbv))
      | (refine Sat.call (w_impl_masterCopy m hb hn) rfl ledA ?_; conv => arg 4; cbv)
      | (refine Sat.callb (w_impl_IsMasterLog m hb) rfl ledA (fun h => ?_) (fun h => ?_) <;> (try simp only [decide_eq_true_eq, decide_eq_false_iff_not] at h) <;> (conv => arg 4; cbv))
      | (refine Sat.need ndA ?_; conv => arg 4; cbv)
      | (refine Sat.idxk (by assumption) ?_; conv => arg 4; cbv) | (refine Sat.idx ndA (fun v_ hv_ => ?_); conv => arg 4; cbv)
      | (refine Sat.ari64 ndA ndA ?_; conv => arg 4; cbv)
      | (refine Sat.pop ?_; conv => arg 4; cbv)
      | refine Sat.done ?_
    all_goals first | exact ledA | (exfalso; (try simp only [ncast] at *); simp_all [actOk]; done) | (exfalso; (try simp only [ncast] at *); simp_all [actOk]; omega)

theorem w_spec_ActivateConfig (m : GMasterLog) (e : Int) (hb : bMasterLog m) (hn : m.Configs.length ≤ 2000000) : Fn Pr n_spec_ActivateConfig [aGMasterLog m, .int .i64 (fun _ => e)] (.tup [aGMasterLog (actM m e), .bo (actOk m e)]) := by
  cases hv : actOk m e
  · rw [actM, if_neg (by simp [hv])]
    refine k_spec_ActivateConfig.fn (by kernel_rfl) ?_
    conv => arg 4; cbv
    repeat' first
      | (refine Sat.cmp (fun h => ?_) (fun h => ?_) <;> simp only [Cmp.holds] at h <;> (conv => arg 4; cbv))
      | (refine Sat.call (w_spec_l12Copy m hb hn) rfl ledA ?_; conv => arg 4; cbv)
      | (refine Sat.callb (w_spec_IsMasterLog m hb) rfl ledA (fun h => ?_) (fun h => ?_) <;> (try simp only [decide_eq_true_eq, decide_eq_false_iff_not] at h) <;> (conv => arg 4; cbv))
      | (refine Sat.need ndA ?_; conv => arg 4; cbv)
      | (refine Sat.idxk (by assumption) ?_; conv => arg 4; cbv) | (refine Sat.idx ndA (fun v_ hv_ => ?_); conv => arg 4; cbv)
      | (refine Sat.ari64 ndA ndA ?_; conv => arg 4; cbv)
      | (refine Sat.pop ?_; conv => arg 4; cbv)
      | refine Sat.done ?_
    all_goals first | exact ledA | (exfalso; (try simp only [ncast] at *); simp_all [actOk]; done) | (exfalso; (try simp only [ncast] at *); simp_all [actOk]; omega)
  · rw [actM, if_pos hv]
    refine k_spec_ActivateConfig.fn (by kernel_rfl) ?_
    conv => arg 4; cbv
    repeat' first
      | (refine Sat.cmp (fun h => ?_) (fun h => ?_) <;> simp only [Cmp.holds] at h <;> (conv => arg 4; cbv))
      | (refine Sat.call (w_spec_l12Copy m hb hn) rfl ledA ?_; conv => arg 4; cbv)
      | (refine Sat.callb (w_spec_IsMasterLog m hb) rfl ledA (fun h => ?_) (fun h => ?_) <;> (try simp only [decide_eq_true_eq, decide_eq_false_iff_not] at h) <;> (conv => arg 4; cbv))
      | (refine Sat.need ndA ?_; conv => arg 4; cbv)
      | (refine Sat.idxk (by assumption) ?_; conv => arg 4; cbv) | (refine Sat.idx ndA (fun v_ hv_ => ?_); conv => arg 4; cbv)
      | (refine Sat.ari64 ndA ndA ?_; conv => arg 4; cbv)
      | (refine Sat.pop ?_; conv => arg 4; cbv)
      | refine Sat.done ?_
    all_goals first | exact ledA | (exfalso; (try simp only [ncast] at *); simp_all [actOk]; done) | (exfalso; (try simp only [ncast] at *); simp_all [actOk]; omega)

theorem w_impl_ProposeConfig (m : GMasterLog) (c : GConfig) (hb : bMasterLog m) (hc : bConfig c) (hn : m.Configs.length ≤ 2000000) : Fn Pr n_impl_ProposeConfig [aGMasterLog m, aGConfig c] (.tup [aGMasterLog (propM m c), .bo (propOk m c)]) := by
  cases hv : propOk m c
  · rw [propM, if_neg (by simp [hv])]
    refine k_impl_ProposeConfig.fn (by kernel_rfl) ?_
    conv => arg 4; cbv
    repeat' first
      | (refine Sat.cmp (fun h => ?_) (fun h => ?_) <;> simp only [Cmp.holds] at h <;> (conv => arg 4; cbv))
      | (refine Sat.call (w_impl_masterCopy m hb hn) rfl ledA ?_; conv => arg 4; cbv)
      | (refine Sat.callb (w_impl_IsMasterLog m hb) rfl ledA (fun h => ?_) (fun h => ?_) <;> (try simp only [decide_eq_true_eq, decide_eq_false_iff_not] at h) <;> (conv => arg 4; cbv))
      | (refine Sat.callb (w_impl_IsValidConfig c hc) rfl ledA (fun h => ?_) (fun h => ?_) <;> (try simp only [decide_eq_true_eq, decide_eq_false_iff_not] at h) <;> (conv => arg 4; cbv))
      | (refine Sat.call (w_impl_configCopy c hc) rfl ledA ?_; conv => arg 4; cbv)
      | (exfalso; (try simp only [ncast] at *); simp_all [propOk]; done)
      | (refine Sat.need ndA ?_; conv => arg 4; cbv)
      | (refine Sat.idxk (by assumption) ?_; conv => arg 4; cbv) | (refine Sat.idx ndA (fun v_ hv_ => ?_); conv => arg 4; cbv)
      | (refine Sat.ari64 ndA ndA ?_; conv => arg 4; cbv)
      | (refine Sat.pop ?_; conv => arg 4; cbv)
      | refine Sat.done ?_
    all_goals first | exact ledA | (exfalso; (try simp only [ncast] at *); simp_all [propOk]; done) | (exfalso; (try simp only [ncast] at *); simp_all [propOk]; omega)
  · rw [propM, if_pos hv]
    refine k_impl_ProposeConfig.fn (by kernel_rfl) ?_
    conv => arg 4; cbv
    repeat' first
      | (refine Sat.cmp (fun h => ?_) (fun h => ?_) <;> simp only [Cmp.holds] at h <;> (conv => arg 4; cbv))
      | (refine Sat.call (w_impl_masterCopy m hb hn) rfl ledA ?_; conv => arg 4; cbv)
      | (refine Sat.callb (w_impl_IsMasterLog m hb) rfl ledA (fun h => ?_) (fun h => ?_) <;> (try simp only [decide_eq_true_eq, decide_eq_false_iff_not] at h) <;> (conv => arg 4; cbv))
      | (refine Sat.callb (w_impl_IsValidConfig c hc) rfl ledA (fun h => ?_) (fun h => ?_) <;> (try simp only [decide_eq_true_eq, decide_eq_false_iff_not] at h) <;> (conv => arg 4; cbv))
      | (refine Sat.call (w_impl_configCopy c hc) rfl ledA ?_; conv => arg 4; cbv)
      | (refine Sat.need ⟨rfl, rfl, rfl, by exact arA⟩ ?_; conv => arg 4; cbv)
      | (refine Sat.typed c tcA ?_; conv => arg 4; cbv)
      | (refine Sat.need ndA ?_; conv => arg 4; cbv)
      | (refine Sat.idxk (by assumption) ?_; conv => arg 4; cbv) | (refine Sat.idx ndA (fun v_ hv_ => ?_); conv => arg 4; cbv)
      | (refine Sat.ari64 ndA ndA ?_; conv => arg 4; cbv)
      | (refine Sat.pop ?_; conv => arg 4; cbv)
      | refine Sat.done ?_
    all_goals first | exact ledA | (exfalso; (try simp only [ncast] at *); simp_all [propOk]; done) | (exfalso; (try simp only [ncast] at *); simp_all [propOk]; omega)

theorem w_spec_ProposeConfig (m : GMasterLog) (c : GConfig) (hb : bMasterLog m) (hc : bConfig c) (hn : m.Configs.length ≤ 2000000) : Fn Pr n_spec_ProposeConfig [aGMasterLog m, aGConfig c] (.tup [aGMasterLog (propM m c), .bo (propOk m c)]) := by
  cases hv : propOk m c
  · rw [propM, if_neg (by simp [hv])]
    refine k_spec_ProposeConfig.fn (by kernel_rfl) ?_
    conv => arg 4; cbv
    repeat' first
      | (refine Sat.cmp (fun h => ?_) (fun h => ?_) <;> simp only [Cmp.holds] at h <;> (conv => arg 4; cbv))
      | (refine Sat.call (w_spec_l12Copy m hb hn) rfl ledA ?_; conv => arg 4; cbv)
      | (refine Sat.callb (w_spec_IsMasterLog m hb) rfl ledA (fun h => ?_) (fun h => ?_) <;> (try simp only [decide_eq_true_eq, decide_eq_false_iff_not] at h) <;> (conv => arg 4; cbv))
      | (refine Sat.callb (w_spec_IsValidConfig c hc) rfl ledA (fun h => ?_) (fun h => ?_) <;> (try simp only [decide_eq_true_eq, decide_eq_false_iff_not] at h) <;> (conv => arg 4; cbv))
      | (refine Sat.call (w_spec_l8Copy c hc) rfl ledA ?_; conv => arg 4; cbv)
      | (exfalso; (try simp only [ncast] at *); simp_all [propOk]; done)
      | (refine Sat.need ndA ?_; conv => arg 4; cbv)
      | (refine Sat.idxk (by assumption) ?_; conv => arg 4; cbv) | (refine Sat.idx ndA (fun v_ hv_ => ?_); conv => arg 4; cbv)
      | (refine Sat.ari64 ndA ndA ?_; conv => arg 4; cbv)
      | (refine Sat.pop ?_; conv => arg 4; cbv)
      | refine Sat.done ?_
    all_goals first | exact ledA | (exfalso; (try simp only [ncast] at *); simp_all [propOk]; done) | (exfalso; (try simp only [ncast] at *); simp_all [propOk]; omega)
  · rw [propM, if_pos hv]
    refine k_spec_ProposeConfig.fn (by kernel_rfl) ?_
    conv => arg 4; cbv
    repeat' first
      | (refine Sat.cmp (fun h => ?_) (fun h => ?_) <;> simp only [Cmp.holds] at h <;> (conv => arg 4; cbv))
      | (refine Sat.call (w_spec_l12Copy m hb hn) rfl ledA ?_; conv => arg 4; cbv)
      | (refine Sat.callb (w_spec_IsMasterLog m hb) rfl ledA (fun h => ?_) (fun h => ?_) <;> (try simp only [decide_eq_true_eq, decide_eq_false_iff_not] at h) <;> (conv => arg 4; cbv))
      | (refine Sat.callb (w_spec_IsValidConfig c hc) rfl ledA (fun h => ?_) (fun h => ?_) <;> (try simp only [decide_eq_true_eq, decide_eq_false_iff_not] at h) <;> (conv => arg 4; cbv))
      | (refine Sat.call (w_spec_l8Copy c hc) rfl ledA ?_; conv => arg 4; cbv)
      | (refine Sat.need ⟨rfl, rfl, rfl, by exact arA⟩ ?_; conv => arg 4; cbv)
      | (refine Sat.typed c tcA ?_; conv => arg 4; cbv)
      | (refine Sat.need ndA ?_; conv => arg 4; cbv)
      | (refine Sat.idxk (by assumption) ?_; conv => arg 4; cbv) | (refine Sat.idx ndA (fun v_ hv_ => ?_); conv => arg 4; cbv)
      | (refine Sat.ari64 ndA ndA ?_; conv => arg 4; cbv)
      | (refine Sat.pop ?_; conv => arg 4; cbv)
      | refine Sat.done ?_
    all_goals first | exact ledA | (exfalso; (try simp only [ncast] at *); simp_all [propOk]; done) | (exfalso; (try simp only [ncast] at *); simp_all [propOk]; omega)

theorem w_spec_l1New (code : List Int) (hc : code.length ≤ 1048576) : FnN Pr n_spec_l1New [.sl 1 (encI .u8) (fun _ => code)] (fun cs => ∃ i h : Int, (0 ≤ i ∧ i ≤ (code.length : Int)) ∧ cs = curA code i h) := by
  refine k_spec_l1New.fnn (by kernel_rfl) ?_
  conv => arg 4; cbv
  repeat' first
    | (refine Sat.ari64 ndA ndA ?_; conv => arg 4; cbv)
    | (refine Sat.cmp (fun h => ?_) (fun h => ?_) <;> simp only [Cmp.holds] at h <;> (conv => arg 4; cbv))
  refine Sat.loopP (ι := Nat × Int) (fun p => [(3, .int .i64 (fun _ => p.2)), (4, .int .i64 (fun _ => (p.1 : Int)))]) (fun p => []) (fun p => p.1 ≤ code.length) (fun p => code.length - p.1) (0, 10101 + (code.length : Int)) ?_ (by simp) (fun p hp => ?_)
  · exact lesA
  conv => arg 4; cbv
  repeat' first
    | (refine Sat.cmp (fun h => ?_) (fun h => ?_) <;> simp only [Cmp.holds] at h <;> (conv => arg 4; cbv))
    | (refine Sat.need ndA ?_; conv => arg 4; cbv)
    | (refine Sat.idxk (by assumption) ?_; conv => arg 4; cbv) | (refine Sat.idx ndA (fun v_ hv_ => ?_); conv => arg 4; cbv)
    | (refine Sat.ari64 ndA ndA ?_; conv => arg 4; cbv)
    | (refine Sat.pop ?_; conv => arg 4; cbv)
    | (refine Sat.ariw ?_; conv => arg 4; cbv)
  · generalize bitI BinOp.and IntKind.i64 _ _ = z
    refine Sat.next (p.1 + 1, z) ?_ (by exact arA) (by exact arA)
    exact lesA
  all_goals exact Sat.done ⟨curA code 0 p.2, ⟨0, p.2, ⟨by omega, by omega⟩, rfl⟩, .same _⟩

def isInt (lo hi : Int) : AV → Prop := fun r => ∃ v : Int, r = .int .i64 (fun _ => v) ∧ lo ≤ v ∧ v ≤ hi
theorem w_spec_l1Byte (code : List Int) (hc : code.length ≤ 1048576) (i h : Int) (hi : 0 ≤ i ∧ i ≤ (code.length : Int)) : FnP Pr n_spec_l1Byte [.ptr 0 0] [curA code i h] (Dr code (isInt 0 255)) := by
  refine k_spec_l1Byte.fnp (by kernel_rfl) ?_
  conv => arg 4; cbv
  repeat' first
    | (refine Sat.cmp (fun h => ?_) (fun h => ?_) <;> simp only [Cmp.holds] at h <;> (conv => arg 4; cbv))
    | (refine Sat.need ndA ?_; conv => arg 4; cbv)
    | (refine Sat.idxk (by assumption) ?_; conv => arg 4; cbv) | (refine Sat.idx ndA (fun v_ hv_ => ?_); conv => arg 4; cbv)
    | (refine Sat.ari64 ndA ndA ?_; conv => arg 4; cbv)
    | (refine Sat.pop ?_; conv => arg 4; cbv)
    | (refine Sat.ariw ?_; conv => arg 4; cbv)
  all_goals generalize hz : bitI BinOp.and IntKind.i64 _ _ = z
  all_goals have hb : 0 ≤ z ∧ z ≤ 255 := by rw [← hz]; exact and_le (m := 255) (by omega)
  · have hi2 : 0 ≤ i + 1 ∧ i + 1 ≤ (code.length : Int) := ⟨by omega, by (simp only [ncast] at *; omega)⟩
    exact Sat.done (dr_end (ret := .int .i64 (fun _ => z)) ⟨z, rfl, hb.1, hb.2⟩ (.int rfl) hi2 rfl)
  · exact Sat.done (dr_end (ret := .int .i64 (fun _ => z)) ⟨z, rfl, hb.1, hb.2⟩ (.int rfl) hi rfl)

theorem w_spec_l1Below (code : List Int) (hc : code.length ≤ 1048576) (n : Int) (i h : Int) (hi : 0 ≤ i ∧ i ≤ (code.length : Int)) : FnP Pr n_spec_l1Below [.ptr 0 0, .int .i64 (fun _ => n)] [curA code i h] (Dr code (isInt 0 (max 0 (n - 1)))) := by
  refine k_spec_l1Below.fnp (by kernel_rfl) ?_
  conv => arg 4; cbv
  repeat' first
    | (refine Sat.cmp (fun h => ?_) (fun h => ?_) <;> simp only [Cmp.holds] at h <;> (conv => arg 4; cbv))
    | (refine Sat.need ndA ?_; conv => arg 4; cbv)
    | (refine Sat.draw (w_spec_l1Byte code hc) (by (try dsimp only); omega) (fun ret i' h' hi' hR => ?_); obtain ⟨v, rfl, hv0, hv1⟩ := hR; conv => arg 4; cbv)
    | (refine Sat.ari64 ndA ndA ?_; conv => arg 4; cbv)
    | (refine Sat.pop ?_; conv => arg 4; cbv)
  · exact Sat.done (dr_end (ret := .int .i64 (fun _ => 0)) ⟨0, rfl, by omega, by omega⟩ (.int rfl) hi rfl)
  · have h1 := Int.tmod_nonneg n hv0
    have h2 := Int.tmod_lt_of_pos v (show 0 < n by omega)
    exact Sat.done (dr_end (ret := .int .i64 (fun _ => v.tmod n)) ⟨_, rfl, by omega, by omega⟩ (.int rfl) hi' rfl)
  · rename_i i1 k1 hi1 v1 a1 b1 i2 k2 hi2 v2 a2 b2 i3 k3 hi3 v3 a3 b3
    have h1 := Int.tmod_nonneg n (show 0 ≤ v1 * 16777216 + v2 * 65536 + v3 * 256 + v by omega)
    have h2 := Int.tmod_lt_of_pos (v1 * 16777216 + v2 * 65536 + v3 * 256 + v) (show 0 < n by omega)
    exact Sat.done (dr_end (ret := .int .i64 (fun _ => (v1 * 16777216 + v2 * 65536 + v3 * 256 + v).tmod n)) ⟨_, rfl, by omega, by omega⟩ (.int rfl) hi' rfl)

def isB : AV → Prop := fun r => ∃ b : Bool, r = .bo b
theorem w_spec_l1Once (code : List Int) (hc : code.length ≤ 1048576) (n : Int) (i h : Int) (hi : 0 ≤ i ∧ i ≤ (code.length : Int)) : FnP Pr n_spec_l1Once [.ptr 0 0, .int .i64 (fun _ => n)] [curA code i h] (Dr code isB) := by
  refine k_spec_l1Once.fnp (by kernel_rfl) ?_
  conv => arg 4; cbv
  repeat' first
    | (refine Sat.cmp (fun h => ?_) (fun h => ?_) <;> simp only [Cmp.holds] at h <;> (conv => arg 4; cbv))
    | (refine Sat.need ndA ?_; conv => arg 4; cbv)
    | (refine Sat.draw (w_spec_l1Below code hc n) (by (try dsimp only); omega) (fun ret i' h' hi' hR => ?_); obtain ⟨v, rfl, hv0, hv1⟩ := hR; conv => arg 4; cbv)
    | (refine Sat.ari64 ndA ndA ?_; conv => arg 4; cbv)
    | (refine Sat.pop ?_; conv => arg 4; cbv)
  · exact Sat.done (dr_end (ret := .bo true) ⟨_, rfl⟩ (.same _) hi' rfl)
  · exact Sat.done (dr_end (ret := .bo false) ⟨_, rfl⟩ (.same _) hi' rfl)

def isAny : AV → Prop := fun r => ∃ v : Int, r = .int .i64 (fun _ => v)
theorem w_spec_l1PickInt (code : List Int) (hc : code.length ≤ 1048576) (l : List Int) (hl : 1 ≤ l.length) (hm : l.length ≤ 1000000) (i h : Int) (hi : 0 ≤ i ∧ i ≤ (code.length : Int)) : FnP Pr n_spec_l1PickInt [.ptr 0 0, .sl 1 (encI .i64) (fun _ => l)] [curA code i h] (Dr code isAny) := by
  refine k_spec_l1PickInt.fnp (by kernel_rfl) ?_
  conv => arg 4; cbv
  repeat' first
    | (refine Sat.cmp (fun h => ?_) (fun h => ?_) <;> simp only [Cmp.holds] at h <;> (conv => arg 4; cbv))
    | (refine Sat.need ndA ?_; conv => arg 4; cbv)
    | (refine Sat.draw (w_spec_l1Below code hc (l.length : Int)) (by (try dsimp only); omega) (fun ret i' h' hi' hR => ?_); obtain ⟨v, rfl, hv0, hv1⟩ := hR; conv => arg 4; cbv)
    | (refine Sat.idxk (by assumption) ?_; conv => arg 4; cbv) | (refine Sat.idx ndA (fun v_ hv_ => ?_); conv => arg 4; cbv)
    | (refine Sat.ari64 ndA ndA ?_; conv => arg 4; cbv)
    | (refine Sat.pop ?_; conv => arg 4; cbv)
  exact Sat.done (dr_end (ret := .int .i64 (fun _ => v_)) ⟨_, rfl⟩ (.int rfl) hi' rfl)

/-- Some whole numbers, at most n. -/
def isL (n : Nat) : AV → Prop := fun r => ∃ l : List Int, r = .sl 1 (encI .i64) (fun _ => l) ∧ l.length ≤ n
theorem w_spec_l2Some (code : List Int) (hc : code.length ≤ 1048576) (i h : Int) (hi : 0 ≤ i ∧ i ≤ (code.length : Int)) : FnP Pr n_spec_l2Some [.ptr 0 0] [curA code i h] (Dr code (isL 5)) := by
  refine k_spec_l2Some.fnp (by kernel_rfl) ?_
  conv => arg 4; cbv
  refine Sat.loopP (ι := Nat × List Int × Int × Int) (fun p => [(3, .ref 64 (fun _ => 0) (fun _ => p.2.1.length)), (4, .int .i64 (fun _ => (p.1 : Int)))]) (fun p => [(0, .lit 99 [.sl 1 (encI .u8) (fun _ => code), .int .i64 (fun _ => p.2.2.1), .int .i64 (fun _ => p.2.2.2)]), (64, .row 1 (encI .i64) (fun _ => p.2.1) false)]) (fun p => p.1 ≤ 5 ∧ p.2.1.length ≤ p.1 ∧ 0 ≤ p.2.2.1 ∧ p.2.2.1 ≤ (code.length : Int)) (fun p => 5 - p.1) (0, [], i, h) ?_ (by simp; omega) (fun p hp => ?_)
  · refine les_of ?_ ?_ rfl
    iterate 2 (focus repeat' (first | exact trivial | refine And.intro ?_ ?_ | exact levA | refine lev_cons ?_ ?_ | refine LeV.agg rfl ?_ | exact Nat.le_of_ble_eq_true rfl | exact Or.inl ⟨_, rfl, .row rfl⟩ | refine Or.inl ⟨_, rfl, .row ?_⟩ | refine Or.inl ⟨_, rfl, .lit rfl ?_⟩ | exact Or.inr ⟨rfl, rfl⟩ | (first | exact .empref (fun h => nomatch h) rfl rfl rfl | rfl)))
  conv => arg 4; cbv
  repeat' first
    | (refine Sat.cmp (fun h => ?_) (fun h => ?_) <;> simp only [Cmp.holds] at h <;> (conv => arg 4; cbv))
    | (refine Sat.need ndA ?_; conv => arg 4; cbv)
    | (refine Sat.draw (w_spec_l1Once code hc 2) hp.2.2 (fun ret i' h' hi' hR => ?_); obtain ⟨b, rfl⟩ := hR; cases b <;> (conv => arg 4; cbv))
    | (refine Sat.idxk (by assumption) ?_; conv => arg 4; cbv) | (refine Sat.idx ndA (fun v_ hv_ => ?_); conv => arg 4; cbv)
    | (refine Sat.ari64 ndA ndA ?_; conv => arg 4; cbv)
    | (refine Sat.pop ?_; conv => arg 4; cbv)
    | (refine Sat.need ⟨rfl, fun y hy j hj => rfl, by (try dsimp only); omega⟩ ?_; conv => arg 4; cbv)
    | (refine Sat.same ?_; conv => arg 4; cbv)
  · refine Sat.next (p.1 + 1, p.2.1, i', h') ?_ ⟨by exact arA, by (try dsimp only); omega, hi'⟩ (by (try dsimp only); exact arA)
    exact lesA
  · refine Sat.next (p.1 + 1, p.2.1 ++ [(p.1 : Int)], i', h') ?_ ⟨by exact arA, by (try dsimp only); simp; omega, hi'⟩ (by (try dsimp only); exact arA)
    refine les_of ?_ ?_ rfl
    iterate 2 (focus repeat' (first | exact trivial | refine And.intro ?_ ?_ | exact levA | refine lev_cons ?_ ?_ | refine LeV.agg rfl ?_ | exact Nat.le_of_ble_eq_true rfl | exact Or.inl ⟨_, rfl, .row rfl⟩ | refine Or.inl ⟨_, rfl, .row ?_⟩ | refine Or.inl ⟨_, rfl, .lit rfl ?_⟩ | exact Or.inr ⟨rfl, rfl⟩ | (first | exact .ref (fun h => nomatch h) (fun h => nomatch h) rfl (by simp) | (simp; done))))
  · exact Sat.done (dr_end (ret := .sl 1 (encI .i64) (fun _ => p.2.1)) ⟨_, rfl, by omega⟩ (.sl (by simp)) hp.2.2 rfl)

theorem w_spec_l2Any (code : List Int) (hc : code.length ≤ 1048576) (i h : Int) (hi : 0 ≤ i ∧ i ≤ (code.length : Int)) : FnP Pr n_spec_l2Any [.ptr 0 0] [curA code i h] (Dr code (isL 6)) := by
  refine k_spec_l2Any.fnp (by kernel_rfl) ?_
  conv => arg 4; cbv
  repeat' first
    | (refine Sat.cmp (fun h => ?_) (fun h => ?_) <;> simp only [Cmp.holds] at h <;> (conv => arg 4; cbv))
    | (refine Sat.need ndA ?_; conv => arg 4; cbv)
    | (refine Sat.draw (w_spec_l2Some code hc) (by (try dsimp only); omega) (fun ret i' h' hi' hR => ?_); obtain ⟨l, rfl, hl⟩ := hR; conv => arg 4; cbv)
    | (refine Sat.draw (w_spec_l1Once code hc 8) (by (try dsimp only); omega) (fun ret i' h' hi' hR => ?_); obtain ⟨b, rfl⟩ := hR; cases b <;> (conv => arg 4; cbv))
    | (refine Sat.draw (w_spec_l1PickInt code hc [-1, 0, 4, 5] (by decide) (by decide)) (by (try dsimp only); omega) (fun ret i' h' hi' hR => ?_); obtain ⟨v, rfl⟩ := hR; conv => arg 4; cbv)
    | (refine Sat.idxk (by assumption) ?_; conv => arg 4; cbv) | (refine Sat.idx ndA (fun v_ hv_ => ?_); conv => arg 4; cbv)
    | (refine Sat.ari64 ndA ndA ?_; conv => arg 4; cbv)
    | (refine Sat.pop ?_; conv => arg 4; cbv)
  · exact Sat.done (dr_end (ret := .sl 1 (encI .i64) (fun _ => l)) ⟨_, rfl, by omega⟩ (.sl (by simp)) hi' rfl)
  · refine Sat.need ⟨rfl, fun y hy j hj => ?_, by (try dsimp only); omega⟩ ?_
    · rfl
    conv => arg 4; cbv
    refine Sat.same ?_
    conv => arg 4; cbv
    exact Sat.done (dr_end (ret := .sl 1 (encI .i64) (fun _ => l ++ [v])) ⟨_, rfl, by simp; omega⟩ (.sl (by simp)) hi' rfl)

theorem w_laws_big (code : List Int) (hb : code.length * 1 ≤ 140737488351232) : Fn Pr n_laws_big [.sl 1 (encI .u8) (fun _ => code)] (.bo (decide ((1048576 : Int) < code.length))) := by
  refine k_laws_big.fn (by kernel_rfl) ?_
  conv => arg 4; cbv
  repeat' first
    | (refine Sat.cmp (fun h => ?_) (fun h => ?_) <;> simp only [Cmp.holds] at h <;> (conv => arg 4; cbv))
    | (refine Sat.need ndA ?_; conv => arg 4; cbv)
    | (refine Sat.idxk (by assumption) ?_; conv => arg 4; cbv) | (refine Sat.idx ndA (fun v_ hv_ => ?_); conv => arg 4; cbv)
    | (refine Sat.ari64 ndA ndA ?_; conv => arg 4; cbv)
    | (refine Sat.pop ?_; conv => arg 4; cbv)
    | refine Sat.done ?_
  all_goals refine led_bo ?_
  all_goals (simp only [ncast] at *; simp; omega)

def isC : AV → Prop := fun r => ∃ c : GConfig, r = aGConfig c ∧ c.Replicas.length ≤ 6 ∧ c.Witnesses.length ≤ 6
theorem tk {α : Type} (l : List α) : (l.drop 0).take l.length = l := by simp
theorem led_c {e p : Int} {x y : AV} {a b : List Int} (hx : LeD x (.sl 1 (encI .i64) (fun _ => a))) (hy : LeD y (.sl 1 (encI .i64) (fun _ => b))) : LeD (.agg [.int .i64 (fun _ => e), .int .i64 (fun _ => p), x, y]) (aGConfig ⟨e, p, a, b⟩) := .agg rfl (led_cons (.same _) (led_cons (.same _) (led_cons hx (led_cons hy led_nil))))
theorem w_spec_l8Config (code : List Int) (hc : code.length ≤ 1048576) (e : Int) (i h : Int) (hi : 0 ≤ i ∧ i ≤ (code.length : Int)) : FnP Pr n_spec_l8Config [.ptr 0 0, .int .i64 (fun _ => e)] [curA code i h] (Dr code isC) := by
  refine k_spec_l8Config.fnp (by kernel_rfl) ?_
  conv => arg 4; cbv
  refine Sat.draw (w_spec_l1Below code hc _) hi (fun ret ia ha hia hR => ?_)
  obtain ⟨p, rfl, p0, p1⟩ := hR
  conv => arg 4; cbv
  have hp1 : [p].length ≤ 6 := by simp
  have hn0 : ([] : List Int).length ≤ 6 := by simp
  refine Sat.may (fun _ => ?_) ?_ <;> (conv => arg 4; cbv)
  all_goals refine Sat.draw (w_spec_l2Some code hc) hia (fun ret ib hb hib hR => ?_)
  all_goals obtain ⟨l, rfl, hl⟩ := hR
  all_goals conv => arg 4; cbv
  all_goals refine Sat.call (w_spec_l2Put l p (by omega)) rfl ledA ?_
  all_goals have hput := put_len (x := p) (l := l)
  all_goals have hR6 : (put p l).length ≤ 6 := by omega
  all_goals generalize put p l = R at *
  all_goals conv => arg 4; cbv
  all_goals refine Sat.cmp (fun hg => ?_) (fun hg => ?_) <;> (conv => arg 4; cbv)
  all_goals refine Sat.draw (w_spec_l1Once code hc 2) hib (fun ret ic hd hic hR => ?_)
  all_goals obtain ⟨b, rfl⟩ := hR
  all_goals cases b <;> (conv => arg 4; cbv)
  all_goals try refine Sat.may (fun _ => ?_) ?_ <;> (conv => arg 4; cbv)
  all_goals try (refine Sat.draw (w_spec_l2Some code hc) hic (fun ret ij hj hij hR => ?_); obtain ⟨w, rfl, hw⟩ := hR; conv => arg 4; cbv)
  all_goals first
    | (refine Sat.call (w_spec_WithoutServers w R (by omega) (by unfold bIntS; omega)) rfl ledA ?_
       have hwl := without_len (a := w) (b := R)
       have hU1 : ((without w R).take 1).length ≤ 6 := by rw [List.length_take]; omega
       generalize without w R = U at *
       conv => arg 4; cbv)
    | (refine Sat.call (w_spec_WithoutServers w [p] (by omega) (by unfold bIntS; simp)) rfl ledA ?_
       have hwl := without_len (a := w) (b := [p])
       have hU1 : ((without w [p]).take 1).length ≤ 6 := by rw [List.length_take]; omega
       generalize without w [p] = U at *
       conv => arg 4; cbv)
    | skip
  all_goals repeat' first
    | (refine Sat.cmp (fun h => ?_) (fun h => ?_) <;> simp only [Cmp.holds] at h <;> (conv => arg 4; cbv))
    | (refine Sat.need ndA ?_; conv => arg 4; cbv)
  all_goals first
    | exact Sat.done (dr_end (ret := aGConfig ⟨e, p, R, U.take 1⟩) ⟨_, rfl, hR6, hU1⟩ (led_c (.sl (tk R)) (.sl rfl)) hij rfl)
    | exact Sat.done (dr_end (ret := aGConfig ⟨e, p, [p], U.take 1⟩) ⟨_, rfl, hp1, hU1⟩ (led_c (.sl rfl) (.sl rfl)) hij rfl)
    | exact Sat.done (dr_end (ret := aGConfig ⟨e, p, R, []⟩) ⟨_, rfl, hR6, hn0⟩ (led_c (.sl (tk R)) (.nil rfl)) hic rfl)
    | exact Sat.done (dr_end (ret := aGConfig ⟨e, p, [p], []⟩) ⟨_, rfl, hp1, hn0⟩ (led_c (.sl rfl) (.nil rfl)) hic rfl)
    | exact Sat.done (dr_end (ret := aGConfig ⟨e, p, R, []⟩) ⟨_, rfl, hR6, hn0⟩ (led_c (.sl (tk R)) (.nil rfl)) hij rfl)
    | exact Sat.done (dr_end (ret := aGConfig ⟨e, p, [p], []⟩) ⟨_, rfl, hp1, hn0⟩ (led_c (.sl rfl) (.nil rfl)) hij rfl)
    | trace_state

theorem w_spec_l8Any (code : List Int) (hc : code.length ≤ 1048576) (i h : Int) (hi : 0 ≤ i ∧ i ≤ (code.length : Int)) : FnP Pr n_spec_l8Any [.ptr 0 0] [curA code i h] (Dr code isC) := by
  refine k_spec_l8Any.fnp (by kernel_rfl) ?_
  conv => arg 4; cbv
  refine Sat.draw (w_spec_l1Below code hc _) hi (fun ret ia ha hia hR => ?_)
  obtain ⟨p, rfl, p0, p1⟩ := hR
  conv => arg 4; cbv
  (refine Sat.ari64 ndA ndA ?_; conv => arg 4; cbv)
  refine Sat.draw (w_spec_l8Config code hc _) hia (fun ret ib hb hib hR => ?_)
  obtain ⟨c, rfl, c1, c2⟩ := hR
  conv => arg 4; cbv
  refine Sat.draw (w_spec_l1Below code hc _) hib (fun ret ic hd hic hR => ?_)
  obtain ⟨q, rfl, q0, q1⟩ := hR
  conv => arg 4; cbv
  repeat' first
    | (refine Sat.cmp (fun h => ?_) (fun h => ?_) <;> simp only [Cmp.holds] at h <;> (conv => arg 4; cbv))
    | (refine Sat.ari64 ndA ndA ?_; conv => arg 4; cbv)
    | (refine Sat.draw (w_spec_l1PickInt code hc [0, 20, 21] (by decide) (by decide)) hic (fun ret ij hj hij hR => ?_); obtain ⟨u, rfl⟩ := hR; conv => arg 4; cbv)
    | (refine Sat.draw (w_spec_l1Below code hc 7) hic (fun ret ij hj hij hR => ?_); obtain ⟨u, rfl, u0, u1⟩ := hR; conv => arg 4; cbv)
    | (refine Sat.draw (w_spec_l2Any code hc) hic (fun ret ij hj hij hR => ?_); obtain ⟨w, rfl, hw⟩ := hR; conv => arg 4; cbv)
  all_goals first
    | exact Sat.done (dr_end (ret := aGConfig { c with Epoch := u }) ⟨_, rfl, c1, c2⟩ (led_c (.sl (tk _)) (.sl (tk _))) hij rfl)
    | exact Sat.done (dr_end (ret := aGConfig { c with Primary := u - 1 }) ⟨_, rfl, c1, c2⟩ (led_c (.sl (tk _)) (.sl (tk _))) hij rfl)
    | exact Sat.done (dr_end (ret := aGConfig { c with Replicas := w }) ⟨_, rfl, hw, c2⟩ (led_c (.sl (tk _)) (.sl (tk _))) hij rfl)
    | exact Sat.done (dr_end (ret := aGConfig { c with Witnesses := w }) ⟨_, rfl, c1, hw⟩ (led_c (.sl (tk _)) (.sl (tk _))) hij rfl)
    | exact Sat.done (dr_end (ret := aGConfig c) ⟨_, rfl, c1, c2⟩ (led_c (.sl (tk _)) (.sl (tk _))) hic rfl)
    | trace_state

def smC (c : GConfig) : Prop := c.Replicas.length ≤ 6 ∧ c.Witnesses.length ≤ 6
theorem smC_b {c : GConfig} (h : smC c) : bConfig c := ⟨by have := h.1; unfold bIntS; omega, by have := h.2; unfold bIntS; omega⟩
def isA : AV → Prop := fun r => ∃ a : GAcceptor, r = aGAcceptor a ∧ smC a.Value
theorem prepareA_sm {a : GAcceptor} {n : Int} (h : smC a.Value) : smC (prepareA a n).Value := by unfold prepareA; split <;> exact h
theorem acceptA_sm {a : GAcceptor} {n : Int} {c : GConfig} (h : smC a.Value) (hc : smC c) : smC (acceptA a n c).Value := by
  unfold acceptA
  split
  · exact hc
  · exact h
theorem led_a {p b e q : Int} {x y : AV} {r w : List Int} (hx : LeD x (.sl 1 (encI .i64) (fun _ => r))) (hy : LeD y (.sl 1 (encI .i64) (fun _ => w))) : LeD (.agg [.int .i64 (fun _ => p), .int .i64 (fun _ => b), .int .i64 (fun _ => e), .int .i64 (fun _ => q), x, y]) (aGAcceptor ⟨p, b, ⟨e, q, r, w⟩⟩) := .agg rfl (led_cons (.same _) (led_cons (.same _) (led_cons (.same _) (led_cons (.same _) (led_cons hx (led_cons hy led_nil))))))

def smM (m : GMasterLog) (n : Nat) : Prop := m.Configs.length ≤ n ∧ ∀ c ∈ m.Configs, smC c
theorem smM_b {m : GMasterLog} {n : Nat} (h : smM m n) (hn : n ≤ 100) : bMasterLog m := ⟨by have := h.1; omega, fun c hc => smC_b (h.2 c hc)⟩
theorem actM_sm {m : GMasterLog} {n : Nat} {e : Int} (h : smM m n) : smM (actM m e) n := by unfold actM; split <;> exact h
theorem propM_sm {m : GMasterLog} {n : Nat} {c : GConfig} (h : smM m n) (hc : smC c) : smM (propM m c) (n + 1) := by
  unfold propM
  split
  · refine ⟨by have := h.1; simp; omega, fun x hx => ?_⟩
    rcases List.mem_append.1 hx with hx | hx
    · exact h.2 x hx
    · rw [List.mem_singleton] at hx
      rw [hx]
      exact hc
  · exact ⟨by have := h.1; omega, h.2⟩
theorem led_m {x : AV} {l : List GConfig} {a : Int} (hx : LeD x (.sl 4 eGConfig (fun _ => l))) : LeD (.agg [x, .int .i64 (fun _ => a)]) (aGMasterLog ⟨l, a⟩) := .agg rfl (led_cons hx (led_cons (.same _) led_nil))
def isM (n : Nat) : AV → Prop := fun r => ∃ m : GMasterLog, r = aGMasterLog m ∧ smM m n

set_option maxHeartbeats 2000000 in
theorem w_spec_l12Log (code : List Int) (hc : code.length ≤ 1048576) (i h : Int) (hi : 0 ≤ i ∧ i ≤ (code.length : Int)) : FnP Pr n_spec_l12Log [.ptr 0 0] [curA code i h] (Dr code (isM 4)) := by
  refine k_spec_l12Log.fnp (by kernel_rfl) ?_
  conv => arg 4; cbv
  refine Sat.draw (w_spec_l1Below code hc _) hi (fun ret ia ha hia hR => ?_)
  obtain ⟨n, rfl, n0, n1⟩ := hR
  conv => arg 4; cbv
  refine Sat.loopP (ι := GMasterLog × Int × Int × Int) (fun p => [(4, .int .i64 (fun _ => p.2.1))]) (fun p => [(0, .lit 99 [.sl 1 (encI .u8) (fun _ => code), .int .i64 (fun _ => p.2.2.1), .int .i64 (fun _ => p.2.2.2)]), (33, .lit 0 [.ref 40 (fun _ => 0) (fun _ => p.1.Configs.length), .int .i64 (fun _ => p.1.Activated)]), (40, .row 4 eGConfig (fun _ => p.1.Configs) false)]) (fun p => smM p.1 (4 - p.2.1.toNat) ∧ (0 ≤ p.2.1 ∧ p.2.1 ≤ 4) ∧ 0 ≤ p.2.2.1 ∧ p.2.2.1 ≤ (code.length : Int)) (fun p => p.2.1.toNat) (⟨[], 0⟩, n, ia, ha) ?_ ⟨⟨by simp, fun c hc => nomatch hc⟩, by (try dsimp only); omega, hia⟩ (fun p hp => ?_)
  · refine les_of ?_ ?_ rfl
    iterate 2 (focus repeat' (first | exact trivial | refine And.intro ?_ ?_ | exact levA | refine lev_cons ?_ ?_ | refine LeV.agg rfl ?_ | exact Nat.le_of_ble_eq_true rfl | exact Or.inl ⟨_, rfl, .row rfl⟩ | refine Or.inl ⟨_, rfl, .row ?_⟩ | refine Or.inl ⟨_, rfl, .lit rfl ?_⟩ | exact Or.inr ⟨rfl, rfl⟩ | (first | exact .nilref (fun h => nomatch h) rfl rfl rfl | rfl)))
  conv => arg 4; cbv
  have hl4 := hp.1.1
  refine Sat.cmp (fun hn => ?_) (fun hn => ?_) <;> simp only [Cmp.holds] at hn <;> (conv => arg 4; cbv)
  · have hbm : bMasterLog p.1 := smM_b hp.1 (by omega)
    repeat' first
      | (refine Sat.may (fun _ => ?_) ?_ <;> (conv => arg 4; cbv))
      | (refine Sat.ari64 ndA ndA ?_; conv => arg 4; cbv)
    all_goals refine Sat.draw (w_spec_l8Config code hc _) hp.2.2 (fun ret ij hj hij hR => ?_)
    all_goals obtain ⟨c, rfl, c1, c2⟩ := hR
    all_goals conv => arg 4; cbv
    all_goals have HP := w_spec_ProposeConfig p.1 c hbm (smC_b ⟨c1, c2⟩) (by omega)
    all_goals have hm1 := propM_sm (c := c) hp.1 ⟨c1, c2⟩
    all_goals have hm2 := propM_b (c := c) hbm (smC_b ⟨c1, c2⟩)
    all_goals generalize propM p.1 c = M at *
    all_goals generalize propOk p.1 c = B at *
    all_goals refine Sat.call HP rfl (led_cons (led_m (.sl (tk _))) (led_cons (led_c (.sl (tk _)) (.sl (tk _))) led_nil)) ?_
    all_goals conv => arg 4; cbv
    all_goals refine Sat.draw (w_spec_l1Once code hc 2) hij (fun ret ik hk hik hR => ?_)
    all_goals obtain ⟨b, rfl⟩ := hR
    all_goals have hM := hm1.1
    all_goals have HA := w_spec_ActivateConfig M (M.Configs.length : Int) hm2 (by omega)
    all_goals have hm3 := actM_sm (e := (M.Configs.length : Int)) hm1
    all_goals generalize actM M (M.Configs.length : Int) = M2 at *
    all_goals generalize actOk M (M.Configs.length : Int) = B2 at *
    all_goals cases b <;> (conv => arg 4; cbv)
    all_goals try (refine Sat.call HA rfl (led_cons (led_m (.sl (tk _))) (led_cons (.same _) led_nil)) ?_; conv => arg 4; cbv)
    all_goals (refine Sat.ari64 ndA ndA ?_; conv => arg 4; cbv)
    · refine Sat.nextR 260 40 (M, p.2.1 - 1, ik, hk) rfl rfl rfl rfl ?_ ⟨⟨by (try dsimp only); omega, hm1.2⟩, by (try dsimp only); omega, hik⟩ (by (try dsimp only); omega)
      exact lesA
    · have hM2 := hm3.1
      refine Sat.nextR 436 40 (M2, p.2.1 - 1, ik, hk) rfl rfl rfl rfl ?_ ⟨⟨by (try dsimp only); omega, hm3.2⟩, by (try dsimp only); omega, hik⟩ (by (try dsimp only); omega)
      exact lesA
    · refine Sat.nextR 260 40 (M, p.2.1 - 1, ik, hk) rfl rfl rfl rfl ?_ ⟨⟨by (try dsimp only); omega, hm1.2⟩, by (try dsimp only); omega, hik⟩ (by (try dsimp only); omega)
      exact lesA
    · have hM2 := hm3.1
      refine Sat.nextR 436 40 (M2, p.2.1 - 1, ik, hk) rfl rfl rfl rfl ?_ ⟨⟨by (try dsimp only); omega, hm3.2⟩, by (try dsimp only); omega, hik⟩ (by (try dsimp only); omega)
      exact lesA
    · refine Sat.nextR 260 40 (M, p.2.1 - 1, ik, hk) rfl rfl rfl rfl ?_ ⟨⟨by (try dsimp only); omega, hm1.2⟩, by (try dsimp only); omega, hik⟩ (by (try dsimp only); omega)
      exact lesA
    · have hM2 := hm3.1
      refine Sat.nextR 436 40 (M2, p.2.1 - 1, ik, hk) rfl rfl rfl rfl ?_ ⟨⟨by (try dsimp only); omega, hm3.2⟩, by (try dsimp only); omega, hik⟩ (by (try dsimp only); omega)
      exact lesA
    · refine Sat.nextR 260 40 (M, p.2.1 - 1, ik, hk) rfl rfl rfl rfl ?_ ⟨⟨by (try dsimp only); omega, hm1.2⟩, by (try dsimp only); omega, hik⟩ (by (try dsimp only); omega)
      exact lesA
    · have hM2 := hm3.1
      refine Sat.nextR 436 40 (M2, p.2.1 - 1, ik, hk) rfl rfl rfl rfl ?_ ⟨⟨by (try dsimp only); omega, hm3.2⟩, by (try dsimp only); omega, hik⟩ (by (try dsimp only); omega)
      exact lesA
  · (refine Sat.pop ?_; conv => arg 4; cbv)
    exact Sat.done (dr_end (ret := aGMasterLog p.1) ⟨_, rfl, ⟨by omega, hp.1.2⟩⟩ (led_m (.sl (tk _))) hp.2.2 rfl)

theorem w_spec_l12Any (code : List Int) (hc : code.length ≤ 1048576) (i h : Int) (hi : 0 ≤ i ∧ i ≤ (code.length : Int)) : FnP Pr n_spec_l12Any [.ptr 0 0] [curA code i h] (Dr code (isM 5)) := by
  refine k_spec_l12Any.fnp (by kernel_rfl) ?_
  conv => arg 4; cbv
  refine Sat.draw (w_spec_l12Log code hc) hi (fun ret ia ha hia hR => ?_)
  obtain ⟨m, rfl, hm⟩ := hR
  have hml := hm.1
  conv => arg 4; cbv
  refine Sat.draw (w_spec_l1Below code hc _) hia (fun ret ib hb hib hR => ?_)
  obtain ⟨q, rfl, q0, q1⟩ := hR
  conv => arg 4; cbv
  refine Sat.cmp (fun hn => ?_) (fun hn => ?_) <;> (conv => arg 4; cbv)
  · refine Sat.draw (w_spec_l1PickInt code hc [-1, 0, 3, 6] (by decide) (by decide)) hib (fun ret ic hd hic hR => ?_)
    obtain ⟨u, rfl⟩ := hR
    conv => arg 4; cbv
    exact Sat.done (dr_end (ret := aGMasterLog { m with Activated := u }) ⟨_, rfl, ⟨by (try dsimp only); omega, hm.2⟩⟩ (led_m (.sl (tk _))) hic rfl)
  refine Sat.cmp (fun hn => ?_) (fun hn => ?_) <;> (conv => arg 4; cbv)
  · refine Sat.may (fun _ => ?_) ?_ <;> (conv => arg 4; cbv)
    all_goals refine Sat.draw (w_spec_l8Any code hc) hib (fun ret ic hd hic hR => ?_)
    all_goals obtain ⟨c, rfl, c1, c2⟩ := hR
    all_goals conv => arg 4; cbv
    all_goals try (refine Sat.may (fun _ => ?_) ?_ <;> (conv => arg 4; cbv))
    all_goals refine Sat.need ⟨rfl, rfl, rfl, by (try dsimp only); omega⟩ ?_
    all_goals conv => arg 4; cbv
    all_goals refine Sat.typed c tcA ?_
    all_goals conv => arg 4; cbv
    all_goals have hm5 : smM { m with Configs := m.Configs ++ [c] } 5 := ⟨by simp; omega, fun x hx => by
      rcases List.mem_append.1 hx with hx | hx
      · exact hm.2 x hx
      · rw [List.mem_singleton] at hx
        rw [hx]
        exact ⟨c1, c2⟩⟩
    all_goals exact Sat.done (dr_end (ret := aGMasterLog { m with Configs := m.Configs ++ [c] }) ⟨_, rfl, hm5⟩ (led_m (.sl (by simp))) hic rfl)
  · exact Sat.done (dr_end (ret := aGMasterLog m) ⟨_, rfl, ⟨by omega, hm.2⟩⟩ (led_m (.sl (tk _))) hib rfl)

theorem w_spec_DrawProposeConfig (code : List Int) (hc : code.length ≤ 1048576) : FnP Pr n_spec_DrawProposeConfig [.sl 1 (encI .u8) (fun _ => code)] [] (fun ret outs => outs = [] ∧ ∃ (m : GMasterLog) (c : GConfig), ret = .tup [aGMasterLog m, aGConfig c] ∧ smM m 5 ∧ smC c) := by
  refine k_spec_DrawProposeConfig.fnq (by kernel_rfl) ?_
  conv => arg 4; cbv
  refine Sat.newv (w_spec_l1New code hc) (fun cs hcs => ?_)
  obtain ⟨i, h, hi, rfl⟩ := hcs
  conv => arg 4; cbv
  refine Sat.draw (w_spec_l12Any code hc) hi (fun ret ia ha hia hR => ?_)
  obtain ⟨m, rfl, hm⟩ := hR
  have hml := hm.1
  conv => arg 4; cbv
  refine Sat.draw (w_spec_l8Any code hc) hia (fun ret ib hb hib hR => ?_)
  obtain ⟨c, rfl, c1, c2⟩ := hR
  conv => arg 4; cbv
  refine Sat.draw (w_spec_l1Once code hc 4) hib (fun ret ic hd hic hR => ?_)
  obtain ⟨b, rfl⟩ := hR
  cases b <;> (conv => arg 4; cbv)
  all_goals repeat' first
    | (refine Sat.may (fun _ => ?_) ?_ <;> (conv => arg 4; cbv))
    | (refine Sat.ari64 ndA ndA ?_; conv => arg 4; cbv)
  all_goals first
    | exact Sat.done ⟨.tup [aGMasterLog m, aGConfig { c with Epoch := (m.Configs.length : Int) + 1 }], ⟨rfl, m, { c with Epoch := (m.Configs.length : Int) + 1 }, rfl, hm, ⟨c1, c2⟩⟩, .tup rfl (led_cons (led_m (.sl (tk _))) (led_cons (led_c (.sl (tk _)) (.sl (tk _))) led_nil))⟩
    | exact Sat.done ⟨.tup [aGMasterLog m, aGConfig c], ⟨rfl, m, c, rfl, hm, ⟨c1, c2⟩⟩, .tup rfl (led_cons (led_m (.sl (tk _))) (led_cons (led_c (.sl (tk _)) (.sl (tk _))) led_nil))⟩

theorem w_spec_DrawActivateConfig (code : List Int) (hc : code.length ≤ 1048576) : FnP Pr n_spec_DrawActivateConfig [.sl 1 (encI .u8) (fun _ => code)] [] (fun ret outs => outs = [] ∧ ∃ (m : GMasterLog) (n : Int), ret = .tup [aGMasterLog m, .int .i64 (fun _ => n)] ∧ smM m 5) := by
  refine k_spec_DrawActivateConfig.fnq (by kernel_rfl) ?_
  conv => arg 4; cbv
  refine Sat.newv (w_spec_l1New code hc) (fun cs hcs => ?_)
  obtain ⟨i, h, hi, rfl⟩ := hcs
  conv => arg 4; cbv
  refine Sat.draw (w_spec_l12Any code hc) hi (fun ret ia ha hia hR => ?_)
  obtain ⟨m, rfl, hm⟩ := hR
  have hml := hm.1
  conv => arg 4; cbv
  refine Sat.draw (w_spec_l1Once code hc 3) hia (fun ret ic hd hic hR => ?_)
  obtain ⟨b, rfl⟩ := hR
  cases b <;> (conv => arg 4; cbv)
  all_goals repeat' first
    | (refine Sat.may (fun _ => ?_) ?_ <;> (conv => arg 4; cbv))
    | (refine Sat.draw (w_spec_l1Below code hc 7) hic (fun ret ij hj hij hR => ?_); obtain ⟨q, rfl, q0, q1⟩ := hR; conv => arg 4; cbv)
  all_goals first
    | exact Sat.done ⟨.tup [aGMasterLog m, .int .i64 (fun _ => (m.Configs.length : Int))], ⟨rfl, m, _, rfl, hm⟩, .tup rfl (led_cons (led_m (.sl (tk _))) (led_cons (.same _) led_nil))⟩
    | exact Sat.done ⟨.tup [aGMasterLog m, .int .i64 (fun _ => q)], ⟨rfl, m, q, rfl, hm⟩, .tup rfl (led_cons (led_m (.sl (tk _))) (led_cons (.same _) led_nil))⟩

theorem okCfgs_snoc : ∀ {l : List GConfig} {n : Int} {c : GConfig}, okCfgs n l = true → validC c = true → c.Epoch = n + l.length + 1 → okCfgs n (l ++ [c]) = true
  | [], n, c, _, hv, he => by
    simp only [List.nil_append, okCfgs, Bool.and_eq_true, decide_eq_true_eq]
    simp at he
    exact ⟨⟨hv, he⟩, trivial⟩
  | x :: l, n, c, h, hv, he => by
    simp only [List.cons_append, okCfgs, Bool.and_eq_true, decide_eq_true_eq] at h ⊢
    refine ⟨h.1, okCfgs_snoc h.2 hv ?_⟩
    simp only [List.length_cons] at he
    omega
theorem prop_law {m : GMasterLog} {c : GConfig} (h : propOk m c = true) :
    (propM m c).Configs.length = m.Configs.length + 1 ∧ c.Epoch = (m.Configs.length : Int) + 1 ∧
    cfgOk (propM m c) ((propM m c).Configs.length : Int) = true ∧ cfgAt (propM m c) ((propM m c).Configs.length : Int) = c ∧ actOk (propM m c) c.Epoch = true ∧ actOk (actM (propM m c) c.Epoch) c.Epoch = false ∧
    cfgOk (actM (propM m c) c.Epoch) (actM (propM m c) c.Epoch).Activated = true ∧ cfgAt (actM (propM m c) c.Epoch) (actM (propM m c) c.Epoch).Activated = c := by
  have hp : propM m c = { m with Configs := m.Configs ++ [c] } := by rw [propM, if_pos h]
  simp only [propOk, Bool.and_eq_true, decide_eq_true_eq] at h
  obtain ⟨⟨h1, h2⟩, h3⟩ := h
  simp only [isMaster, Bool.and_eq_true, decide_eq_true_eq] at h1
  have hl : (m.Configs ++ [c]).length = m.Configs.length + 1 := by simp
  have hx : isMaster (propM m c) = true := by
    rw [hp]
    simp only [isMaster, Bool.and_eq_true, decide_eq_true_eq]
    exact ⟨okCfgs_snoc h1.1 h2 (by omega), by omega⟩
  have ha : actOk (propM m c) c.Epoch = true := by
    simp only [actOk, Bool.and_eq_true, decide_eq_true_eq]
    rw [hx, hp]
    exact ⟨⟨rfl, by (try dsimp only); omega⟩, by (try dsimp only); omega⟩
  have hz : actM (propM m c) c.Epoch = { Configs := m.Configs ++ [c], Activated := c.Epoch } := by rw [actM, if_pos ha, hp]
  have hzm : isMaster (actM (propM m c) c.Epoch) = true := by
    rw [hz]
    simp only [isMaster, Bool.and_eq_true, decide_eq_true_eq]
    exact ⟨okCfgs_snoc h1.1 h2 (by omega), by omega⟩
  have hg : (m.Configs ++ [c])[((m.Configs.length : Int) + 1 - 1).toNat]? = some c := by
    have e : ((m.Configs.length : Int) + 1 - 1).toNat = m.Configs.length := by omega
    rw [e, List.getElem?_append_right (Nat.le_refl _)]
    simp
  have o1 : cfgOk (propM m c) ((propM m c).Configs.length : Int) = true := by
    simp only [cfgOk, Bool.and_eq_true, decide_eq_true_eq]
    rw [hx, hp]
    exact ⟨rfl, by (try dsimp only); omega⟩
  have o2 : cfgOk (actM (propM m c) c.Epoch) (actM (propM m c) c.Epoch).Activated = true := by
    simp only [cfgOk, Bool.and_eq_true, decide_eq_true_eq]
    rw [hzm, hz]
    exact ⟨rfl, by (try dsimp only); omega⟩
  refine ⟨by rw [hp]; exact hl, h3, o1, ?_, ha, ?_, o2, ?_⟩
  · rw [cfgAt, if_pos o1, hp]
    dsimp only
    rw [hl, show ((m.Configs.length + 1 : Nat) : Int) = (m.Configs.length : Int) + 1 by omega, hg]
  · rw [Bool.eq_false_iff]
    intro hh
    simp only [actOk, Bool.and_eq_true, decide_eq_true_eq] at hh
    rw [hz] at hh
    have := hh.2
    dsimp only at this
    omega
  · rw [cfgAt, if_pos o2, hz]
    dsimp only
    rw [h3, hg]

set_option maxHeartbeats 8000000 in
theorem w_laws_FnMasters (code_ : List Int) {G : Prop} (F : (code_.length ≤ maxLen ∧ code_.length * 1 ≤ 140737488351232 ∧ ∀ x ∈ code_, (Lit.int .u8 x).wf = true) ∧ G) : Fn Pr n_laws_FnMasters [.sl 1 (encI .u8) (fun _ => code_)] (.bo true) := by
  by_cases hc : (1048576 : Int) < code_.length
  · have hB := w_laws_big code_ F.1.2.1
    rw [decide_eq_true hc] at hB
    refine k_laws_FnMasters.fn (by kernel_rfl) ?_
    conv => arg 4; cbv
    refine Sat.call hB rfl ledA ?_
    conv => arg 4; cbv
    exact Sat.done (.same _)
  have hB := w_laws_big code_ F.1.2.1
  rw [decide_eq_false hc] at hB
  refine k_laws_FnMasters.fn (by kernel_rfl) ?_
  conv => arg 4; cbv
  refine Sat.call hB rfl ledA ?_
  conv => arg 4; cbv
  refine Sat.rel (w_spec_DrawProposeConfig code_ (by omega)) (fun ret outs hR => ?_)
  obtain ⟨rfl, m, c, rfl, hm, hs⟩ := hR
  have hml := hm.1
  have hbm : bMasterLog m := smM_b hm (by omega)
  have hbc : bConfig c := smC_b hs
  have HI := w_impl_ProposeConfig m c hbm hbc (by omega)
  have HS := w_spec_ProposeConfig m c hbm hbc (by omega)
  have hbx : bMasterLog (propM m c) := propM_b hbm hbc
  have hxl := (propM_sm hm hs).1
  have HE := w_impl_EqualMasterLogs (propM m c) (propM m c) hbx
  rw [decide_eq_true rfl] at HE
  have hlaw := prop_law (m := m) (c := c)
  have HL := w_impl_LastChosen (propM m c) hbx
  have HA := w_impl_ActivateConfig (propM m c) c.Epoch hbx (by omega)
  have hbz : bMasterLog (actM (propM m c) c.Epoch) := actM_b hbx
  have hzl := (actM_sm (e := c.Epoch) (propM_sm hm hs)).1
  have HB := w_impl_ActivateConfig (actM (propM m c) c.Epoch) c.Epoch hbz (by omega)
  have HT := w_impl_LastActivated (actM (propM m c) c.Epoch) hbz
  have HC := w_impl_EqualConfigs c c hbc
  rw [decide_eq_true rfl] at HC
  have HD := w_spec_DrawActivateConfig code_ (by omega)
  cases hk : propOk m c
  · rw [hk] at HI HS
    clear hlaw HL HA HB HT
    generalize propM m c = x at *
    conv => arg 4; cbv
    refine Sat.call HI rfl (led_cons (led_m (.sl (tk _))) (led_cons (led_c (.sl (tk _)) (.sl (tk _))) led_nil)) ?_
    conv => arg 4; cbv
    refine Sat.call HS rfl (led_cons (led_m (.sl (tk _))) (led_cons (led_c (.sl (tk _)) (.sl (tk _))) led_nil)) ?_
    conv => arg 4; cbv
    refine Sat.call HE rfl (led_cons (led_m (.sl (tk _))) (led_cons (led_m (.sl (tk _))) led_nil)) ?_
    conv => arg 4; cbv
    clear HI HS HE HC
    refine Sat.rel HD (fun ret outs hR => ?_)
    obtain ⟨rfl, n, e, rfl, hn⟩ := hR
    have hnl := hn.1
    have hbn : bMasterLog n := smM_b hn (by omega)
    have JI := w_impl_ActivateConfig n e hbn (by omega)
    have JS := w_spec_ActivateConfig n e hbn (by omega)
    have JE := w_impl_EqualMasterLogs (actM n e) (actM n e) (actM_b hbn)
    rw [decide_eq_true rfl] at JE
    have JC := w_impl_ConfigAt n e hbn
    have JD := w_spec_ConfigAt n e hbn
    have JF := w_impl_EqualConfigs (cfgAt n e) (cfgAt n e) (cfgAt_b hbn)
    rw [decide_eq_true rfl] at JF
    have JM := w_impl_IsMasterLog n hbn
    have JN := w_spec_IsMasterLog n hbn
    generalize cfgAt n e = p at *
    generalize cfgOk n e = o1 at *
    generalize actM n e = u at *
    obtain ⟨o4, ho⟩ : ∃ o, o = actOk n e := ⟨_, rfl⟩
    rw [← ho] at JS
    generalize actOk n e = o2 at *
    generalize isMaster n = o3 at *
    conv => arg 4; cbv
    refine Sat.call JI rfl (led_cons (led_m (.sl (tk _))) (led_cons (.same _) led_nil)) ?_
    cases o2 <;> (conv => arg 4; cbv)
    all_goals refine Sat.call JS rfl (led_cons (led_m (.sl (tk _))) (led_cons (.same _) led_nil)) ?_
    all_goals conv => arg 4; cbv
    all_goals refine Sat.call JC rfl (led_cons (led_m (.sl (tk _))) (led_cons (.same _) led_nil)) ?_
    all_goals cases o1 <;> (conv => arg 4; cbv)
    all_goals refine Sat.call JD rfl (led_cons (led_m (.sl (tk _))) (led_cons (.same _) led_nil)) ?_
    all_goals conv => arg 4; cbv
    all_goals subst ho
    all_goals conv => arg 4; cbv
    all_goals refine Sat.call JE rfl (led_cons (led_m (.sl (tk _))) (led_cons (led_m (.sl (tk _))) led_nil)) ?_
    all_goals conv => arg 4; cbv
    all_goals refine Sat.call JF rfl (led_cons (led_c (.sl (tk _)) (.sl (tk _))) (led_cons (led_c (.sl (tk _)) (.sl (tk _))) led_nil)) ?_
    all_goals conv => arg 4; cbv
    all_goals refine Sat.call JM rfl (led_cons (led_m (.sl (tk _))) led_nil) ?_
    all_goals cases o3 <;> (conv => arg 4; cbv)
    all_goals refine Sat.call JN rfl (led_cons (led_m (.sl (tk _))) led_nil) ?_
    all_goals conv => arg 4; cbv
    all_goals exact Sat.done (.same _)
  · obtain ⟨f1, f2, f3, f4, f5, f6, f7, f8⟩ := hlaw hk
    rw [hk] at HI HS
    rw [f3, f4] at HL
    rw [f5] at HA
    rw [f6] at HB
    rw [f7, f8] at HT
    generalize actM (actM (propM m c) c.Epoch) c.Epoch = z2 at *
    generalize actM (propM m c) c.Epoch = z at *
    generalize propM m c = x at *
    conv => arg 4; cbv
    refine Sat.call HI rfl (led_cons (led_m (.sl (tk _))) (led_cons (led_c (.sl (tk _)) (.sl (tk _))) led_nil)) ?_
    conv => arg 4; cbv
    refine Sat.call HS rfl (led_cons (led_m (.sl (tk _))) (led_cons (led_c (.sl (tk _)) (.sl (tk _))) led_nil)) ?_
    conv => arg 4; cbv
    refine Sat.call HE rfl (led_cons (led_m (.sl (tk _))) (led_cons (led_m (.sl (tk _))) led_nil)) ?_
    conv => arg 4; cbv
    refine Sat.call HL rfl (led_cons (led_m (.sl (tk _))) led_nil) ?_
    conv => arg 4; cbv
    refine Sat.call HA rfl (led_cons (led_m (.sl (tk _))) (led_cons (.same _) led_nil)) ?_
    conv => arg 4; cbv
    refine Sat.call HB rfl (led_cons (led_m (.sl (tk _))) (led_cons (.same _) led_nil)) ?_
    conv => arg 4; cbv
    refine Sat.call HT rfl (led_cons (led_m (.sl (tk _))) led_nil) ?_
    conv => arg 4; cbv
    repeat' first
      | (refine Sat.call HC rfl (led_cons (led_c (.sl (tk _)) (.sl (tk _))) (led_cons (led_c (.sl (tk _)) (.sl (tk _))) led_nil)) ?_; conv => arg 4; cbv)
    clear HI HS HE HC
    refine Sat.rel HD (fun ret outs hR => ?_)
    obtain ⟨rfl, n, e, rfl, hn⟩ := hR
    have hnl := hn.1
    have hbn : bMasterLog n := smM_b hn (by omega)
    have JI := w_impl_ActivateConfig n e hbn (by omega)
    have JS := w_spec_ActivateConfig n e hbn (by omega)
    have JE := w_impl_EqualMasterLogs (actM n e) (actM n e) (actM_b hbn)
    rw [decide_eq_true rfl] at JE
    have JC := w_impl_ConfigAt n e hbn
    have JD := w_spec_ConfigAt n e hbn
    have JF := w_impl_EqualConfigs (cfgAt n e) (cfgAt n e) (cfgAt_b hbn)
    rw [decide_eq_true rfl] at JF
    have JM := w_impl_IsMasterLog n hbn
    have JN := w_spec_IsMasterLog n hbn
    generalize cfgAt n e = p at *
    generalize cfgOk n e = o1 at *
    generalize actM n e = u at *
    obtain ⟨o4, ho⟩ : ∃ o, o = actOk n e := ⟨_, rfl⟩
    rw [← ho] at JS
    generalize actOk n e = o2 at *
    generalize isMaster n = o3 at *
    conv => arg 4; cbv
    refine Sat.call JI rfl (led_cons (led_m (.sl (tk _))) (led_cons (.same _) led_nil)) ?_
    cases o2 <;> (conv => arg 4; cbv)
    all_goals refine Sat.call JS rfl (led_cons (led_m (.sl (tk _))) (led_cons (.same _) led_nil)) ?_
    all_goals conv => arg 4; cbv
    all_goals refine Sat.call JC rfl (led_cons (led_m (.sl (tk _))) (led_cons (.same _) led_nil)) ?_
    all_goals cases o1 <;> (conv => arg 4; cbv)
    all_goals refine Sat.call JD rfl (led_cons (led_m (.sl (tk _))) (led_cons (.same _) led_nil)) ?_
    all_goals conv => arg 4; cbv
    all_goals subst ho
    all_goals conv => arg 4; cbv
    all_goals refine Sat.call JE rfl (led_cons (led_m (.sl (tk _))) (led_cons (led_m (.sl (tk _))) led_nil)) ?_
    all_goals conv => arg 4; cbv
    all_goals refine Sat.call JF rfl (led_cons (led_c (.sl (tk _)) (.sl (tk _))) (led_cons (led_c (.sl (tk _)) (.sl (tk _))) led_nil)) ?_
    all_goals conv => arg 4; cbv
    all_goals refine Sat.call JM rfl (led_cons (led_m (.sl (tk _))) led_nil) ?_
    all_goals cases o3 <;> (conv => arg 4; cbv)
    all_goals refine Sat.call JN rfl (led_cons (led_m (.sl (tk _))) led_nil) ?_
    all_goals conv => arg 4; cbv
    all_goals exact Sat.done (.same _)

end Go.V.T
