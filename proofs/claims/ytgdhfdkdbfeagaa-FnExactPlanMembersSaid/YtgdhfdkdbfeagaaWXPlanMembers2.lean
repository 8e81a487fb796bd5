/- Contracts of the functions that FnExactPlanMembers reaches: what each returns. Conditions: those that each theorem states. -/
import Derived.Test.YtgdhfdkdbfeagaaWXPlanMembers1
namespace Go.V.T
open Go Go.V Go.RowKit
set_option maxRecDepth 100000
set_option linter.unusedVariables false
set_option linter.unusedSimpArgs false
theorem w_impl_CommonServers (a b : List Int) (ha : a.length ≤ 12) (hb : bIntS b) : Fn Pr n_impl_CommonServers [.sl 1 (encI .i64) (fun _ => a), .sl 1 (encI .i64) (fun _ => b)] (.sl 1 (encI .i64) (fun _ => common a b)) := by
  have hw : bIntS (without a b) := by have := without_len (a := a) (b := b); show (without a b).length * 8 ≤ _; omega
  refine k_impl_CommonServers.fn (by kernel_rfl) ?_
  conv => arg 4; cbv
  repeat' first
    | (refine Sat.cmp (fun h => ?_) (fun h => ?_) <;> simp only [Cmp.holds] at h <;> (conv => arg 4; cbv))
    | (refine Sat.callb (w_impl_WithoutServers a b ha hb) rfl (by (repeat' (first | exact led_nil | refine led_cons ?_ ?_ | exact .same _ | exact .int rfl | exact .sl rfl | exact .str rfl | exact .nil rfl | exact .emp rfl | refine .agg rfl ?_ | refine .tup rfl ?_ | (refine .sl ?_; simp; done))); (first | done | fail)) (fun h => ?_) (fun h => ?_) <;> (try simp only [decide_eq_true_eq, decide_eq_false_iff_not] at h) <;> (conv => arg 4; cbv))
    | (refine Sat.call (w_impl_WithoutServers a b ha hb) rfl (by (repeat' (first | exact led_nil | refine led_cons ?_ ?_ | exact .same _ | exact .int rfl | exact .sl rfl | exact .str rfl | exact .nil rfl | exact .emp rfl | refine .agg rfl ?_ | refine .tup rfl ?_ | (refine .sl ?_; simp; done))); (first | done | fail)) ?_; conv => arg 4; cbv)
    | (refine Sat.callb (w_impl_WithoutServers a (without a b) ha hw) rfl (by (repeat' (first | exact led_nil | refine led_cons ?_ ?_ | exact .same _ | exact .int rfl | exact .sl rfl | exact .str rfl | exact .nil rfl | exact .emp rfl | refine .agg rfl ?_ | refine .tup rfl ?_ | (refine .sl ?_; simp; done))); (first | done | fail)) (fun h => ?_) (fun h => ?_) <;> (try simp only [decide_eq_true_eq, decide_eq_false_iff_not] at h) <;> (conv => arg 4; cbv))
    | (refine Sat.call (w_impl_WithoutServers a (without a b) ha hw) rfl (by (repeat' (first | exact led_nil | refine led_cons ?_ ?_ | exact .same _ | exact .int rfl | exact .sl rfl | exact .str rfl | exact .nil rfl | exact .emp rfl | refine .agg rfl ?_ | refine .tup rfl ?_ | (refine .sl ?_; simp; done))); (first | done | fail)) ?_; conv => arg 4; cbv)
    | (refine Sat.need (by (try dsimp only); (first | omega | (simp only [ncast, true_and, List.length_append, List.length_take, List.length_drop, List.length_replicate, List.length_cons, List.length_nil] at *; omega))) ?_; conv => arg 4; cbv)
    | (refine Sat.idxk (by assumption) ?_; conv => arg 4; cbv) | (refine Sat.idx (by (try dsimp only); (first | omega | (simp only [ncast, true_and, List.length_append, List.length_take, List.length_drop, List.length_replicate, List.length_cons, List.length_nil] at *; omega))) (fun v_ hv_ => ?_); conv => arg 4; cbv)
    | (refine Sat.ari64 (by (try dsimp only); (first | omega | (simp only [ncast, true_and, List.length_append, List.length_take, List.length_drop, List.length_replicate, List.length_cons, List.length_nil] at *; omega))) (by (try dsimp only); (first | omega | (simp only [ncast, true_and, List.length_append, List.length_take, List.length_drop, List.length_replicate, List.length_cons, List.length_nil] at *; omega))) ?_; conv => arg 4; cbv)
    | (refine Sat.pop ?_; conv => arg 4; cbv)
    | refine Sat.done ?_
  all_goals refine .sl ?_
  all_goals simp [common_without]

def rackAt (l : List GPlace) (x : Int) : Int := match l[x.toNat]? with | some p => p.Rack | none => 0
def loadAt (l : List GPlace) (x : Int) : Int := match l[x.toNat]? with | some p => p.Load | none => 0
theorem rackAt_get {l : List GPlace} {x : Int} {p : GPlace} (h : l[x.toNat]? = some p) : p.Rack = rackAt l x := by rw [rackAt, h]
theorem loadAt_get {l : List GPlace} {x : Int} {p : GPlace} (h : l[x.toNat]? = some p) : p.Load = loadAt l x := by rw [loadAt, h]
def racks (l : List GPlace) (m : List Int) : List Int := if arePlaces l = true ∧ areServers m = true then asc (m.map (rackAt l)) else []
theorem racks_len {l : List GPlace} {m : List Int} : (racks l m).length ≤ m.length := by
  unfold racks
  split
  · exact Nat.le_trans (asc_len _) (by simp)
  · simp

set_option maxHeartbeats 1000000 in
theorem w_impl_RacksOf (l : List GPlace) (m : List Int) (hb : bPlaceS l) (hm : bIntS m) : Fn Pr n_impl_RacksOf [.sl 3 eGPlace (fun _ => l), .sl 1 (encI .i64) (fun _ => m)] (.sl 1 (encI .i64) (fun _ => racks l m)) := by
  have HP := w_impl_ArePlaces l hb
  have HS := w_impl_AreServers m hm
  have hlm : m.length * 8 ≤ 140737488351232 := hm
  cases hp : arePlaces l
  · rw [hp] at HP
    refine k_impl_RacksOf.fn (by kernel_rfl) ?_
    conv => arg 4; cbv
    repeat' first
      | (refine Sat.cmp (fun h => ?_) (fun h => ?_) <;> simp only [Cmp.holds] at h <;> (conv => arg 4; cbv))
      | (refine Sat.call HP rfl (by (repeat' (first | exact led_nil | refine led_cons ?_ ?_ | exact .same _ | exact .int rfl | exact .sl rfl | exact .str rfl | exact .nil rfl | exact .emp rfl | refine .agg rfl ?_ | refine .tup rfl ?_ | (refine .sl ?_; simp; done))); (first | done | fail)) ?_; conv => arg 4; cbv)
      | (refine Sat.call HS rfl (by (repeat' (first | exact led_nil | refine led_cons ?_ ?_ | exact .same _ | exact .int rfl | exact .sl rfl | exact .str rfl | exact .nil rfl | exact .emp rfl | refine .agg rfl ?_ | refine .tup rfl ?_ | (refine .sl ?_; simp; done))); (first | done | fail)) ?_; conv => arg 4; cbv)
      | (refine Sat.need (by (try dsimp only); (first | omega | (simp only [ncast, true_and, List.length_append, List.length_take, List.length_drop, List.length_replicate, List.length_cons, List.length_nil] at *; omega))) ?_; conv => arg 4; cbv)
      | (refine Sat.idxk (by assumption) ?_; conv => arg 4; cbv) | (refine Sat.idx (by (try dsimp only); (first | omega | (simp only [ncast, true_and, List.length_append, List.length_take, List.length_drop, List.length_replicate, List.length_cons, List.length_nil] at *; omega))) (fun v_ hv_ => ?_); conv => arg 4; cbv)
      | (refine Sat.ari64 (by (try dsimp only); (first | omega | (simp only [ncast, true_and, List.length_append, List.length_take, List.length_drop, List.length_replicate, List.length_cons, List.length_nil] at *; omega))) (by (try dsimp only); (first | omega | (simp only [ncast, true_and, List.length_append, List.length_take, List.length_drop, List.length_replicate, List.length_cons, List.length_nil] at *; omega))) ?_; conv => arg 4; cbv)
      | (refine Sat.pop ?_; conv => arg 4; cbv)
      | refine Sat.done ?_
    exact .emp (by simp [racks, hp])
  cases hs : areServers m
  · rw [hp] at HP
    rw [hs] at HS
    refine k_impl_RacksOf.fn (by kernel_rfl) ?_
    conv => arg 4; cbv
    repeat' first
      | (refine Sat.cmp (fun h => ?_) (fun h => ?_) <;> simp only [Cmp.holds] at h <;> (conv => arg 4; cbv))
      | (refine Sat.call HP rfl (by (repeat' (first | exact led_nil | refine led_cons ?_ ?_ | exact .same _ | exact .int rfl | exact .sl rfl | exact .str rfl | exact .nil rfl | exact .emp rfl | refine .agg rfl ?_ | refine .tup rfl ?_ | (refine .sl ?_; simp; done))); (first | done | fail)) ?_; conv => arg 4; cbv)
      | (refine Sat.call HS rfl (by (repeat' (first | exact led_nil | refine led_cons ?_ ?_ | exact .same _ | exact .int rfl | exact .sl rfl | exact .str rfl | exact .nil rfl | exact .emp rfl | refine .agg rfl ?_ | refine .tup rfl ?_ | (refine .sl ?_; simp; done))); (first | done | fail)) ?_; conv => arg 4; cbv)
      | (refine Sat.need (by (try dsimp only); (first | omega | (simp only [ncast, true_and, List.length_append, List.length_take, List.length_drop, List.length_replicate, List.length_cons, List.length_nil] at *; omega))) ?_; conv => arg 4; cbv)
      | (refine Sat.idxk (by assumption) ?_; conv => arg 4; cbv) | (refine Sat.idx (by (try dsimp only); (first | omega | (simp only [ncast, true_and, List.length_append, List.length_take, List.length_drop, List.length_replicate, List.length_cons, List.length_nil] at *; omega))) (fun v_ hv_ => ?_); conv => arg 4; cbv)
      | (refine Sat.ari64 (by (try dsimp only); (first | omega | (simp only [ncast, true_and, List.length_append, List.length_take, List.length_drop, List.length_replicate, List.length_cons, List.length_nil] at *; omega))) (by (try dsimp only); (first | omega | (simp only [ncast, true_and, List.length_append, List.length_take, List.length_drop, List.length_replicate, List.length_cons, List.length_nil] at *; omega))) ?_; conv => arg 4; cbv)
      | (refine Sat.pop ?_; conv => arg 4; cbv)
      | refine Sat.done ?_
    exact .emp (by simp [racks, hs])
  rw [hp] at HP
  rw [hs] at HS
  have h5 := arePlaces_len hp
  have hml := areServers_len hs
  have hrg := areServers_rng hs
  refine k_impl_RacksOf.fn (by kernel_rfl) ?_
  conv => arg 4; cbv
  refine Sat.call HP rfl (by (repeat' (first | exact led_nil | refine led_cons ?_ ?_ | exact .same _ | exact .int rfl | exact .sl rfl | exact .str rfl | exact .nil rfl | exact .emp rfl | refine .agg rfl ?_ | refine .tup rfl ?_ | (refine .sl ?_; simp; done))); (first | done | fail)) ?_
  conv => arg 4; cbv
  refine Sat.call HS rfl (by (repeat' (first | exact led_nil | refine led_cons ?_ ?_ | exact .same _ | exact .int rfl | exact .sl rfl | exact .str rfl | exact .nil rfl | exact .emp rfl | refine .agg rfl ?_ | refine .tup rfl ?_ | (refine .sl ?_; simp; done))); (first | done | fail)) ?_
  conv => arg 4; cbv
  refine Sat.loopP (ι := Nat) (fun i => [(20, .int .i64 (fun _ => (i : Int))), (5, .ref 224 (fun _ => 0) (fun _ => ((m.take i).map (rackAt l)).length))]) (fun i => [(224, .row 1 (encI .i64) (fun _ => (m.take i).map (rackAt l)) false)]) (fun i => i ≤ m.length) (fun i => m.length - i) 0 ?_ (by omega) (fun i hi => ?_)
  · refine les_of ?_ ?_ rfl
    · repeat' (first | exact trivial | refine And.intro ?_ ?_ | exact .any _ | exact .undef | exact .bo _ | exact .nil | exact .emp | exact .int rfl | exact .sl rfl | exact .str rfl | exact .ptr (fun h => nomatch h) | exact .rptr _ | exact .clo rfl (fun i x y h => by simp at h) | exact .ref (fun h => nomatch h) (fun h => nomatch h) rfl rfl | exact lev_nil | refine lev_cons ?_ ?_ | refine LeV.agg rfl ?_ | (first | exact .empref (fun h => nomatch h) rfl rfl rfl | rfl))
    · repeat' (first | exact trivial | refine And.intro ?_ ?_ | exact Nat.le_of_ble_eq_true rfl | exact Or.inl ⟨_, rfl, .row rfl⟩ | refine Or.inl ⟨_, rfl, .row ?_⟩ | refine Or.inl ⟨_, rfl, .lit rfl ?_⟩ | exact Or.inr ⟨rfl, rfl⟩ | exact .any _ | exact .undef | exact .bo _ | exact .nil | exact .emp | exact .int rfl | exact .sl rfl | exact .str rfl | exact .ptr (fun h => nomatch h) | exact .rptr _ | exact .clo rfl (fun i x y h => by simp at h) | exact .ref (fun h => nomatch h) (fun h => nomatch h) rfl rfl | exact lev_nil | refine lev_cons ?_ ?_ | refine LeV.agg rfl ?_ | (first | exact .empref (fun h => nomatch h) rfl rfl rfl | rfl))
  conv => arg 4; cbv
  repeat' first
    | (refine Sat.cmp (fun h => ?_) (fun h => ?_) <;> simp only [Cmp.holds] at h <;> (conv => arg 4; cbv))
    | (refine Sat.need ⟨rfl, fun y _ => flat_encI .i64 y, by (try dsimp only); simp only [List.length_map, List.length_take, List.length_cons, List.length_nil]; (first | omega | (simp only [ncast, true_and, List.length_append, List.length_take, List.length_drop, List.length_replicate, List.length_cons, List.length_nil] at *; omega))⟩ ?_; conv => arg 4; cbv)
    | (refine Sat.need (by (try dsimp only); (first | omega | (simp only [ncast, true_and, List.length_append, List.length_take, List.length_drop, List.length_replicate, List.length_cons, List.length_nil] at *; omega))) ?_; conv => arg 4; cbv)
    | (refine Sat.need (by have := hrg v_ (List.mem_of_getElem? hv_); (try dsimp only); (first | omega | (simp only [ncast, true_and, List.length_append, List.length_take, List.length_drop, List.length_replicate, List.length_cons, List.length_nil] at *; omega))) ?_; conv => arg 4; cbv)
    | (refine Sat.idx (by (try dsimp only); (first | omega | (simp only [ncast, true_and, List.length_append, List.length_take, List.length_drop, List.length_replicate, List.length_cons, List.length_nil] at *; omega))) (fun v_ hv_ => ?_); conv => arg 4; cbv)
    | (refine Sat.idx (by have := hrg v_ (List.mem_of_getElem? hv_); (try dsimp only); (first | omega | (simp only [ncast, true_and, List.length_append, List.length_take, List.length_drop, List.length_replicate, List.length_cons, List.length_nil] at *; omega))) (fun w_ hw_ => ?_); conv => arg 4; cbv)
    | (refine Sat.same ?_; conv => arg 4; cbv)
    | (refine Sat.ari64 (by (try dsimp only); (first | omega | (simp only [ncast, true_and, List.length_append, List.length_take, List.length_drop, List.length_replicate, List.length_cons, List.length_nil] at *; omega))) (by (try dsimp only); (first | omega | (simp only [ncast, true_and, List.length_append, List.length_take, List.length_drop, List.length_replicate, List.length_cons, List.length_nil] at *; omega))) ?_; conv => arg 4; cbv)
    | (refine Sat.pop ?_; conv => arg 4; cbv)
    | (refine Sat.call (w_impl_ascending ((m.take i).map (rackAt l)) (by simp; omega)) rfl (by (repeat' (first | exact led_nil | refine led_cons ?_ ?_ | exact .same _ | exact .int rfl | exact .sl rfl | exact .str rfl | exact .nil rfl | exact .emp rfl | refine .agg rfl ?_ | refine .tup rfl ?_ | (refine .sl ?_; simp; done))); (first | done | fail)) ?_; conv => arg 4; cbv)
    | refine Sat.next (i + 1) ?_ (by (first | omega | (simp only [ncast, true_and, List.length_append, List.length_take, List.length_drop, List.length_replicate, List.length_cons, List.length_nil] at *; omega))) (by (first | omega | (simp only [ncast, true_and, List.length_append, List.length_take, List.length_drop, List.length_replicate, List.length_cons, List.length_nil] at *; omega)))
    | refine Sat.done ?_
  · have hs : (m.take (i + 1)).map (rackAt l) = (m.take i).map (rackAt l) ++ [w_.Rack] := by
      rw [List.take_add_one, show m[i]? = some v_ from hv_, rackAt_get hw_]
      simp
    refine les_of ?_ ?_ rfl
    · repeat' (first | exact trivial | refine And.intro ?_ ?_ | exact .any _ | exact .undef | exact .bo _ | exact .nil | exact .emp | exact .int rfl | exact .sl rfl | exact .str rfl | exact .ptr (fun h => nomatch h) | exact .rptr _ | exact .clo rfl (fun i x y h => by simp at h) | exact .ref (fun h => nomatch h) (fun h => nomatch h) rfl rfl | exact lev_nil | refine lev_cons ?_ ?_ | refine LeV.agg rfl ?_ | (first | exact .ref (fun h => nomatch h) (fun h => nomatch h) rfl (by (try dsimp only); rw [hs]; simp) | (rw [hs]; simp; done)))
    · repeat' (first | exact trivial | refine And.intro ?_ ?_ | exact Nat.le_of_ble_eq_true rfl | exact Or.inl ⟨_, rfl, .row rfl⟩ | refine Or.inl ⟨_, rfl, .row ?_⟩ | refine Or.inl ⟨_, rfl, .lit rfl ?_⟩ | exact Or.inr ⟨rfl, rfl⟩ | exact .any _ | exact .undef | exact .bo _ | exact .nil | exact .emp | exact .int rfl | exact .sl rfl | exact .str rfl | exact .ptr (fun h => nomatch h) | exact .rptr _ | exact .clo rfl (fun i x y h => by simp at h) | exact .ref (fun h => nomatch h) (fun h => nomatch h) rfl rfl | exact lev_nil | refine lev_cons ?_ ?_ | refine LeV.agg rfl ?_ | (first | exact .ref (fun h => nomatch h) (fun h => nomatch h) rfl (by (try dsimp only); rw [hs]; simp) | (rw [hs]; simp; done)))
  · refine .sl ?_
    have e : i = m.length := by (first | omega | (simp only [ncast, true_and, List.length_append, List.length_take, List.length_drop, List.length_replicate, List.length_cons, List.length_nil] at *; omega))
    subst e
    simp [racks, hp, hs]

set_option maxHeartbeats 1000000 in
theorem w_spec_RacksOf (l : List GPlace) (m : List Int) (hb : bPlaceS l) (hm : bIntS m) : Fn Pr n_spec_RacksOf [.sl 3 eGPlace (fun _ => l), .sl 1 (encI .i64) (fun _ => m)] (.sl 1 (encI .i64) (fun _ => racks l m)) := by
  have HP := w_spec_ArePlaces l hb
  have HS := w_spec_AreServers m hm
  have hlm : m.length * 8 ≤ 140737488351232 := hm
  by_cases hv : arePlaces l = true ∧ areServers m = true
  · obtain ⟨hp, hs⟩ := hv
    rw [hp] at HP
    rw [hs] at HS
    have h5 := arePlaces_len hp
    have hml := areServers_len hs
    have hrg := areServers_rng hs
    have hla : ∀ i, (asc ((m.take i).map (rackAt l))).length ≤ m.length := fun i => Nat.le_trans (asc_len _) (by simp; omega)
    refine k_spec_RacksOf.fn (by kernel_rfl) ?_
    conv => arg 4; cbv
    refine Sat.loopP (ι := Nat) (fun i => [(6, .int .i64 (fun _ => (i : Int))), (5, .ref 64 (fun _ => 0) (fun _ => (asc ((m.take i).map (rackAt l))).length))]) (fun i => [(64, .row 1 (encI .i64) (fun _ => asc ((m.take i).map (rackAt l))) false)]) (fun i => i ≤ m.length) (fun i => m.length - i) 0 ?_ (by omega) (fun i hi => ?_)
    · refine les_of ?_ ?_ rfl
      · repeat' (first | exact trivial | refine And.intro ?_ ?_ | exact .any _ | exact .undef | exact .bo _ | exact .nil | exact .emp | exact .int rfl | exact .sl rfl | exact .str rfl | exact .ptr (fun h => nomatch h) | exact .rptr _ | exact .clo rfl (fun i x y h => by simp at h) | exact .ref (fun h => nomatch h) (fun h => nomatch h) rfl rfl | exact lev_nil | refine lev_cons ?_ ?_ | refine LeV.agg rfl ?_ | (first | exact .empref (fun h => nomatch h) rfl rfl rfl | rfl))
      · repeat' (first | exact trivial | refine And.intro ?_ ?_ | exact Nat.le_of_ble_eq_true rfl | exact Or.inl ⟨_, rfl, .row rfl⟩ | refine Or.inl ⟨_, rfl, .row ?_⟩ | refine Or.inl ⟨_, rfl, .lit rfl ?_⟩ | exact Or.inr ⟨rfl, rfl⟩ | exact .any _ | exact .undef | exact .bo _ | exact .nil | exact .emp | exact .int rfl | exact .sl rfl | exact .str rfl | exact .ptr (fun h => nomatch h) | exact .rptr _ | exact .clo rfl (fun i x y h => by simp at h) | exact .ref (fun h => nomatch h) (fun h => nomatch h) rfl rfl | exact lev_nil | refine lev_cons ?_ ?_ | refine LeV.agg rfl ?_ | (first | exact .empref (fun h => nomatch h) rfl rfl rfl | rfl))
    have hl := hla i
    conv => arg 4; cbv
    repeat' first
      | (refine Sat.cmp (fun h => ?_) (fun h => ?_) <;> simp only [Cmp.holds] at h <;> (conv => arg 4; cbv))
      | (refine Sat.call HP rfl (by (repeat' (first | exact led_nil | refine led_cons ?_ ?_ | exact .same _ | exact .int rfl | exact .sl rfl | exact .str rfl | exact .nil rfl | exact .emp rfl | refine .agg rfl ?_ | refine .tup rfl ?_ | (refine .sl ?_; simp; done))); (first | done | fail)) ?_; conv => arg 4; cbv)
      | (refine Sat.call HS rfl (by (repeat' (first | exact led_nil | refine led_cons ?_ ?_ | exact .same _ | exact .int rfl | exact .sl rfl | exact .str rfl | exact .nil rfl | exact .emp rfl | refine .agg rfl ?_ | refine .tup rfl ?_ | (refine .sl ?_; simp; done))); (first | done | fail)) ?_; conv => arg 4; cbv)
      | (refine Sat.need (by (try dsimp only); (first | omega | (simp only [ncast, true_and, List.length_append, List.length_take, List.length_drop, List.length_replicate, List.length_cons, List.length_nil] at *; omega))) ?_; conv => arg 4; cbv)
      | (refine Sat.need (by have := hrg v_ (List.mem_of_getElem? hv_); (try dsimp only); (first | omega | (simp only [ncast, true_and, List.length_append, List.length_take, List.length_drop, List.length_replicate, List.length_cons, List.length_nil] at *; omega))) ?_; conv => arg 4; cbv)
      | (refine Sat.idx (by (try dsimp only); (first | omega | (simp only [ncast, true_and, List.length_append, List.length_take, List.length_drop, List.length_replicate, List.length_cons, List.length_nil] at *; omega))) (fun v_ hv_ => ?_); conv => arg 4; cbv)
      | (refine Sat.idx (by have := hrg v_ (List.mem_of_getElem? hv_); (try dsimp only); (first | omega | (simp only [ncast, true_and, List.length_append, List.length_take, List.length_drop, List.length_replicate, List.length_cons, List.length_nil] at *; omega))) (fun w_ hw_ => ?_); conv => arg 4; cbv)
      | (refine Sat.call (w_spec_l2Put (asc ((m.take i).map (rackAt l))) _ (by omega)) rfl (by (repeat' (first | exact led_nil | refine led_cons ?_ ?_ | exact .same _ | exact .int rfl | exact .sl rfl | exact .str rfl | exact .nil rfl | exact .emp rfl | refine .agg rfl ?_ | refine .tup rfl ?_ | (refine .sl ?_; simp; done))); (first | done | fail)) ?_; conv => arg 4; cbv)
      | (refine Sat.ari64 (by (try dsimp only); (first | omega | (simp only [ncast, true_and, List.length_append, List.length_take, List.length_drop, List.length_replicate, List.length_cons, List.length_nil] at *; omega))) (by (try dsimp only); (first | omega | (simp only [ncast, true_and, List.length_append, List.length_take, List.length_drop, List.length_replicate, List.length_cons, List.length_nil] at *; omega))) ?_; conv => arg 4; cbv)
      | (refine Sat.pop ?_; conv => arg 4; cbv)
      | refine Sat.nextR 401 64 (i + 1) rfl rfl rfl rfl ?_ (by (first | omega | (simp only [ncast, true_and, List.length_append, List.length_take, List.length_drop, List.length_replicate, List.length_cons, List.length_nil] at *; omega))) (by (first | omega | (simp only [ncast, true_and, List.length_append, List.length_take, List.length_drop, List.length_replicate, List.length_cons, List.length_nil] at *; omega)))
      | refine Sat.done ?_
    · have hs : asc ((m.take (i + 1)).map (rackAt l)) = put w_.Rack (asc ((m.take i).map (rackAt l))) := by
        rw [put_asc, List.take_add_one, show m[i]? = some v_ from hv_, rackAt_get hw_]
        simp
      refine les_of ?_ ?_ rfl
      · repeat' (first | exact trivial | refine And.intro ?_ ?_ | exact .any _ | exact .undef | exact .bo _ | exact .nil | exact .emp | exact .int rfl | exact .sl rfl | exact .str rfl | exact .ptr (fun h => nomatch h) | exact .rptr _ | exact .clo rfl (fun i x y h => by simp at h) | exact .ref (fun h => nomatch h) (fun h => nomatch h) rfl rfl | exact lev_nil | refine lev_cons ?_ ?_ | refine LeV.agg rfl ?_ | (first | exact .ref (fun h => nomatch h) (fun h => nomatch h) rfl (by (try dsimp only); rw [hs]) | (show put w_.Rack (asc ((m.take i).map (rackAt l))) = asc ((m.take (i + 1)).map (rackAt l)); rw [hs])))
      · repeat' (first | exact trivial | refine And.intro ?_ ?_ | exact Nat.le_of_ble_eq_true rfl | exact Or.inl ⟨_, rfl, .row rfl⟩ | refine Or.inl ⟨_, rfl, .row ?_⟩ | refine Or.inl ⟨_, rfl, .lit rfl ?_⟩ | exact Or.inr ⟨rfl, rfl⟩ | exact .any _ | exact .undef | exact .bo _ | exact .nil | exact .emp | exact .int rfl | exact .sl rfl | exact .str rfl | exact .ptr (fun h => nomatch h) | exact .rptr _ | exact .clo rfl (fun i x y h => by simp at h) | exact .ref (fun h => nomatch h) (fun h => nomatch h) rfl rfl | exact lev_nil | refine lev_cons ?_ ?_ | refine LeV.agg rfl ?_ | (first | exact .ref (fun h => nomatch h) (fun h => nomatch h) rfl (by (try dsimp only); rw [hs]) | (show put w_.Rack (asc ((m.take i).map (rackAt l))) = asc ((m.take (i + 1)).map (rackAt l)); rw [hs])))
    · refine .sl ?_
      have e : i = m.length := by (first | omega | (simp only [ncast, true_and, List.length_append, List.length_take, List.length_drop, List.length_replicate, List.length_cons, List.length_nil] at *; omega))
      subst e
      simp [racks, hp, hs]
  · refine k_spec_RacksOf.fn (by kernel_rfl) ?_
    have hr : racks l m = [] := by rw [racks, if_neg hv]
    conv => arg 4; cbv
    refine Sat.loopP (ι := Unit) (fun i => [(6, .int .i64 (fun _ => 0))]) (fun i => []) (fun i => True) (fun i => 0) () ?_ trivial (fun i hi => ?_)
    · refine les_of ?_ ?_ rfl
      · repeat' (first | exact trivial | refine And.intro ?_ ?_ | exact .any _ | exact .undef | exact .bo _ | exact .nil | exact .emp | exact .int rfl | exact .sl rfl | exact .str rfl | exact .ptr (fun h => nomatch h) | exact .rptr _ | exact .clo rfl (fun i x y h => by simp at h) | exact .ref (fun h => nomatch h) (fun h => nomatch h) rfl rfl | exact lev_nil | refine lev_cons ?_ ?_ | refine LeV.agg rfl ?_)
      · repeat' (first | exact trivial | refine And.intro ?_ ?_ | exact Nat.le_of_ble_eq_true rfl | exact Or.inl ⟨_, rfl, .row rfl⟩ | refine Or.inl ⟨_, rfl, .row ?_⟩ | refine Or.inl ⟨_, rfl, .lit rfl ?_⟩ | exact Or.inr ⟨rfl, rfl⟩ | exact .any _ | exact .undef | exact .bo _ | exact .nil | exact .emp | exact .int rfl | exact .sl rfl | exact .str rfl | exact .ptr (fun h => nomatch h) | exact .rptr _ | exact .clo rfl (fun i x y h => by simp at h) | exact .ref (fun h => nomatch h) (fun h => nomatch h) rfl rfl | exact lev_nil | refine lev_cons ?_ ?_ | refine LeV.agg rfl ?_)
    conv => arg 4; cbv
    repeat' first
      | (refine Sat.cmp (fun h => ?_) (fun h => ?_) <;> simp only [Cmp.holds] at h <;> (conv => arg 4; cbv))
      | (refine Sat.callb HP rfl (by (repeat' (first | exact led_nil | refine led_cons ?_ ?_ | exact .same _ | exact .int rfl | exact .sl rfl | exact .str rfl | exact .nil rfl | exact .emp rfl | refine .agg rfl ?_ | refine .tup rfl ?_ | (refine .sl ?_; simp; done))); (first | done | fail)) (fun h => ?_) (fun h => ?_) <;> (conv => arg 4; cbv))
      | (refine Sat.callb HS rfl (by (repeat' (first | exact led_nil | refine led_cons ?_ ?_ | exact .same _ | exact .int rfl | exact .sl rfl | exact .str rfl | exact .nil rfl | exact .emp rfl | refine .agg rfl ?_ | refine .tup rfl ?_ | (refine .sl ?_; simp; done))); (first | done | fail)) (fun h => ?_) (fun h => ?_) <;> (conv => arg 4; cbv))
      | (exfalso; exact hv ⟨by assumption, by assumption⟩)
      | (refine Sat.pop ?_; conv => arg 4; cbv)
      | refine Sat.done ?_
    all_goals exact .emp (by rw [hr])

/-- Whether server a is a better spare than b. -/
def better (l : List GPlace) (rk : List Int) (a b : Int) : Bool := if decide (rackAt l a ∈ rk) = decide (rackAt l b ∈ rk) then decide (loadAt l a < loadAt l b) else decide (rackAt l b ∈ rk)
def spareStep (l : List GPlace) (m av rk : List Int) (best i : Int) : Int := if hasRoom l i = true ∧ i ∉ m ∧ i ∉ av then (if best < 0 then i else if better l rk i best = true then i else best) else best
def spareAt (l : List GPlace) (m av rk : List Int) : Nat → Int
  | 0 => -1
  | i + 1 => spareStep l m av rk (spareAt l m av rk i) i
def pickSpare (l : List GPlace) (m av : List Int) : Int := if areServers m = true then spareAt l m av (racks l m) 5 else -1
theorem hasRoom_places {l : List GPlace} {i : Int} (h : hasRoom l i = true) : arePlaces l = true := by
  simp only [hasRoom, Bool.and_eq_true] at h
  exact h.1.1
theorem spareAt_rng {l : List GPlace} {m av rk : List Int} : ∀ {i : Nat}, spareAt l m av rk i = -1 ∨ (0 ≤ spareAt l m av rk i ∧ spareAt l m av rk i < i ∧ arePlaces l = true)
  | 0 => .inl rfl
  | i + 1 => by
    have ih := spareAt_rng (l := l) (m := m) (av := av) (rk := rk) (i := i)
    rw [spareAt, spareStep]
    split
    · rename_i h
      have hp := hasRoom_places h.1
      split
      · exact .inr ⟨by omega, by omega, hp⟩
      · split
        · exact .inr ⟨by omega, by omega, hp⟩
        · rcases ih with ih | ih
          · exact .inl ih
          · exact .inr ⟨ih.1, by omega, hp⟩
    · rcases ih with ih | ih
      · exact .inl ih
      · exact .inr ⟨ih.1, by omega, ih.2.2⟩
theorem spare_skip1 {l : List GPlace} {m av rk : List Int} {i : Nat} (h : (i : Int) ∈ m) : spareAt l m av rk i = spareAt l m av rk (i + 1) := by rw [spareAt, spareStep, if_neg (fun q => q.2.1 h)]
theorem spare_skip2 {l : List GPlace} {m av rk : List Int} {i : Nat} (h : (i : Int) ∈ av) : spareAt l m av rk i = spareAt l m av rk (i + 1) := by rw [spareAt, spareStep, if_neg (fun q => q.2.2 h)]
theorem spare_skip3 {l : List GPlace} {m av rk : List Int} {i : Nat} (h : hasRoom l i = false) : spareAt l m av rk i = spareAt l m av rk (i + 1) := by rw [spareAt, spareStep, if_neg (fun q => by rw [h] at q; exact absurd q.1 (by simp))]
theorem spare_new {l : List GPlace} {m av rk : List Int} {i : Nat} (h1 : hasRoom l i = true) (h2 : (i : Int) ∉ m) (h3 : (i : Int) ∉ av) (h4 : spareAt l m av rk i < 0) : (i : Int) = spareAt l m av rk (i + 1) := by rw [spareAt, spareStep, if_pos ⟨h1, h2, h3⟩, if_pos h4]
theorem spare_better {l : List GPlace} {m av rk : List Int} {i : Nat} (h1 : hasRoom l i = true) (h2 : (i : Int) ∉ m) (h3 : (i : Int) ∉ av) (h4 : ¬ spareAt l m av rk i < 0) (h5 : better l rk i (spareAt l m av rk i) = true) : (i : Int) = spareAt l m av rk (i + 1) := by rw [spareAt, spareStep, if_pos ⟨h1, h2, h3⟩, if_neg h4, if_pos h5]
theorem spare_keep {l : List GPlace} {m av rk : List Int} {i : Nat} (h1 : hasRoom l i = true) (h2 : (i : Int) ∉ m) (h3 : (i : Int) ∉ av) (h4 : ¬ spareAt l m av rk i < 0) (h5 : better l rk i (spareAt l m av rk i) = false) : spareAt l m av rk i = spareAt l m av rk (i + 1) := by rw [spareAt, spareStep, if_pos ⟨h1, h2, h3⟩, if_neg h4, if_neg (by rw [h5]; simp)]

theorem w_spec_l9Better (l : List GPlace) (rk : List Int) (a b : Int) (hb : bPlaceS l) (hr : bIntS rk) (h5 : l.length = 5) (ha : 0 ≤ a ∧ a ≤ 4) (hb2 : 0 ≤ b ∧ b ≤ 4) : Fn Pr n_spec_l9Better [.sl 3 eGPlace (fun _ => l), .sl 1 (encI .i64) (fun _ => rk), .int .i64 (fun _ => a), .int .i64 (fun _ => b)] (.bo (better l rk a b)) := by
  obtain ⟨pa, hpa⟩ : ∃ p, l[a.toNat]? = some p := ⟨_, List.getElem?_eq_getElem (by omega)⟩
  obtain ⟨pb, hpb⟩ : ∃ p, l[b.toNat]? = some p := ⟨_, List.getElem?_eq_getElem (by omega)⟩
  have ra := rackAt_get hpa
  have rb := rackAt_get hpb
  have la := loadAt_get hpa
  have lb := loadAt_get hpb
  refine k_spec_l9Better.fn (by kernel_rfl) ?_
  conv => arg 4; cbv
  repeat' first
    | (refine Sat.cmp (fun h => ?_) (fun h => ?_) <;> simp only [Cmp.holds] at h <;> (conv => arg 4; cbv))
    | (refine Sat.need (by (try dsimp only); (first | omega | (simp only [ncast, true_and, List.length_append, List.length_take, List.length_drop, List.length_replicate, List.length_cons, List.length_nil] at *; omega))) ?_; conv => arg 4; cbv)
    | (refine Sat.idxk hpa ?_; conv => arg 4; cbv)
    | (refine Sat.idxk hpb ?_; conv => arg 4; cbv)
    | (refine Sat.callb (w_spec_HasServer rk _ hr) rfl (by (repeat' (first | exact led_nil | refine led_cons ?_ ?_ | exact .same _ | exact .int rfl | exact .sl rfl | exact .str rfl | exact .nil rfl | exact .emp rfl | refine .agg rfl ?_ | refine .tup rfl ?_ | (refine .sl ?_; simp; done))); (first | done | fail)) (fun h => ?_) (fun h => ?_) <;> (try simp only [decide_eq_true_eq, decide_eq_false_iff_not] at h) <;> (conv => arg 4; cbv))
    | refine Sat.done ?_
  all_goals refine led_bo ?_
  all_goals simp_all [better]

set_option maxHeartbeats 2000000 in
theorem w_spec_PickSpare (l : List GPlace) (m av : List Int) (hb : bPlaceS l) (hm : bIntS m) (ha : bIntS av) : Fn Pr n_spec_PickSpare [.sl 3 eGPlace (fun _ => l), .sl 1 (encI .i64) (fun _ => m), .sl 1 (encI .i64) (fun _ => av)] (.int .i64 (fun _ => pickSpare l m av)) := by
  have HS := w_spec_AreServers m hm
  have hrk : bIntS (racks l m) := by have := racks_len (l := l) (m := m); have : m.length * 8 ≤ 140737488351232 := hm; show (racks l m).length * 8 ≤ _; omega
  cases hs : areServers m
  · rw [hs] at HS
    refine k_spec_PickSpare.fn (by kernel_rfl) ?_
    conv => arg 4; cbv
    refine Sat.call (w_spec_RacksOf l m hb hm) rfl (by (repeat' (first | exact led_nil | refine led_cons ?_ ?_ | exact .same _ | exact .int rfl | exact .sl rfl | exact .str rfl | exact .nil rfl | exact .emp rfl | refine .agg rfl ?_ | refine .tup rfl ?_ | (refine .sl ?_; simp; done))); (first | done | fail)) ?_
    conv => arg 4; cbv
    refine Sat.loopP (ι := Unit) (fun i => []) (fun i => []) (fun i => True) (fun i => 0) () ?_ trivial (fun i hi => ?_)
    · refine les_of ?_ ?_ rfl
      · repeat' (first | exact trivial | refine And.intro ?_ ?_ | exact .any _ | exact .undef | exact .bo _ | exact .nil | exact .emp | exact .int rfl | exact .sl rfl | exact .str rfl | exact .ptr (fun h => nomatch h) | exact .rptr _ | exact .clo rfl (fun i x y h => by simp at h) | exact .ref (fun h => nomatch h) (fun h => nomatch h) rfl rfl | exact lev_nil | refine lev_cons ?_ ?_ | refine LeV.agg rfl ?_)
      · repeat' (first | exact trivial | refine And.intro ?_ ?_ | exact Nat.le_of_ble_eq_true rfl | exact Or.inl ⟨_, rfl, .row rfl⟩ | refine Or.inl ⟨_, rfl, .row ?_⟩ | refine Or.inl ⟨_, rfl, .lit rfl ?_⟩ | exact Or.inr ⟨rfl, rfl⟩ | exact .any _ | exact .undef | exact .bo _ | exact .nil | exact .emp | exact .int rfl | exact .sl rfl | exact .str rfl | exact .ptr (fun h => nomatch h) | exact .rptr _ | exact .clo rfl (fun i x y h => by simp at h) | exact .ref (fun h => nomatch h) (fun h => nomatch h) rfl rfl | exact lev_nil | refine lev_cons ?_ ?_ | refine LeV.agg rfl ?_)
    conv => arg 4; cbv
    repeat' first
      | (refine Sat.cmp (fun h => ?_) (fun h => ?_) <;> simp only [Cmp.holds] at h <;> (conv => arg 4; cbv))
      | (refine Sat.call HS rfl (by (repeat' (first | exact led_nil | refine led_cons ?_ ?_ | exact .same _ | exact .int rfl | exact .sl rfl | exact .str rfl | exact .nil rfl | exact .emp rfl | refine .agg rfl ?_ | refine .tup rfl ?_ | (refine .sl ?_; simp; done))); (first | done | fail)) ?_; conv => arg 4; cbv)
      | (refine Sat.need (by (try dsimp only); (first | omega | (simp only [ncast, true_and, List.length_append, List.length_take, List.length_drop, List.length_replicate, List.length_cons, List.length_nil] at *; omega))) ?_; conv => arg 4; cbv)
      | (refine Sat.idxk (by assumption) ?_; conv => arg 4; cbv) | (refine Sat.idx (by (try dsimp only); (first | omega | (simp only [ncast, true_and, List.length_append, List.length_take, List.length_drop, List.length_replicate, List.length_cons, List.length_nil] at *; omega))) (fun v_ hv_ => ?_); conv => arg 4; cbv)
      | (refine Sat.ari64 (by (try dsimp only); (first | omega | (simp only [ncast, true_and, List.length_append, List.length_take, List.length_drop, List.length_replicate, List.length_cons, List.length_nil] at *; omega))) (by (try dsimp only); (first | omega | (simp only [ncast, true_and, List.length_append, List.length_take, List.length_drop, List.length_replicate, List.length_cons, List.length_nil] at *; omega))) ?_; conv => arg 4; cbv)
      | (refine Sat.pop ?_; conv => arg 4; cbv)
      | refine Sat.done ?_
    all_goals first | exact .int (by simp [pickSpare, hs]) | (exfalso; (first | omega | (simp only [ncast, true_and, List.length_append, List.length_take, List.length_drop, List.length_replicate, List.length_cons, List.length_nil] at *; omega)))
  rw [hs] at HS
  refine k_spec_PickSpare.fn (by kernel_rfl) ?_
  conv => arg 4; cbv
  refine Sat.call (w_spec_RacksOf l m hb hm) rfl (by (repeat' (first | exact led_nil | refine led_cons ?_ ?_ | exact .same _ | exact .int rfl | exact .sl rfl | exact .str rfl | exact .nil rfl | exact .emp rfl | refine .agg rfl ?_ | refine .tup rfl ?_ | (refine .sl ?_; simp; done))); (first | done | fail)) ?_
  conv => arg 4; cbv
  refine Sat.loopP (ι := Nat) (fun i => [(9, .int .i64 (fun _ => (i : Int))), (7, .int .i64 (fun _ => spareAt l m av (racks l m) i))]) (fun i => []) (fun i => i ≤ 5) (fun i => 5 - i) 0 ?_ (by omega) (fun i hi => ?_)
  · refine les_of ?_ ?_ rfl
    · repeat' (first | exact trivial | refine And.intro ?_ ?_ | exact .any _ | exact .undef | exact .bo _ | exact .nil | exact .emp | exact .int rfl | exact .sl rfl | exact .str rfl | exact .ptr (fun h => nomatch h) | exact .rptr _ | exact .clo rfl (fun i x y h => by simp at h) | exact .ref (fun h => nomatch h) (fun h => nomatch h) rfl rfl | exact lev_nil | refine lev_cons ?_ ?_ | refine LeV.agg rfl ?_)
    · repeat' (first | exact trivial | refine And.intro ?_ ?_ | exact Nat.le_of_ble_eq_true rfl | exact Or.inl ⟨_, rfl, .row rfl⟩ | refine Or.inl ⟨_, rfl, .row ?_⟩ | refine Or.inl ⟨_, rfl, .lit rfl ?_⟩ | exact Or.inr ⟨rfl, rfl⟩ | exact .any _ | exact .undef | exact .bo _ | exact .nil | exact .emp | exact .int rfl | exact .sl rfl | exact .str rfl | exact .ptr (fun h => nomatch h) | exact .rptr _ | exact .clo rfl (fun i x y h => by simp at h) | exact .ref (fun h => nomatch h) (fun h => nomatch h) rfl rfl | exact lev_nil | refine lev_cons ?_ ?_ | refine LeV.agg rfl ?_)
  have hrg := spareAt_rng (l := l) (m := m) (av := av) (rk := racks l m) (i := i)
  have h5 : ¬ spareAt l m av (racks l m) i < 0 → l.length = 5 := fun h => arePlaces_len (by rcases hrg with e | e; omega; exact e.2.2)
  conv => arg 4; cbv
  repeat' first
    | (refine Sat.cmp (fun h => ?_) (fun h => ?_) <;> simp only [Cmp.holds] at h <;> (conv => arg 4; cbv))
    | (refine Sat.call HS rfl (by (repeat' (first | exact led_nil | refine led_cons ?_ ?_ | exact .same _ | exact .int rfl | exact .sl rfl | exact .str rfl | exact .nil rfl | exact .emp rfl | refine .agg rfl ?_ | refine .tup rfl ?_ | (refine .sl ?_; simp; done))); (first | done | fail)) ?_; conv => arg 4; cbv)
    | (refine Sat.callb (w_spec_HasRoom l _ hb) rfl (by (repeat' (first | exact led_nil | refine led_cons ?_ ?_ | exact .same _ | exact .int rfl | exact .sl rfl | exact .str rfl | exact .nil rfl | exact .emp rfl | refine .agg rfl ?_ | refine .tup rfl ?_ | (refine .sl ?_; simp; done))); (first | done | fail)) (fun h => ?_) (fun h => ?_) <;> (conv => arg 4; cbv))
    | (refine Sat.callb (w_spec_HasServer m _ hm) rfl (by (repeat' (first | exact led_nil | refine led_cons ?_ ?_ | exact .same _ | exact .int rfl | exact .sl rfl | exact .str rfl | exact .nil rfl | exact .emp rfl | refine .agg rfl ?_ | refine .tup rfl ?_ | (refine .sl ?_; simp; done))); (first | done | fail)) (fun h => ?_) (fun h => ?_) <;> (try simp only [decide_eq_true_eq, decide_eq_false_iff_not] at h) <;> (conv => arg 4; cbv))
    | (refine Sat.callb (w_spec_HasServer av _ ha) rfl (by (repeat' (first | exact led_nil | refine led_cons ?_ ?_ | exact .same _ | exact .int rfl | exact .sl rfl | exact .str rfl | exact .nil rfl | exact .emp rfl | refine .agg rfl ?_ | refine .tup rfl ?_ | (refine .sl ?_; simp; done))); (first | done | fail)) (fun h => ?_) (fun h => ?_) <;> (try simp only [decide_eq_true_eq, decide_eq_false_iff_not] at h) <;> (conv => arg 4; cbv))
    | (refine Sat.callb (w_spec_l9Better l (racks l m) _ _ hb hrk (h5 (by assumption)) (by (first | omega | (simp only [ncast, true_and, List.length_append, List.length_take, List.length_drop, List.length_replicate, List.length_cons, List.length_nil] at *; omega))) (by (first | omega | (simp only [ncast, true_and, List.length_append, List.length_take, List.length_drop, List.length_replicate, List.length_cons, List.length_nil] at *; omega)))) rfl (by (repeat' (first | exact led_nil | refine led_cons ?_ ?_ | exact .same _ | exact .int rfl | exact .sl rfl | exact .str rfl | exact .nil rfl | exact .emp rfl | refine .agg rfl ?_ | refine .tup rfl ?_ | (refine .sl ?_; simp; done))); (first | done | fail)) (fun h => ?_) (fun h => ?_) <;> (conv => arg 4; cbv))
    | (refine Sat.ari64 (by (try dsimp only); (first | omega | (simp only [ncast, true_and, List.length_append, List.length_take, List.length_drop, List.length_replicate, List.length_cons, List.length_nil] at *; omega))) (by (try dsimp only); (first | omega | (simp only [ncast, true_and, List.length_append, List.length_take, List.length_drop, List.length_replicate, List.length_cons, List.length_nil] at *; omega))) ?_; conv => arg 4; cbv)
    | (refine Sat.pop ?_; conv => arg 4; cbv)
    | refine Sat.next (i + 1) ?_ (by (first | omega | (simp only [ncast, true_and, List.length_append, List.length_take, List.length_drop, List.length_replicate, List.length_cons, List.length_nil] at *; omega))) (by (first | omega | (simp only [ncast, true_and, List.length_append, List.length_take, List.length_drop, List.length_replicate, List.length_cons, List.length_nil] at *; omega)))
    | refine Sat.done ?_
  · refine les_of ?_ ?_ rfl
    · repeat' (first | exact trivial | refine And.intro ?_ ?_ | exact .any _ | exact .undef | exact .bo _ | exact .nil | exact .emp | exact .int rfl | exact .sl rfl | exact .str rfl | exact .ptr (fun h => nomatch h) | exact .rptr _ | exact .clo rfl (fun i x y h => by simp at h) | exact .ref (fun h => nomatch h) (fun h => nomatch h) rfl rfl | exact lev_nil | refine lev_cons ?_ ?_ | refine LeV.agg rfl ?_ | (first | exact .int (spare_skip1 (by assumption)) | exact .int (spare_skip2 (by assumption)) | exact .int (spare_skip3 (by assumption)) | exact .int (spare_new (by assumption) (by assumption) (by assumption) (by assumption)) | exact .int (spare_better (by assumption) (by assumption) (by assumption) (by assumption) (by assumption)) | exact .int (spare_keep (by assumption) (by assumption) (by assumption) (by assumption) (by assumption)) | exact .int (by (try dsimp only); (first | omega | (simp only [ncast, true_and, List.length_append, List.length_take, List.length_drop, List.length_replicate, List.length_cons, List.length_nil] at *; omega)))))
    · repeat' (first | exact trivial | refine And.intro ?_ ?_ | exact Nat.le_of_ble_eq_true rfl | exact Or.inl ⟨_, rfl, .row rfl⟩ | refine Or.inl ⟨_, rfl, .row ?_⟩ | refine Or.inl ⟨_, rfl, .lit rfl ?_⟩ | exact Or.inr ⟨rfl, rfl⟩ | exact .any _ | exact .undef | exact .bo _ | exact .nil | exact .emp | exact .int rfl | exact .sl rfl | exact .str rfl | exact .ptr (fun h => nomatch h) | exact .rptr _ | exact .clo rfl (fun i x y h => by simp at h) | exact .ref (fun h => nomatch h) (fun h => nomatch h) rfl rfl | exact lev_nil | refine lev_cons ?_ ?_ | refine LeV.agg rfl ?_ | (first | exact .int (spare_skip1 (by assumption)) | exact .int (spare_skip2 (by assumption)) | exact .int (spare_skip3 (by assumption)) | exact .int (spare_new (by assumption) (by assumption) (by assumption) (by assumption)) | exact .int (spare_better (by assumption) (by assumption) (by assumption) (by assumption) (by assumption)) | exact .int (spare_keep (by assumption) (by assumption) (by assumption) (by assumption) (by assumption)) | exact .int (by (try dsimp only); (first | omega | (simp only [ncast, true_and, List.length_append, List.length_take, List.length_drop, List.length_replicate, List.length_cons, List.length_nil] at *; omega)))))
  · refine les_of ?_ ?_ rfl
    · repeat' (first | exact trivial | refine And.intro ?_ ?_ | exact .any _ | exact .undef | exact .bo _ | exact .nil | exact .emp | exact .int rfl | exact .sl rfl | exact .str rfl | exact .ptr (fun h => nomatch h) | exact .rptr _ | exact .clo rfl (fun i x y h => by simp at h) | exact .ref (fun h => nomatch h) (fun h => nomatch h) rfl rfl | exact lev_nil | refine lev_cons ?_ ?_ | refine LeV.agg rfl ?_ | (first | exact .int (spare_skip1 (by assumption)) | exact .int (spare_skip2 (by assumption)) | exact .int (spare_skip3 (by assumption)) | exact .int (spare_new (by assumption) (by assumption) (by assumption) (by assumption)) | exact .int (spare_better (by assumption) (by assumption) (by assumption) (by assumption) (by assumption)) | exact .int (spare_keep (by assumption) (by assumption) (by assumption) (by assumption) (by assumption)) | exact .int (by (try dsimp only); (first | omega | (simp only [ncast, true_and, List.length_append, List.length_take, List.length_drop, List.length_replicate, List.length_cons, List.length_nil] at *; omega)))))
    · repeat' (first | exact trivial | refine And.intro ?_ ?_ | exact Nat.le_of_ble_eq_true rfl | exact Or.inl ⟨_, rfl, .row rfl⟩ | refine Or.inl ⟨_, rfl, .row ?_⟩ | refine Or.inl ⟨_, rfl, .lit rfl ?_⟩ | exact Or.inr ⟨rfl, rfl⟩ | exact .any _ | exact .undef | exact .bo _ | exact .nil | exact .emp | exact .int rfl | exact .sl rfl | exact .str rfl | exact .ptr (fun h => nomatch h) | exact .rptr _ | exact .clo rfl (fun i x y h => by simp at h) | exact .ref (fun h => nomatch h) (fun h => nomatch h) rfl rfl | exact lev_nil | refine lev_cons ?_ ?_ | refine LeV.agg rfl ?_ | (first | exact .int (spare_skip1 (by assumption)) | exact .int (spare_skip2 (by assumption)) | exact .int (spare_skip3 (by assumption)) | exact .int (spare_new (by assumption) (by assumption) (by assumption) (by assumption)) | exact .int (spare_better (by assumption) (by assumption) (by assumption) (by assumption) (by assumption)) | exact .int (spare_keep (by assumption) (by assumption) (by assumption) (by assumption) (by assumption)) | exact .int (by (try dsimp only); (first | omega | (simp only [ncast, true_and, List.length_append, List.length_take, List.length_drop, List.length_replicate, List.length_cons, List.length_nil] at *; omega)))))
  · refine les_of ?_ ?_ rfl
    · repeat' (first | exact trivial | refine And.intro ?_ ?_ | exact .any _ | exact .undef | exact .bo _ | exact .nil | exact .emp | exact .int rfl | exact .sl rfl | exact .str rfl | exact .ptr (fun h => nomatch h) | exact .rptr _ | exact .clo rfl (fun i x y h => by simp at h) | exact .ref (fun h => nomatch h) (fun h => nomatch h) rfl rfl | exact lev_nil | refine lev_cons ?_ ?_ | refine LeV.agg rfl ?_ | (first | exact .int (spare_skip1 (by assumption)) | exact .int (spare_skip2 (by assumption)) | exact .int (spare_skip3 (by assumption)) | exact .int (spare_new (by assumption) (by assumption) (by assumption) (by assumption)) | exact .int (spare_better (by assumption) (by assumption) (by assumption) (by assumption) (by assumption)) | exact .int (spare_keep (by assumption) (by assumption) (by assumption) (by assumption) (by assumption)) | exact .int (by (try dsimp only); (first | omega | (simp only [ncast, true_and, List.length_append, List.length_take, List.length_drop, List.length_replicate, List.length_cons, List.length_nil] at *; omega)))))
    · repeat' (first | exact trivial | refine And.intro ?_ ?_ | exact Nat.le_of_ble_eq_true rfl | exact Or.inl ⟨_, rfl, .row rfl⟩ | refine Or.inl ⟨_, rfl, .row ?_⟩ | refine Or.inl ⟨_, rfl, .lit rfl ?_⟩ | exact Or.inr ⟨rfl, rfl⟩ | exact .any _ | exact .undef | exact .bo _ | exact .nil | exact .emp | exact .int rfl | exact .sl rfl | exact .str rfl | exact .ptr (fun h => nomatch h) | exact .rptr _ | exact .clo rfl (fun i x y h => by simp at h) | exact .ref (fun h => nomatch h) (fun h => nomatch h) rfl rfl | exact lev_nil | refine lev_cons ?_ ?_ | refine LeV.agg rfl ?_ | (first | exact .int (spare_skip1 (by assumption)) | exact .int (spare_skip2 (by assumption)) | exact .int (spare_skip3 (by assumption)) | exact .int (spare_new (by assumption) (by assumption) (by assumption) (by assumption)) | exact .int (spare_better (by assumption) (by assumption) (by assumption) (by assumption) (by assumption)) | exact .int (spare_keep (by assumption) (by assumption) (by assumption) (by assumption) (by assumption)) | exact .int (by (try dsimp only); (first | omega | (simp only [ncast, true_and, List.length_append, List.length_take, List.length_drop, List.length_replicate, List.length_cons, List.length_nil] at *; omega)))))
  · refine les_of ?_ ?_ rfl
    · repeat' (first | exact trivial | refine And.intro ?_ ?_ | exact .any _ | exact .undef | exact .bo _ | exact .nil | exact .emp | exact .int rfl | exact .sl rfl | exact .str rfl | exact .ptr (fun h => nomatch h) | exact .rptr _ | exact .clo rfl (fun i x y h => by simp at h) | exact .ref (fun h => nomatch h) (fun h => nomatch h) rfl rfl | exact lev_nil | refine lev_cons ?_ ?_ | refine LeV.agg rfl ?_ | (first | exact .int (spare_skip1 (by assumption)) | exact .int (spare_skip2 (by assumption)) | exact .int (spare_skip3 (by assumption)) | exact .int (spare_new (by assumption) (by assumption) (by assumption) (by assumption)) | exact .int (spare_better (by assumption) (by assumption) (by assumption) (by assumption) (by assumption)) | exact .int (spare_keep (by assumption) (by assumption) (by assumption) (by assumption) (by assumption)) | exact .int (by (try dsimp only); (first | omega | (simp only [ncast, true_and, List.length_append, List.length_take, List.length_drop, List.length_replicate, List.length_cons, List.length_nil] at *; omega)))))
    · repeat' (first | exact trivial | refine And.intro ?_ ?_ | exact Nat.le_of_ble_eq_true rfl | exact Or.inl ⟨_, rfl, .row rfl⟩ | refine Or.inl ⟨_, rfl, .row ?_⟩ | refine Or.inl ⟨_, rfl, .lit rfl ?_⟩ | exact Or.inr ⟨rfl, rfl⟩ | exact .any _ | exact .undef | exact .bo _ | exact .nil | exact .emp | exact .int rfl | exact .sl rfl | exact .str rfl | exact .ptr (fun h => nomatch h) | exact .rptr _ | exact .clo rfl (fun i x y h => by simp at h) | exact .ref (fun h => nomatch h) (fun h => nomatch h) rfl rfl | exact lev_nil | refine lev_cons ?_ ?_ | refine LeV.agg rfl ?_ | (first | exact .int (spare_skip1 (by assumption)) | exact .int (spare_skip2 (by assumption)) | exact .int (spare_skip3 (by assumption)) | exact .int (spare_new (by assumption) (by assumption) (by assumption) (by assumption)) | exact .int (spare_better (by assumption) (by assumption) (by assumption) (by assumption) (by assumption)) | exact .int (spare_keep (by assumption) (by assumption) (by assumption) (by assumption) (by assumption)) | exact .int (by (try dsimp only); (first | omega | (simp only [ncast, true_and, List.length_append, List.length_take, List.length_drop, List.length_replicate, List.length_cons, List.length_nil] at *; omega)))))
  · refine les_of ?_ ?_ rfl
    · repeat' (first | exact trivial | refine And.intro ?_ ?_ | exact .any _ | exact .undef | exact .bo _ | exact .nil | exact .emp | exact .int rfl | exact .sl rfl | exact .str rfl | exact .ptr (fun h => nomatch h) | exact .rptr _ | exact .clo rfl (fun i x y h => by simp at h) | exact .ref (fun h => nomatch h) (fun h => nomatch h) rfl rfl | exact lev_nil | refine lev_cons ?_ ?_ | refine LeV.agg rfl ?_ | (first | exact .int (spare_skip1 (by assumption)) | exact .int (spare_skip2 (by assumption)) | exact .int (spare_skip3 (by assumption)) | exact .int (spare_new (by assumption) (by assumption) (by assumption) (by assumption)) | exact .int (spare_better (by assumption) (by assumption) (by assumption) (by assumption) (by assumption)) | exact .int (spare_keep (by assumption) (by assumption) (by assumption) (by assumption) (by assumption)) | exact .int (by (try dsimp only); (first | omega | (simp only [ncast, true_and, List.length_append, List.length_take, List.length_drop, List.length_replicate, List.length_cons, List.length_nil] at *; omega)))))
    · repeat' (first | exact trivial | refine And.intro ?_ ?_ | exact Nat.le_of_ble_eq_true rfl | exact Or.inl ⟨_, rfl, .row rfl⟩ | refine Or.inl ⟨_, rfl, .row ?_⟩ | refine Or.inl ⟨_, rfl, .lit rfl ?_⟩ | exact Or.inr ⟨rfl, rfl⟩ | exact .any _ | exact .undef | exact .bo _ | exact .nil | exact .emp | exact .int rfl | exact .sl rfl | exact .str rfl | exact .ptr (fun h => nomatch h) | exact .rptr _ | exact .clo rfl (fun i x y h => by simp at h) | exact .ref (fun h => nomatch h) (fun h => nomatch h) rfl rfl | exact lev_nil | refine lev_cons ?_ ?_ | refine LeV.agg rfl ?_ | (first | exact .int (spare_skip1 (by assumption)) | exact .int (spare_skip2 (by assumption)) | exact .int (spare_skip3 (by assumption)) | exact .int (spare_new (by assumption) (by assumption) (by assumption) (by assumption)) | exact .int (spare_better (by assumption) (by assumption) (by assumption) (by assumption) (by assumption)) | exact .int (spare_keep (by assumption) (by assumption) (by assumption) (by assumption) (by assumption)) | exact .int (by (try dsimp only); (first | omega | (simp only [ncast, true_and, List.length_append, List.length_take, List.length_drop, List.length_replicate, List.length_cons, List.length_nil] at *; omega)))))
  · refine les_of ?_ ?_ rfl
    · repeat' (first | exact trivial | refine And.intro ?_ ?_ | exact .any _ | exact .undef | exact .bo _ | exact .nil | exact .emp | exact .int rfl | exact .sl rfl | exact .str rfl | exact .ptr (fun h => nomatch h) | exact .rptr _ | exact .clo rfl (fun i x y h => by simp at h) | exact .ref (fun h => nomatch h) (fun h => nomatch h) rfl rfl | exact lev_nil | refine lev_cons ?_ ?_ | refine LeV.agg rfl ?_ | (first | exact .int (spare_skip1 (by assumption)) | exact .int (spare_skip2 (by assumption)) | exact .int (spare_skip3 (by assumption)) | exact .int (spare_new (by assumption) (by assumption) (by assumption) (by assumption)) | exact .int (spare_better (by assumption) (by assumption) (by assumption) (by assumption) (by assumption)) | exact .int (spare_keep (by assumption) (by assumption) (by assumption) (by assumption) (by assumption)) | exact .int (by (try dsimp only); (first | omega | (simp only [ncast, true_and, List.length_append, List.length_take, List.length_drop, List.length_replicate, List.length_cons, List.length_nil] at *; omega)))))
    · repeat' (first | exact trivial | refine And.intro ?_ ?_ | exact Nat.le_of_ble_eq_true rfl | exact Or.inl ⟨_, rfl, .row rfl⟩ | refine Or.inl ⟨_, rfl, .row ?_⟩ | refine Or.inl ⟨_, rfl, .lit rfl ?_⟩ | exact Or.inr ⟨rfl, rfl⟩ | exact .any _ | exact .undef | exact .bo _ | exact .nil | exact .emp | exact .int rfl | exact .sl rfl | exact .str rfl | exact .ptr (fun h => nomatch h) | exact .rptr _ | exact .clo rfl (fun i x y h => by simp at h) | exact .ref (fun h => nomatch h) (fun h => nomatch h) rfl rfl | exact lev_nil | refine lev_cons ?_ ?_ | refine LeV.agg rfl ?_ | (first | exact .int (spare_skip1 (by assumption)) | exact .int (spare_skip2 (by assumption)) | exact .int (spare_skip3 (by assumption)) | exact .int (spare_new (by assumption) (by assumption) (by assumption) (by assumption)) | exact .int (spare_better (by assumption) (by assumption) (by assumption) (by assumption) (by assumption)) | exact .int (spare_keep (by assumption) (by assumption) (by assumption) (by assumption) (by assumption)) | exact .int (by (try dsimp only); (first | omega | (simp only [ncast, true_and, List.length_append, List.length_take, List.length_drop, List.length_replicate, List.length_cons, List.length_nil] at *; omega)))))
  · refine .int ?_
    have e : i = 5 := by (first | omega | (simp only [ncast, true_and, List.length_append, List.length_take, List.length_drop, List.length_replicate, List.length_cons, List.length_nil] at *; omega))
    subst e
    simp [pickSpare, hs]

set_option maxHeartbeats 2000000 in
theorem w_impl_PickSpare (l : List GPlace) (m av : List Int) (hb : bPlaceS l) (hm : bIntS m) (ha : bIntS av) : Fn Pr n_impl_PickSpare [.sl 3 eGPlace (fun _ => l), .sl 1 (encI .i64) (fun _ => m), .sl 1 (encI .i64) (fun _ => av)] (.int .i64 (fun _ => pickSpare l m av)) := by
  have HS := w_impl_AreServers m hm
  have hrk : bIntS (racks l m) := by have := racks_len (l := l) (m := m); have : m.length * 8 ≤ 140737488351232 := hm; show (racks l m).length * 8 ≤ _; omega
  cases hs : areServers m
  · rw [hs] at HS
    refine k_impl_PickSpare.fn (by kernel_rfl) ?_
    conv => arg 4; cbv
    repeat' first
      | (refine Sat.cmp (fun h => ?_) (fun h => ?_) <;> simp only [Cmp.holds] at h <;> (conv => arg 4; cbv))
      | (refine Sat.call HS rfl (by (repeat' (first | exact led_nil | refine led_cons ?_ ?_ | exact .same _ | exact .int rfl | exact .sl rfl | exact .str rfl | exact .nil rfl | exact .emp rfl | refine .agg rfl ?_ | refine .tup rfl ?_ | (refine .sl ?_; simp; done))); (first | done | fail)) ?_; conv => arg 4; cbv)
      | (refine Sat.need (by (try dsimp only); (first | omega | (simp only [ncast, true_and, List.length_append, List.length_take, List.length_drop, List.length_replicate, List.length_cons, List.length_nil] at *; omega))) ?_; conv => arg 4; cbv)
      | (refine Sat.idxk (by assumption) ?_; conv => arg 4; cbv) | (refine Sat.idx (by (try dsimp only); (first | omega | (simp only [ncast, true_and, List.length_append, List.length_take, List.length_drop, List.length_replicate, List.length_cons, List.length_nil] at *; omega))) (fun v_ hv_ => ?_); conv => arg 4; cbv)
      | (refine Sat.ari64 (by (try dsimp only); (first | omega | (simp only [ncast, true_and, List.length_append, List.length_take, List.length_drop, List.length_replicate, List.length_cons, List.length_nil] at *; omega))) (by (try dsimp only); (first | omega | (simp only [ncast, true_and, List.length_append, List.length_take, List.length_drop, List.length_replicate, List.length_cons, List.length_nil] at *; omega))) ?_; conv => arg 4; cbv)
      | (refine Sat.pop ?_; conv => arg 4; cbv)
      | refine Sat.done ?_
    all_goals first | exact .int (by simp [pickSpare, hs]) | (exfalso; (first | omega | (simp only [ncast, true_and, List.length_append, List.length_take, List.length_drop, List.length_replicate, List.length_cons, List.length_nil] at *; omega)))
  rw [hs] at HS
  refine k_impl_PickSpare.fn (by kernel_rfl) ?_
  conv => arg 4; cbv
  refine Sat.call HS rfl (by (repeat' (first | exact led_nil | refine led_cons ?_ ?_ | exact .same _ | exact .int rfl | exact .sl rfl | exact .str rfl | exact .nil rfl | exact .emp rfl | refine .agg rfl ?_ | refine .tup rfl ?_ | (refine .sl ?_; simp; done))); (first | done | fail)) ?_
  conv => arg 4; cbv
  refine Sat.call (w_impl_RacksOf l m hb hm) rfl (by (repeat' (first | exact led_nil | refine led_cons ?_ ?_ | exact .same _ | exact .int rfl | exact .sl rfl | exact .str rfl | exact .nil rfl | exact .emp rfl | refine .agg rfl ?_ | refine .tup rfl ?_ | (refine .sl ?_; simp; done))); (first | done | fail)) ?_
  conv => arg 4; cbv
  refine Sat.loopP (ι := Nat) (fun i => [(19, .int .i64 (fun _ => (i : Int))), (7, .int .i64 (fun _ => spareAt l m av (racks l m) i))]) (fun i => []) (fun i => i ≤ 5) (fun i => 5 - i) 0 ?_ (by omega) (fun i hi => ?_)
  · refine les_of ?_ ?_ rfl
    · repeat' (first | exact trivial | refine And.intro ?_ ?_ | exact .any _ | exact .undef | exact .bo _ | exact .nil | exact .emp | exact .int rfl | exact .sl rfl | exact .str rfl | exact .ptr (fun h => nomatch h) | exact .rptr _ | exact .clo rfl (fun i x y h => by simp at h) | exact .ref (fun h => nomatch h) (fun h => nomatch h) rfl rfl | exact lev_nil | refine lev_cons ?_ ?_ | refine LeV.agg rfl ?_)
    · repeat' (first | exact trivial | refine And.intro ?_ ?_ | exact Nat.le_of_ble_eq_true rfl | exact Or.inl ⟨_, rfl, .row rfl⟩ | refine Or.inl ⟨_, rfl, .row ?_⟩ | refine Or.inl ⟨_, rfl, .lit rfl ?_⟩ | exact Or.inr ⟨rfl, rfl⟩ | exact .any _ | exact .undef | exact .bo _ | exact .nil | exact .emp | exact .int rfl | exact .sl rfl | exact .str rfl | exact .ptr (fun h => nomatch h) | exact .rptr _ | exact .clo rfl (fun i x y h => by simp at h) | exact .ref (fun h => nomatch h) (fun h => nomatch h) rfl rfl | exact lev_nil | refine lev_cons ?_ ?_ | refine LeV.agg rfl ?_)
  have hrg := spareAt_rng (l := l) (m := m) (av := av) (rk := racks l m) (i := i)
  conv => arg 4; cbv
  by_cases hbest : spareAt l m av (racks l m) i < 0
  · repeat' first
      | (refine Sat.cmp (fun h => ?_) (fun h => ?_) <;> simp only [Cmp.holds] at h <;> (conv => arg 4; cbv))
      | (refine Sat.callb (w_impl_HasRoom l _ hb) rfl (by (repeat' (first | exact led_nil | refine led_cons ?_ ?_ | exact .same _ | exact .int rfl | exact .sl rfl | exact .str rfl | exact .nil rfl | exact .emp rfl | refine .agg rfl ?_ | refine .tup rfl ?_ | (refine .sl ?_; simp; done))); (first | done | fail)) (fun h => ?_) (fun h => ?_) <;> (conv => arg 4; cbv))
      | (refine Sat.callb (w_impl_HasServer m _ hm) rfl (by (repeat' (first | exact led_nil | refine led_cons ?_ ?_ | exact .same _ | exact .int rfl | exact .sl rfl | exact .str rfl | exact .nil rfl | exact .emp rfl | refine .agg rfl ?_ | refine .tup rfl ?_ | (refine .sl ?_; simp; done))); (first | done | fail)) (fun h => ?_) (fun h => ?_) <;> (try simp only [decide_eq_true_eq, decide_eq_false_iff_not] at h) <;> (conv => arg 4; cbv))
      | (refine Sat.callb (w_impl_HasServer av _ ha) rfl (by (repeat' (first | exact led_nil | refine led_cons ?_ ?_ | exact .same _ | exact .int rfl | exact .sl rfl | exact .str rfl | exact .nil rfl | exact .emp rfl | refine .agg rfl ?_ | refine .tup rfl ?_ | (refine .sl ?_; simp; done))); (first | done | fail)) (fun h => ?_) (fun h => ?_) <;> (try simp only [decide_eq_true_eq, decide_eq_false_iff_not] at h) <;> (conv => arg 4; cbv))
      | contradiction
      | (refine Sat.ari64 (by (try dsimp only); (first | omega | (simp only [ncast, true_and, List.length_append, List.length_take, List.length_drop, List.length_replicate, List.length_cons, List.length_nil] at *; omega))) (by (try dsimp only); (first | omega | (simp only [ncast, true_and, List.length_append, List.length_take, List.length_drop, List.length_replicate, List.length_cons, List.length_nil] at *; omega))) ?_; conv => arg 4; cbv)
      | (refine Sat.pop ?_; conv => arg 4; cbv)
      | refine Sat.next (i + 1) ?_ (by (first | omega | (simp only [ncast, true_and, List.length_append, List.length_take, List.length_drop, List.length_replicate, List.length_cons, List.length_nil] at *; omega))) (by (first | omega | (simp only [ncast, true_and, List.length_append, List.length_take, List.length_drop, List.length_replicate, List.length_cons, List.length_nil] at *; omega)))
      | refine Sat.done ?_
    · refine les_of ?_ ?_ rfl
      · repeat' (first | exact trivial | refine And.intro ?_ ?_ | exact .any _ | exact .undef | exact .bo _ | exact .nil | exact .emp | exact .int rfl | exact .sl rfl | exact .str rfl | exact .ptr (fun h => nomatch h) | exact .rptr _ | exact .clo rfl (fun i x y h => by simp at h) | exact .ref (fun h => nomatch h) (fun h => nomatch h) rfl rfl | exact lev_nil | refine lev_cons ?_ ?_ | refine LeV.agg rfl ?_ | (first | exact .int (spare_skip1 (by assumption)) | exact .int (spare_skip2 (by assumption)) | exact .int (spare_skip3 (by assumption)) | exact .int (spare_new (by assumption) (by assumption) (by assumption) (by assumption)) | exact .int (spare_better (by assumption) (by assumption) (by assumption) (by assumption) (by assumption)) | exact .int (spare_keep (by assumption) (by assumption) (by assumption) (by assumption) (by assumption)) | exact .int (by (try dsimp only); (first | omega | (simp only [ncast, true_and, List.length_append, List.length_take, List.length_drop, List.length_replicate, List.length_cons, List.length_nil] at *; omega)))))
      · repeat' (first | exact trivial | refine And.intro ?_ ?_ | exact Nat.le_of_ble_eq_true rfl | exact Or.inl ⟨_, rfl, .row rfl⟩ | refine Or.inl ⟨_, rfl, .row ?_⟩ | refine Or.inl ⟨_, rfl, .lit rfl ?_⟩ | exact Or.inr ⟨rfl, rfl⟩ | exact .any _ | exact .undef | exact .bo _ | exact .nil | exact .emp | exact .int rfl | exact .sl rfl | exact .str rfl | exact .ptr (fun h => nomatch h) | exact .rptr _ | exact .clo rfl (fun i x y h => by simp at h) | exact .ref (fun h => nomatch h) (fun h => nomatch h) rfl rfl | exact lev_nil | refine lev_cons ?_ ?_ | refine LeV.agg rfl ?_ | (first | exact .int (spare_skip1 (by assumption)) | exact .int (spare_skip2 (by assumption)) | exact .int (spare_skip3 (by assumption)) | exact .int (spare_new (by assumption) (by assumption) (by assumption) (by assumption)) | exact .int (spare_better (by assumption) (by assumption) (by assumption) (by assumption) (by assumption)) | exact .int (spare_keep (by assumption) (by assumption) (by assumption) (by assumption) (by assumption)) | exact .int (by (try dsimp only); (first | omega | (simp only [ncast, true_and, List.length_append, List.length_take, List.length_drop, List.length_replicate, List.length_cons, List.length_nil] at *; omega)))))
    · refine les_of ?_ ?_ rfl
      · repeat' (first | exact trivial | refine And.intro ?_ ?_ | exact .any _ | exact .undef | exact .bo _ | exact .nil | exact .emp | exact .int rfl | exact .sl rfl | exact .str rfl | exact .ptr (fun h => nomatch h) | exact .rptr _ | exact .clo rfl (fun i x y h => by simp at h) | exact .ref (fun h => nomatch h) (fun h => nomatch h) rfl rfl | exact lev_nil | refine lev_cons ?_ ?_ | refine LeV.agg rfl ?_ | (first | exact .int (spare_skip1 (by assumption)) | exact .int (spare_skip2 (by assumption)) | exact .int (spare_skip3 (by assumption)) | exact .int (spare_new (by assumption) (by assumption) (by assumption) (by assumption)) | exact .int (spare_better (by assumption) (by assumption) (by assumption) (by assumption) (by assumption)) | exact .int (spare_keep (by assumption) (by assumption) (by assumption) (by assumption) (by assumption)) | exact .int (by (try dsimp only); (first | omega | (simp only [ncast, true_and, List.length_append, List.length_take, List.length_drop, List.length_replicate, List.length_cons, List.length_nil] at *; omega)))))
      · repeat' (first | exact trivial | refine And.intro ?_ ?_ | exact Nat.le_of_ble_eq_true rfl | exact Or.inl ⟨_, rfl, .row rfl⟩ | refine Or.inl ⟨_, rfl, .row ?_⟩ | refine Or.inl ⟨_, rfl, .lit rfl ?_⟩ | exact Or.inr ⟨rfl, rfl⟩ | exact .any _ | exact .undef | exact .bo _ | exact .nil | exact .emp | exact .int rfl | exact .sl rfl | exact .str rfl | exact .ptr (fun h => nomatch h) | exact .rptr _ | exact .clo rfl (fun i x y h => by simp at h) | exact .ref (fun h => nomatch h) (fun h => nomatch h) rfl rfl | exact lev_nil | refine lev_cons ?_ ?_ | refine LeV.agg rfl ?_ | (first | exact .int (spare_skip1 (by assumption)) | exact .int (spare_skip2 (by assumption)) | exact .int (spare_skip3 (by assumption)) | exact .int (spare_new (by assumption) (by assumption) (by assumption) (by assumption)) | exact .int (spare_better (by assumption) (by assumption) (by assumption) (by assumption) (by assumption)) | exact .int (spare_keep (by assumption) (by assumption) (by assumption) (by assumption) (by assumption)) | exact .int (by (try dsimp only); (first | omega | (simp only [ncast, true_and, List.length_append, List.length_take, List.length_drop, List.length_replicate, List.length_cons, List.length_nil] at *; omega)))))
    · refine les_of ?_ ?_ rfl
      · repeat' (first | exact trivial | refine And.intro ?_ ?_ | exact .any _ | exact .undef | exact .bo _ | exact .nil | exact .emp | exact .int rfl | exact .sl rfl | exact .str rfl | exact .ptr (fun h => nomatch h) | exact .rptr _ | exact .clo rfl (fun i x y h => by simp at h) | exact .ref (fun h => nomatch h) (fun h => nomatch h) rfl rfl | exact lev_nil | refine lev_cons ?_ ?_ | refine LeV.agg rfl ?_ | (first | exact .int (spare_skip1 (by assumption)) | exact .int (spare_skip2 (by assumption)) | exact .int (spare_skip3 (by assumption)) | exact .int (spare_new (by assumption) (by assumption) (by assumption) (by assumption)) | exact .int (spare_better (by assumption) (by assumption) (by assumption) (by assumption) (by assumption)) | exact .int (spare_keep (by assumption) (by assumption) (by assumption) (by assumption) (by assumption)) | exact .int (by (try dsimp only); (first | omega | (simp only [ncast, true_and, List.length_append, List.length_take, List.length_drop, List.length_replicate, List.length_cons, List.length_nil] at *; omega)))))
      · repeat' (first | exact trivial | refine And.intro ?_ ?_ | exact Nat.le_of_ble_eq_true rfl | exact Or.inl ⟨_, rfl, .row rfl⟩ | refine Or.inl ⟨_, rfl, .row ?_⟩ | refine Or.inl ⟨_, rfl, .lit rfl ?_⟩ | exact Or.inr ⟨rfl, rfl⟩ | exact .any _ | exact .undef | exact .bo _ | exact .nil | exact .emp | exact .int rfl | exact .sl rfl | exact .str rfl | exact .ptr (fun h => nomatch h) | exact .rptr _ | exact .clo rfl (fun i x y h => by simp at h) | exact .ref (fun h => nomatch h) (fun h => nomatch h) rfl rfl | exact lev_nil | refine lev_cons ?_ ?_ | refine LeV.agg rfl ?_ | (first | exact .int (spare_skip1 (by assumption)) | exact .int (spare_skip2 (by assumption)) | exact .int (spare_skip3 (by assumption)) | exact .int (spare_new (by assumption) (by assumption) (by assumption) (by assumption)) | exact .int (spare_better (by assumption) (by assumption) (by assumption) (by assumption) (by assumption)) | exact .int (spare_keep (by assumption) (by assumption) (by assumption) (by assumption) (by assumption)) | exact .int (by (try dsimp only); (first | omega | (simp only [ncast, true_and, List.length_append, List.length_take, List.length_drop, List.length_replicate, List.length_cons, List.length_nil] at *; omega)))))
    · refine les_of ?_ ?_ rfl
      · repeat' (first | exact trivial | refine And.intro ?_ ?_ | exact .any _ | exact .undef | exact .bo _ | exact .nil | exact .emp | exact .int rfl | exact .sl rfl | exact .str rfl | exact .ptr (fun h => nomatch h) | exact .rptr _ | exact .clo rfl (fun i x y h => by simp at h) | exact .ref (fun h => nomatch h) (fun h => nomatch h) rfl rfl | exact lev_nil | refine lev_cons ?_ ?_ | refine LeV.agg rfl ?_ | (first | exact .int (spare_skip1 (by assumption)) | exact .int (spare_skip2 (by assumption)) | exact .int (spare_skip3 (by assumption)) | exact .int (spare_new (by assumption) (by assumption) (by assumption) (by assumption)) | exact .int (spare_better (by assumption) (by assumption) (by assumption) (by assumption) (by assumption)) | exact .int (spare_keep (by assumption) (by assumption) (by assumption) (by assumption) (by assumption)) | exact .int (by (try dsimp only); (first | omega | (simp only [ncast, true_and, List.length_append, List.length_take, List.length_drop, List.length_replicate, List.length_cons, List.length_nil] at *; omega)))))
      · repeat' (first | exact trivial | refine And.intro ?_ ?_ | exact Nat.le_of_ble_eq_true rfl | exact Or.inl ⟨_, rfl, .row rfl⟩ | refine Or.inl ⟨_, rfl, .row ?_⟩ | refine Or.inl ⟨_, rfl, .lit rfl ?_⟩ | exact Or.inr ⟨rfl, rfl⟩ | exact .any _ | exact .undef | exact .bo _ | exact .nil | exact .emp | exact .int rfl | exact .sl rfl | exact .str rfl | exact .ptr (fun h => nomatch h) | exact .rptr _ | exact .clo rfl (fun i x y h => by simp at h) | exact .ref (fun h => nomatch h) (fun h => nomatch h) rfl rfl | exact lev_nil | refine lev_cons ?_ ?_ | refine LeV.agg rfl ?_ | (first | exact .int (spare_skip1 (by assumption)) | exact .int (spare_skip2 (by assumption)) | exact .int (spare_skip3 (by assumption)) | exact .int (spare_new (by assumption) (by assumption) (by assumption) (by assumption)) | exact .int (spare_better (by assumption) (by assumption) (by assumption) (by assumption) (by assumption)) | exact .int (spare_keep (by assumption) (by assumption) (by assumption) (by assumption) (by assumption)) | exact .int (by (try dsimp only); (first | omega | (simp only [ncast, true_and, List.length_append, List.length_take, List.length_drop, List.length_replicate, List.length_cons, List.length_nil] at *; omega)))))
    · refine .int ?_
      have e : i = 5 := by (first | omega | (simp only [ncast, true_and, List.length_append, List.length_take, List.length_drop, List.length_replicate, List.length_cons, List.length_nil] at *; omega))
      subst e
      simp [pickSpare, hs]
  · have hp : arePlaces l = true := by rcases hrg with e | e; omega; exact e.2.2
    have h5 := arePlaces_len hp
    obtain ⟨pb, hpb⟩ : ∃ p, l[(spareAt l m av (racks l m) i).toNat]? = some p := ⟨_, List.getElem?_eq_getElem (by omega)⟩
    have rb := rackAt_get hpb
    have lb := loadAt_get hpb
    refine Sat.cmp (fun h => ?_) (fun h => ?_) <;> simp only [Cmp.holds] at h <;> (conv => arg 4; cbv)
    · obtain ⟨pa, hpa⟩ : ∃ p, l[(i : Int).toNat]? = some p := ⟨_, List.getElem?_eq_getElem (by (first | omega | (simp only [ncast, true_and, List.length_append, List.length_take, List.length_drop, List.length_replicate, List.length_cons, List.length_nil] at *; omega)))⟩
      have ra := rackAt_get hpa
      have la := loadAt_get hpa
      have hbt : better l (racks l m) i (spareAt l m av (racks l m) i) = if decide (pa.Rack ∈ racks l m) = decide (pb.Rack ∈ racks l m) then decide (pa.Load < pb.Load) else decide (pb.Rack ∈ racks l m) := by rw [better, ra, rb, la, lb]
      clear ra rb la lb
      repeat' first
        | (refine Sat.cmp (fun h => ?_) (fun h => ?_) <;> simp only [Cmp.holds] at h <;> (conv => arg 4; cbv))
        | (refine Sat.need (by (try dsimp only); (first | omega | (simp only [ncast, true_and, List.length_append, List.length_take, List.length_drop, List.length_replicate, List.length_cons, List.length_nil] at *; omega))) ?_; conv => arg 4; cbv)
        | (refine Sat.idxk hpa ?_; conv => arg 4; cbv)
        | (refine Sat.idxk hpb ?_; conv => arg 4; cbv)
        | (refine Sat.callb (w_impl_HasRoom l _ hb) rfl (by (repeat' (first | exact led_nil | refine led_cons ?_ ?_ | exact .same _ | exact .int rfl | exact .sl rfl | exact .str rfl | exact .nil rfl | exact .emp rfl | refine .agg rfl ?_ | refine .tup rfl ?_ | (refine .sl ?_; simp; done))); (first | done | fail)) (fun h => ?_) (fun h => ?_) <;> (conv => arg 4; cbv))
        | (refine Sat.callb (w_impl_HasServer m _ hm) rfl (by (repeat' (first | exact led_nil | refine led_cons ?_ ?_ | exact .same _ | exact .int rfl | exact .sl rfl | exact .str rfl | exact .nil rfl | exact .emp rfl | refine .agg rfl ?_ | refine .tup rfl ?_ | (refine .sl ?_; simp; done))); (first | done | fail)) (fun h => ?_) (fun h => ?_) <;> (try simp only [decide_eq_true_eq, decide_eq_false_iff_not] at h) <;> (conv => arg 4; cbv))
        | (refine Sat.callb (w_impl_HasServer av _ ha) rfl (by (repeat' (first | exact led_nil | refine led_cons ?_ ?_ | exact .same _ | exact .int rfl | exact .sl rfl | exact .str rfl | exact .nil rfl | exact .emp rfl | refine .agg rfl ?_ | refine .tup rfl ?_ | (refine .sl ?_; simp; done))); (first | done | fail)) (fun h => ?_) (fun h => ?_) <;> (try simp only [decide_eq_true_eq, decide_eq_false_iff_not] at h) <;> (conv => arg 4; cbv))
        | (refine Sat.callb (w_impl_HasServer (racks l m) _ hrk) rfl (by (repeat' (first | exact led_nil | refine led_cons ?_ ?_ | exact .same _ | exact .int rfl | exact .sl rfl | exact .str rfl | exact .nil rfl | exact .emp rfl | refine .agg rfl ?_ | refine .tup rfl ?_ | (refine .sl ?_; simp; done))); (first | done | fail)) (fun h => ?_) (fun h => ?_) <;> (try simp only [decide_eq_true_eq, decide_eq_false_iff_not] at h) <;> (conv => arg 4; cbv))
        | contradiction
        | (refine Sat.ari64 (by (try dsimp only); (first | omega | (simp only [ncast, true_and, List.length_append, List.length_take, List.length_drop, List.length_replicate, List.length_cons, List.length_nil] at *; omega))) (by (try dsimp only); (first | omega | (simp only [ncast, true_and, List.length_append, List.length_take, List.length_drop, List.length_replicate, List.length_cons, List.length_nil] at *; omega))) ?_; conv => arg 4; cbv)
        | (refine Sat.pop ?_; conv => arg 4; cbv)
        | refine Sat.next (i + 1) ?_ (by (first | omega | (simp only [ncast, true_and, List.length_append, List.length_take, List.length_drop, List.length_replicate, List.length_cons, List.length_nil] at *; omega))) (by (first | omega | (simp only [ncast, true_and, List.length_append, List.length_take, List.length_drop, List.length_replicate, List.length_cons, List.length_nil] at *; omega)))
        | refine Sat.done ?_
      all_goals first
        | (have hB : better l (racks l m) i (spareAt l m av (racks l m) i) = true := by rw [hbt]; clear hbt; simp_all)
        | (have hB : better l (racks l m) i (spareAt l m av (racks l m) i) = false := by rw [hbt]; clear hbt; simp_all; omega)
        | (have hB : better l (racks l m) i (spareAt l m av (racks l m) i) = false := by rw [hbt]; clear hbt; simp_all)
        | skip
      · refine les_of ?_ ?_ rfl
        · repeat' (first | exact trivial | refine And.intro ?_ ?_ | exact .any _ | exact .undef | exact .bo _ | exact .nil | exact .emp | exact .int rfl | exact .sl rfl | exact .str rfl | exact .ptr (fun h => nomatch h) | exact .rptr _ | exact .clo rfl (fun i x y h => by simp at h) | exact .ref (fun h => nomatch h) (fun h => nomatch h) rfl rfl | exact lev_nil | refine lev_cons ?_ ?_ | refine LeV.agg rfl ?_ | (first | exact .int (spare_skip1 (by assumption)) | exact .int (spare_skip2 (by assumption)) | exact .int (spare_skip3 (by assumption)) | exact .int (spare_new (by assumption) (by assumption) (by assumption) (by assumption)) | exact .int (spare_better (by assumption) (by assumption) (by assumption) (by assumption) (by assumption)) | exact .int (spare_keep (by assumption) (by assumption) (by assumption) (by assumption) (by assumption)) | exact .int (by (try dsimp only); (first | omega | (simp only [ncast, true_and, List.length_append, List.length_take, List.length_drop, List.length_replicate, List.length_cons, List.length_nil] at *; omega)))))
        · repeat' (first | exact trivial | refine And.intro ?_ ?_ | exact Nat.le_of_ble_eq_true rfl | exact Or.inl ⟨_, rfl, .row rfl⟩ | refine Or.inl ⟨_, rfl, .row ?_⟩ | refine Or.inl ⟨_, rfl, .lit rfl ?_⟩ | exact Or.inr ⟨rfl, rfl⟩ | exact .any _ | exact .undef | exact .bo _ | exact .nil | exact .emp | exact .int rfl | exact .sl rfl | exact .str rfl | exact .ptr (fun h => nomatch h) | exact .rptr _ | exact .clo rfl (fun i x y h => by simp at h) | exact .ref (fun h => nomatch h) (fun h => nomatch h) rfl rfl | exact lev_nil | refine lev_cons ?_ ?_ | refine LeV.agg rfl ?_ | (first | exact .int (spare_skip1 (by assumption)) | exact .int (spare_skip2 (by assumption)) | exact .int (spare_skip3 (by assumption)) | exact .int (spare_new (by assumption) (by assumption) (by assumption) (by assumption)) | exact .int (spare_better (by assumption) (by assumption) (by assumption) (by assumption) (by assumption)) | exact .int (spare_keep (by assumption) (by assumption) (by assumption) (by assumption) (by assumption)) | exact .int (by (try dsimp only); (first | omega | (simp only [ncast, true_and, List.length_append, List.length_take, List.length_drop, List.length_replicate, List.length_cons, List.length_nil] at *; omega)))))
      · refine les_of ?_ ?_ rfl
        · repeat' (first | exact trivial | refine And.intro ?_ ?_ | exact .any _ | exact .undef | exact .bo _ | exact .nil | exact .emp | exact .int rfl | exact .sl rfl | exact .str rfl | exact .ptr (fun h => nomatch h) | exact .rptr _ | exact .clo rfl (fun i x y h => by simp at h) | exact .ref (fun h => nomatch h) (fun h => nomatch h) rfl rfl | exact lev_nil | refine lev_cons ?_ ?_ | refine LeV.agg rfl ?_ | (first | exact .int (spare_skip1 (by assumption)) | exact .int (spare_skip2 (by assumption)) | exact .int (spare_skip3 (by assumption)) | exact .int (spare_new (by assumption) (by assumption) (by assumption) (by assumption)) | exact .int (spare_better (by assumption) (by assumption) (by assumption) (by assumption) (by assumption)) | exact .int (spare_keep (by assumption) (by assumption) (by assumption) (by assumption) (by assumption)) | exact .int (by (try dsimp only); (first | omega | (simp only [ncast, true_and, List.length_append, List.length_take, List.length_drop, List.length_replicate, List.length_cons, List.length_nil] at *; omega)))))
        · repeat' (first | exact trivial | refine And.intro ?_ ?_ | exact Nat.le_of_ble_eq_true rfl | exact Or.inl ⟨_, rfl, .row rfl⟩ | refine Or.inl ⟨_, rfl, .row ?_⟩ | refine Or.inl ⟨_, rfl, .lit rfl ?_⟩ | exact Or.inr ⟨rfl, rfl⟩ | exact .any _ | exact .undef | exact .bo _ | exact .nil | exact .emp | exact .int rfl | exact .sl rfl | exact .str rfl | exact .ptr (fun h => nomatch h) | exact .rptr _ | exact .clo rfl (fun i x y h => by simp at h) | exact .ref (fun h => nomatch h) (fun h => nomatch h) rfl rfl | exact lev_nil | refine lev_cons ?_ ?_ | refine LeV.agg rfl ?_ | (first | exact .int (spare_skip1 (by assumption)) | exact .int (spare_skip2 (by assumption)) | exact .int (spare_skip3 (by assumption)) | exact .int (spare_new (by assumption) (by assumption) (by assumption) (by assumption)) | exact .int (spare_better (by assumption) (by assumption) (by assumption) (by assumption) (by assumption)) | exact .int (spare_keep (by assumption) (by assumption) (by assumption) (by assumption) (by assumption)) | exact .int (by (try dsimp only); (first | omega | (simp only [ncast, true_and, List.length_append, List.length_take, List.length_drop, List.length_replicate, List.length_cons, List.length_nil] at *; omega)))))
      · refine les_of ?_ ?_ rfl
        · repeat' (first | exact trivial | refine And.intro ?_ ?_ | exact .any _ | exact .undef | exact .bo _ | exact .nil | exact .emp | exact .int rfl | exact .sl rfl | exact .str rfl | exact .ptr (fun h => nomatch h) | exact .rptr _ | exact .clo rfl (fun i x y h => by simp at h) | exact .ref (fun h => nomatch h) (fun h => nomatch h) rfl rfl | exact lev_nil | refine lev_cons ?_ ?_ | refine LeV.agg rfl ?_ | (first | exact .int (spare_skip1 (by assumption)) | exact .int (spare_skip2 (by assumption)) | exact .int (spare_skip3 (by assumption)) | exact .int (spare_new (by assumption) (by assumption) (by assumption) (by assumption)) | exact .int (spare_better (by assumption) (by assumption) (by assumption) (by assumption) (by assumption)) | exact .int (spare_keep (by assumption) (by assumption) (by assumption) (by assumption) (by assumption)) | exact .int (by (try dsimp only); (first | omega | (simp only [ncast, true_and, List.length_append, List.length_take, List.length_drop, List.length_replicate, List.length_cons, List.length_nil] at *; omega)))))
        · repeat' (first | exact trivial | refine And.intro ?_ ?_ | exact Nat.le_of_ble_eq_true rfl | exact Or.inl ⟨_, rfl, .row rfl⟩ | refine Or.inl ⟨_, rfl, .row ?_⟩ | refine Or.inl ⟨_, rfl, .lit rfl ?_⟩ | exact Or.inr ⟨rfl, rfl⟩ | exact .any _ | exact .undef | exact .bo _ | exact .nil | exact .emp | exact .int rfl | exact .sl rfl | exact .str rfl | exact .ptr (fun h => nomatch h) | exact .rptr _ | exact .clo rfl (fun i x y h => by simp at h) | exact .ref (fun h => nomatch h) (fun h => nomatch h) rfl rfl | exact lev_nil | refine lev_cons ?_ ?_ | refine LeV.agg rfl ?_ | (first | exact .int (spare_skip1 (by assumption)) | exact .int (spare_skip2 (by assumption)) | exact .int (spare_skip3 (by assumption)) | exact .int (spare_new (by assumption) (by assumption) (by assumption) (by assumption)) | exact .int (spare_better (by assumption) (by assumption) (by assumption) (by assumption) (by assumption)) | exact .int (spare_keep (by assumption) (by assumption) (by assumption) (by assumption) (by assumption)) | exact .int (by (try dsimp only); (first | omega | (simp only [ncast, true_and, List.length_append, List.length_take, List.length_drop, List.length_replicate, List.length_cons, List.length_nil] at *; omega)))))
      · refine les_of ?_ ?_ rfl
        · repeat' (first | exact trivial | refine And.intro ?_ ?_ | exact .any _ | exact .undef | exact .bo _ | exact .nil | exact .emp | exact .int rfl | exact .sl rfl | exact .str rfl | exact .ptr (fun h => nomatch h) | exact .rptr _ | exact .clo rfl (fun i x y h => by simp at h) | exact .ref (fun h => nomatch h) (fun h => nomatch h) rfl rfl | exact lev_nil | refine lev_cons ?_ ?_ | refine LeV.agg rfl ?_ | (first | exact .int (spare_skip1 (by assumption)) | exact .int (spare_skip2 (by assumption)) | exact .int (spare_skip3 (by assumption)) | exact .int (spare_new (by assumption) (by assumption) (by assumption) (by assumption)) | exact .int (spare_better (by assumption) (by assumption) (by assumption) (by assumption) (by assumption)) | exact .int (spare_keep (by assumption) (by assumption) (by assumption) (by assumption) (by assumption)) | exact .int (by (try dsimp only); (first | omega | (simp only [ncast, true_and, List.length_append, List.length_take, List.length_drop, List.length_replicate, List.length_cons, List.length_nil] at *; omega)))))
        · repeat' (first | exact trivial | refine And.intro ?_ ?_ | exact Nat.le_of_ble_eq_true rfl | exact Or.inl ⟨_, rfl, .row rfl⟩ | refine Or.inl ⟨_, rfl, .row ?_⟩ | refine Or.inl ⟨_, rfl, .lit rfl ?_⟩ | exact Or.inr ⟨rfl, rfl⟩ | exact .any _ | exact .undef | exact .bo _ | exact .nil | exact .emp | exact .int rfl | exact .sl rfl | exact .str rfl | exact .ptr (fun h => nomatch h) | exact .rptr _ | exact .clo rfl (fun i x y h => by simp at h) | exact .ref (fun h => nomatch h) (fun h => nomatch h) rfl rfl | exact lev_nil | refine lev_cons ?_ ?_ | refine LeV.agg rfl ?_ | (first | exact .int (spare_skip1 (by assumption)) | exact .int (spare_skip2 (by assumption)) | exact .int (spare_skip3 (by assumption)) | exact .int (spare_new (by assumption) (by assumption) (by assumption) (by assumption)) | exact .int (spare_better (by assumption) (by assumption) (by assumption) (by assumption) (by assumption)) | exact .int (spare_keep (by assumption) (by assumption) (by assumption) (by assumption) (by assumption)) | exact .int (by (try dsimp only); (first | omega | (simp only [ncast, true_and, List.length_append, List.length_take, List.length_drop, List.length_replicate, List.length_cons, List.length_nil] at *; omega)))))
      · refine les_of ?_ ?_ rfl
        · repeat' (first | exact trivial | refine And.intro ?_ ?_ | exact .any _ | exact .undef | exact .bo _ | exact .nil | exact .emp | exact .int rfl | exact .sl rfl | exact .str rfl | exact .ptr (fun h => nomatch h) | exact .rptr _ | exact .clo rfl (fun i x y h => by simp at h) | exact .ref (fun h => nomatch h) (fun h => nomatch h) rfl rfl | exact lev_nil | refine lev_cons ?_ ?_ | refine LeV.agg rfl ?_ | (first | exact .int (spare_skip1 (by assumption)) | exact .int (spare_skip2 (by assumption)) | exact .int (spare_skip3 (by assumption)) | exact .int (spare_new (by assumption) (by assumption) (by assumption) (by assumption)) | exact .int (spare_better (by assumption) (by assumption) (by assumption) (by assumption) (by assumption)) | exact .int (spare_keep (by assumption) (by assumption) (by assumption) (by assumption) (by assumption)) | exact .int (by (try dsimp only); (first | omega | (simp only [ncast, true_and, List.length_append, List.length_take, List.length_drop, List.length_replicate, List.length_cons, List.length_nil] at *; omega)))))
        · repeat' (first | exact trivial | refine And.intro ?_ ?_ | exact Nat.le_of_ble_eq_true rfl | exact Or.inl ⟨_, rfl, .row rfl⟩ | refine Or.inl ⟨_, rfl, .row ?_⟩ | refine Or.inl ⟨_, rfl, .lit rfl ?_⟩ | exact Or.inr ⟨rfl, rfl⟩ | exact .any _ | exact .undef | exact .bo _ | exact .nil | exact .emp | exact .int rfl | exact .sl rfl | exact .str rfl | exact .ptr (fun h => nomatch h) | exact .rptr _ | exact .clo rfl (fun i x y h => by simp at h) | exact .ref (fun h => nomatch h) (fun h => nomatch h) rfl rfl | exact lev_nil | refine lev_cons ?_ ?_ | refine LeV.agg rfl ?_ | (first | exact .int (spare_skip1 (by assumption)) | exact .int (spare_skip2 (by assumption)) | exact .int (spare_skip3 (by assumption)) | exact .int (spare_new (by assumption) (by assumption) (by assumption) (by assumption)) | exact .int (spare_better (by assumption) (by assumption) (by assumption) (by assumption) (by assumption)) | exact .int (spare_keep (by assumption) (by assumption) (by assumption) (by assumption) (by assumption)) | exact .int (by (try dsimp only); (first | omega | (simp only [ncast, true_and, List.length_append, List.length_take, List.length_drop, List.length_replicate, List.length_cons, List.length_nil] at *; omega)))))
      · refine les_of ?_ ?_ rfl
        · repeat' (first | exact trivial | refine And.intro ?_ ?_ | exact .any _ | exact .undef | exact .bo _ | exact .nil | exact .emp | exact .int rfl | exact .sl rfl | exact .str rfl | exact .ptr (fun h => nomatch h) | exact .rptr _ | exact .clo rfl (fun i x y h => by simp at h) | exact .ref (fun h => nomatch h) (fun h => nomatch h) rfl rfl | exact lev_nil | refine lev_cons ?_ ?_ | refine LeV.agg rfl ?_ | (first | exact .int (spare_skip1 (by assumption)) | exact .int (spare_skip2 (by assumption)) | exact .int (spare_skip3 (by assumption)) | exact .int (spare_new (by assumption) (by assumption) (by assumption) (by assumption)) | exact .int (spare_better (by assumption) (by assumption) (by assumption) (by assumption) (by assumption)) | exact .int (spare_keep (by assumption) (by assumption) (by assumption) (by assumption) (by assumption)) | exact .int (by (try dsimp only); (first | omega | (simp only [ncast, true_and, List.length_append, List.length_take, List.length_drop, List.length_replicate, List.length_cons, List.length_nil] at *; omega)))))
        · repeat' (first | exact trivial | refine And.intro ?_ ?_ | exact Nat.le_of_ble_eq_true rfl | exact Or.inl ⟨_, rfl, .row rfl⟩ | refine Or.inl ⟨_, rfl, .row ?_⟩ | refine Or.inl ⟨_, rfl, .lit rfl ?_⟩ | exact Or.inr ⟨rfl, rfl⟩ | exact .any _ | exact .undef | exact .bo _ | exact .nil | exact .emp | exact .int rfl | exact .sl rfl | exact .str rfl | exact .ptr (fun h => nomatch h) | exact .rptr _ | exact .clo rfl (fun i x y h => by simp at h) | exact .ref (fun h => nomatch h) (fun h => nomatch h) rfl rfl | exact lev_nil | refine lev_cons ?_ ?_ | refine LeV.agg rfl ?_ | (first | exact .int (spare_skip1 (by assumption)) | exact .int (spare_skip2 (by assumption)) | exact .int (spare_skip3 (by assumption)) | exact .int (spare_new (by assumption) (by assumption) (by assumption) (by assumption)) | exact .int (spare_better (by assumption) (by assumption) (by assumption) (by assumption) (by assumption)) | exact .int (spare_keep (by assumption) (by assumption) (by assumption) (by assumption) (by assumption)) | exact .int (by (try dsimp only); (first | omega | (simp only [ncast, true_and, List.length_append, List.length_take, List.length_drop, List.length_replicate, List.length_cons, List.length_nil] at *; omega)))))
      · refine les_of ?_ ?_ rfl
        · repeat' (first | exact trivial | refine And.intro ?_ ?_ | exact .any _ | exact .undef | exact .bo _ | exact .nil | exact .emp | exact .int rfl | exact .sl rfl | exact .str rfl | exact .ptr (fun h => nomatch h) | exact .rptr _ | exact .clo rfl (fun i x y h => by simp at h) | exact .ref (fun h => nomatch h) (fun h => nomatch h) rfl rfl | exact lev_nil | refine lev_cons ?_ ?_ | refine LeV.agg rfl ?_ | (first | exact .int (spare_skip1 (by assumption)) | exact .int (spare_skip2 (by assumption)) | exact .int (spare_skip3 (by assumption)) | exact .int (spare_new (by assumption) (by assumption) (by assumption) (by assumption)) | exact .int (spare_better (by assumption) (by assumption) (by assumption) (by assumption) (by assumption)) | exact .int (spare_keep (by assumption) (by assumption) (by assumption) (by assumption) (by assumption)) | exact .int (by (try dsimp only); (first | omega | (simp only [ncast, true_and, List.length_append, List.length_take, List.length_drop, List.length_replicate, List.length_cons, List.length_nil] at *; omega)))))
        · repeat' (first | exact trivial | refine And.intro ?_ ?_ | exact Nat.le_of_ble_eq_true rfl | exact Or.inl ⟨_, rfl, .row rfl⟩ | refine Or.inl ⟨_, rfl, .row ?_⟩ | refine Or.inl ⟨_, rfl, .lit rfl ?_⟩ | exact Or.inr ⟨rfl, rfl⟩ | exact .any _ | exact .undef | exact .bo _ | exact .nil | exact .emp | exact .int rfl | exact .sl rfl | exact .str rfl | exact .ptr (fun h => nomatch h) | exact .rptr _ | exact .clo rfl (fun i x y h => by simp at h) | exact .ref (fun h => nomatch h) (fun h => nomatch h) rfl rfl | exact lev_nil | refine lev_cons ?_ ?_ | refine LeV.agg rfl ?_ | (first | exact .int (spare_skip1 (by assumption)) | exact .int (spare_skip2 (by assumption)) | exact .int (spare_skip3 (by assumption)) | exact .int (spare_new (by assumption) (by assumption) (by assumption) (by assumption)) | exact .int (spare_better (by assumption) (by assumption) (by assumption) (by assumption) (by assumption)) | exact .int (spare_keep (by assumption) (by assumption) (by assumption) (by assumption) (by assumption)) | exact .int (by (try dsimp only); (first | omega | (simp only [ncast, true_and, List.length_append, List.length_take, List.length_drop, List.length_replicate, List.length_cons, List.length_nil] at *; omega)))))
      · refine les_of ?_ ?_ rfl
        · repeat' (first | exact trivial | refine And.intro ?_ ?_ | exact .any _ | exact .undef | exact .bo _ | exact .nil | exact .emp | exact .int rfl | exact .sl rfl | exact .str rfl | exact .ptr (fun h => nomatch h) | exact .rptr _ | exact .clo rfl (fun i x y h => by simp at h) | exact .ref (fun h => nomatch h) (fun h => nomatch h) rfl rfl | exact lev_nil | refine lev_cons ?_ ?_ | refine LeV.agg rfl ?_ | (first | exact .int (spare_skip1 (by assumption)) | exact .int (spare_skip2 (by assumption)) | exact .int (spare_skip3 (by assumption)) | exact .int (spare_new (by assumption) (by assumption) (by assumption) (by assumption)) | exact .int (spare_better (by assumption) (by assumption) (by assumption) (by assumption) (by assumption)) | exact .int (spare_keep (by assumption) (by assumption) (by assumption) (by assumption) (by assumption)) | exact .int (by (try dsimp only); (first | omega | (simp only [ncast, true_and, List.length_append, List.length_take, List.length_drop, List.length_replicate, List.length_cons, List.length_nil] at *; omega)))))
        · repeat' (first | exact trivial | refine And.intro ?_ ?_ | exact Nat.le_of_ble_eq_true rfl | exact Or.inl ⟨_, rfl, .row rfl⟩ | refine Or.inl ⟨_, rfl, .row ?_⟩ | refine Or.inl ⟨_, rfl, .lit rfl ?_⟩ | exact Or.inr ⟨rfl, rfl⟩ | exact .any _ | exact .undef | exact .bo _ | exact .nil | exact .emp | exact .int rfl | exact .sl rfl | exact .str rfl | exact .ptr (fun h => nomatch h) | exact .rptr _ | exact .clo rfl (fun i x y h => by simp at h) | exact .ref (fun h => nomatch h) (fun h => nomatch h) rfl rfl | exact lev_nil | refine lev_cons ?_ ?_ | refine LeV.agg rfl ?_ | (first | exact .int (spare_skip1 (by assumption)) | exact .int (spare_skip2 (by assumption)) | exact .int (spare_skip3 (by assumption)) | exact .int (spare_new (by assumption) (by assumption) (by assumption) (by assumption)) | exact .int (spare_better (by assumption) (by assumption) (by assumption) (by assumption) (by assumption)) | exact .int (spare_keep (by assumption) (by assumption) (by assumption) (by assumption) (by assumption)) | exact .int (by (try dsimp only); (first | omega | (simp only [ncast, true_and, List.length_append, List.length_take, List.length_drop, List.length_replicate, List.length_cons, List.length_nil] at *; omega)))))
      · refine les_of ?_ ?_ rfl
        · repeat' (first | exact trivial | refine And.intro ?_ ?_ | exact .any _ | exact .undef | exact .bo _ | exact .nil | exact .emp | exact .int rfl | exact .sl rfl | exact .str rfl | exact .ptr (fun h => nomatch h) | exact .rptr _ | exact .clo rfl (fun i x y h => by simp at h) | exact .ref (fun h => nomatch h) (fun h => nomatch h) rfl rfl | exact lev_nil | refine lev_cons ?_ ?_ | refine LeV.agg rfl ?_ | (first | exact .int (spare_skip1 (by assumption)) | exact .int (spare_skip2 (by assumption)) | exact .int (spare_skip3 (by assumption)) | exact .int (spare_new (by assumption) (by assumption) (by assumption) (by assumption)) | exact .int (spare_better (by assumption) (by assumption) (by assumption) (by assumption) (by assumption)) | exact .int (spare_keep (by assumption) (by assumption) (by assumption) (by assumption) (by assumption)) | exact .int (by (try dsimp only); (first | omega | (simp only [ncast, true_and, List.length_append, List.length_take, List.length_drop, List.length_replicate, List.length_cons, List.length_nil] at *; omega)))))
        · repeat' (first | exact trivial | refine And.intro ?_ ?_ | exact Nat.le_of_ble_eq_true rfl | exact Or.inl ⟨_, rfl, .row rfl⟩ | refine Or.inl ⟨_, rfl, .row ?_⟩ | refine Or.inl ⟨_, rfl, .lit rfl ?_⟩ | exact Or.inr ⟨rfl, rfl⟩ | exact .any _ | exact .undef | exact .bo _ | exact .nil | exact .emp | exact .int rfl | exact .sl rfl | exact .str rfl | exact .ptr (fun h => nomatch h) | exact .rptr _ | exact .clo rfl (fun i x y h => by simp at h) | exact .ref (fun h => nomatch h) (fun h => nomatch h) rfl rfl | exact lev_nil | refine lev_cons ?_ ?_ | refine LeV.agg rfl ?_ | (first | exact .int (spare_skip1 (by assumption)) | exact .int (spare_skip2 (by assumption)) | exact .int (spare_skip3 (by assumption)) | exact .int (spare_new (by assumption) (by assumption) (by assumption) (by assumption)) | exact .int (spare_better (by assumption) (by assumption) (by assumption) (by assumption) (by assumption)) | exact .int (spare_keep (by assumption) (by assumption) (by assumption) (by assumption) (by assumption)) | exact .int (by (try dsimp only); (first | omega | (simp only [ncast, true_and, List.length_append, List.length_take, List.length_drop, List.length_replicate, List.length_cons, List.length_nil] at *; omega)))))
    · repeat' first
        | (refine Sat.pop ?_; conv => arg 4; cbv)
        | refine Sat.done ?_
      refine .int ?_
      have e : i = 5 := by (first | omega | (simp only [ncast, true_and, List.length_append, List.length_take, List.length_drop, List.length_replicate, List.length_cons, List.length_nil] at *; omega))
      subst e
      simp [pickSpare, hs]

theorem w_slices_Grow_intint (n : Int) (hn : 0 ≤ n ∧ n ≤ 2200000) : Fn Pr n_slices_Grow_intint [.nil, .int .i64 (fun _ => n)] (.sl 1 (encI .i64) (fun _ => [])) := by
  refine k_slices_Grow_intint.fn (by kernel_rfl) ?_
  conv => arg 4; cbv
  repeat' first
    | (refine Sat.cmp (fun h => ?_) (fun h => ?_) <;> simp only [Cmp.holds] at h <;> (conv => arg 4; cbv))
    | (refine Sat.typ (encI .i64) 0 (by (repeat' (first | exact tnil | refine tcons ?_ ?_ | exact .same _ | exact .int rfl | exact .str rfl | exact .sl rfl | exact .nil rfl | (refine .sl ?_; simp; done))); (first | done | fail)) ?_; conv => arg 4; cbv)
    | (refine Sat.need (by (try dsimp only); (first | omega | (simp only [ncast, true_and, List.length_append, List.length_take, List.length_drop, List.length_replicate, List.length_cons, List.length_nil] at *; omega))) ?_; conv => arg 4; cbv)
    | (refine Sat.idxk (by assumption) ?_; conv => arg 4; cbv) | (refine Sat.idx (by (try dsimp only); (first | omega | (simp only [ncast, true_and, List.length_append, List.length_take, List.length_drop, List.length_replicate, List.length_cons, List.length_nil] at *; omega))) (fun v_ hv_ => ?_); conv => arg 4; cbv)
    | (refine Sat.ari64 (by (try dsimp only); (first | omega | (simp only [ncast, true_and, List.length_append, List.length_take, List.length_drop, List.length_replicate, List.length_cons, List.length_nil] at *; omega))) (by (try dsimp only); (first | omega | (simp only [ncast, true_and, List.length_append, List.length_take, List.length_drop, List.length_replicate, List.length_cons, List.length_nil] at *; omega))) ?_; conv => arg 4; cbv)
    | (refine Sat.pop ?_; conv => arg 4; cbv)
    | refine Sat.done ?_
  all_goals first | exact .nil rfl | exact .sl (by simp) | (exfalso; omega)

set_option maxHeartbeats 1000000 in
theorem w_slices_Concat_intint (ls : List (List Int)) (h1 : ls.length ≤ 1000) (h3 : ls.flatten.length ≤ 2100000) : Fn Pr n_slices_Concat_intint [.sl 1 (encL 1 (encI .i64)) (fun _ => ls)] (.sl 1 (encI .i64) (fun _ => ls.flatten)) := by
  have hf := fun i => flat_take_len (ls := ls) (i := i)
  refine k_slices_Concat_intint.fn (by kernel_rfl) ?_
  conv => arg 4; cbv
  refine Sat.loopP (ι := Nat) (fun i => [(11, .int .i64 (fun _ => (i : Int))), (3, .int .i64 (fun _ => ((ls.take i).flatten.length : Int)))]) (fun i => []) (fun i => i ≤ ls.length) (fun i => ls.length - i) 0 ?_ (by omega) (fun i hi => ?_)
  · refine les_of ?_ ?_ rfl
    · repeat' (first | exact trivial | refine And.intro ?_ ?_ | exact .any _ | exact .undef | exact .bo _ | exact .nil | exact .emp | exact .int rfl | exact .sl rfl | exact .str rfl | exact .ptr (fun h => nomatch h) | exact .rptr _ | exact .clo rfl (fun i x y h => by simp at h) | exact .ref (fun h => nomatch h) (fun h => nomatch h) rfl rfl | exact lev_nil | refine lev_cons ?_ ?_ | refine LeV.agg rfl ?_ | (exact .int (by simp)))
    · repeat' (first | exact trivial | refine And.intro ?_ ?_ | exact Nat.le_of_ble_eq_true rfl | exact Or.inl ⟨_, rfl, .row rfl⟩ | refine Or.inl ⟨_, rfl, .row ?_⟩ | refine Or.inl ⟨_, rfl, .lit rfl ?_⟩ | exact Or.inr ⟨rfl, rfl⟩ | exact .any _ | exact .undef | exact .bo _ | exact .nil | exact .emp | exact .int rfl | exact .sl rfl | exact .str rfl | exact .ptr (fun h => nomatch h) | exact .rptr _ | exact .clo rfl (fun i x y h => by simp at h) | exact .ref (fun h => nomatch h) (fun h => nomatch h) rfl rfl | exact lev_nil | refine lev_cons ?_ ?_ | refine LeV.agg rfl ?_ | (exact .int (by simp)))
  conv => arg 4; cbv
  repeat' first
    | (refine Sat.cmp (fun h => ?_) (fun h => ?_) <;> simp only [Cmp.holds] at h <;> (conv => arg 4; cbv))
    | (refine Sat.need (by (try dsimp only); (first | omega | (simp only [ncast, true_and, List.length_append, List.length_take, List.length_drop, List.length_replicate, List.length_cons, List.length_nil] at *; omega))) ?_; conv => arg 4; cbv)
    | (refine Sat.idxk (by assumption) ?_; conv => arg 4; cbv) | (refine Sat.idx (by (try dsimp only); (first | omega | (simp only [ncast, true_and, List.length_append, List.length_take, List.length_drop, List.length_replicate, List.length_cons, List.length_nil] at *; omega))) (fun v_ hv_ => ?_); conv => arg 4; cbv)
    | (refine Sat.ari64 (by have := hf i; have := hf (i + 1); have q := congrArg List.length (flat_take_succ (i := i) hv_); rw [List.length_append] at q; (try dsimp only); (first | omega | (simp only [ncast, true_and, List.length_append, List.length_take, List.length_drop, List.length_replicate, List.length_cons, List.length_nil] at *; omega))) (by have := hf i; have := hf (i + 1); have q := congrArg List.length (flat_take_succ (i := i) hv_); rw [List.length_append] at q; (try dsimp only); (first | omega | (simp only [ncast, true_and, List.length_append, List.length_take, List.length_drop, List.length_replicate, List.length_cons, List.length_nil] at *; omega))) ?_; conv => arg 4; cbv)
    | (refine Sat.ari64 (by (try dsimp only); (first | omega | (simp only [ncast, true_and, List.length_append, List.length_take, List.length_drop, List.length_replicate, List.length_cons, List.length_nil] at *; omega))) (by (try dsimp only); (first | omega | (simp only [ncast, true_and, List.length_append, List.length_take, List.length_drop, List.length_replicate, List.length_cons, List.length_nil] at *; omega))) ?_; conv => arg 4; cbv)
    | refine Sat.next (i + 1) ?_ ?_ (by (try dsimp only); (first | omega | (simp only [ncast, true_and, List.length_append, List.length_take, List.length_drop, List.length_replicate, List.length_cons, List.length_nil] at *; omega)))
    | (refine Sat.pop ?_; conv => arg 4; cbv)
  · exfalso; (first | omega | (simp only [ncast, true_and, List.length_append, List.length_take, List.length_drop, List.length_replicate, List.length_cons, List.length_nil] at *; omega))
  · refine les_of ?_ ?_ rfl
    · repeat' (first | exact trivial | refine And.intro ?_ ?_ | exact .any _ | exact .undef | exact .bo _ | exact .nil | exact .emp | exact .int rfl | exact .sl rfl | exact .str rfl | exact .ptr (fun h => nomatch h) | exact .rptr _ | exact .clo rfl (fun i x y h => by simp at h) | exact .ref (fun h => nomatch h) (fun h => nomatch h) rfl rfl | exact lev_nil | refine lev_cons ?_ ?_ | refine LeV.agg rfl ?_ | (exact .int (by have q := congrArg List.length (flat_take_succ (i := i) hv_); rw [List.length_append] at q; (try dsimp only); (first | omega | (simp only [ncast, true_and, List.length_append, List.length_take, List.length_drop, List.length_replicate, List.length_cons, List.length_nil] at *; omega)))))
    · repeat' (first | exact trivial | refine And.intro ?_ ?_ | exact Nat.le_of_ble_eq_true rfl | exact Or.inl ⟨_, rfl, .row rfl⟩ | refine Or.inl ⟨_, rfl, .row ?_⟩ | refine Or.inl ⟨_, rfl, .lit rfl ?_⟩ | exact Or.inr ⟨rfl, rfl⟩ | exact .any _ | exact .undef | exact .bo _ | exact .nil | exact .emp | exact .int rfl | exact .sl rfl | exact .str rfl | exact .ptr (fun h => nomatch h) | exact .rptr _ | exact .clo rfl (fun i x y h => by simp at h) | exact .ref (fun h => nomatch h) (fun h => nomatch h) rfl rfl | exact lev_nil | refine lev_cons ?_ ?_ | refine LeV.agg rfl ?_ | (exact .int (by have q := congrArg List.length (flat_take_succ (i := i) hv_); rw [List.length_append] at q; (try dsimp only); (first | omega | (simp only [ncast, true_and, List.length_append, List.length_take, List.length_drop, List.length_replicate, List.length_cons, List.length_nil] at *; omega)))))
  · (first | omega | (simp only [ncast, true_and, List.length_append, List.length_take, List.length_drop, List.length_replicate, List.length_cons, List.length_nil] at *; omega))
  have e1 : i = ls.length := by (first | omega | (simp only [ncast, true_and, List.length_append, List.length_take, List.length_drop, List.length_replicate, List.length_cons, List.length_nil] at *; omega))
  subst e1
  refine Sat.call (w_slices_Grow_intint (((ls.take ls.length).flatten.length : Nat) : Int) (by have := hf ls.length; omega)) rfl (by (repeat' (first | exact led_nil | refine led_cons ?_ ?_ | exact .same _ | exact .int rfl | exact .sl rfl | exact .str rfl | exact .nil rfl | exact .emp rfl | refine .agg rfl ?_ | refine .tup rfl ?_ | (refine .sl ?_; simp; done))); (first | done | fail)) ?_
  conv => arg 4; cbv
  refine Sat.loopP (ι := Nat) (fun j => [(27, .int .i64 (fun _ => (j : Int))), (6, .ref 112 (fun _ => 0) (fun _ => (ls.take j).flatten.length))]) (fun j => [(112, .row 1 (encI .i64) (fun _ => (ls.take j).flatten) false)]) (fun j => j ≤ ls.length) (fun j => ls.length - j) 0 ?_ (by omega) (fun j hj => ?_)
  · refine les_of ?_ ?_ rfl
    · repeat' (first | exact trivial | refine And.intro ?_ ?_ | exact .any _ | exact .undef | exact .bo _ | exact .nil | exact .emp | exact .int rfl | exact .sl rfl | exact .str rfl | exact .ptr (fun h => nomatch h) | exact .rptr _ | exact .clo rfl (fun i x y h => by simp at h) | exact .ref (fun h => nomatch h) (fun h => nomatch h) rfl rfl | exact lev_nil | refine lev_cons ?_ ?_ | refine LeV.agg rfl ?_ | (first | exact .ref (fun h => nomatch h) (fun h => nomatch h) rfl rfl | (simp; done)))
    · repeat' (first | exact trivial | refine And.intro ?_ ?_ | exact Nat.le_of_ble_eq_true rfl | exact Or.inl ⟨_, rfl, .row rfl⟩ | refine Or.inl ⟨_, rfl, .row ?_⟩ | refine Or.inl ⟨_, rfl, .lit rfl ?_⟩ | exact Or.inr ⟨rfl, rfl⟩ | exact .any _ | exact .undef | exact .bo _ | exact .nil | exact .emp | exact .int rfl | exact .sl rfl | exact .str rfl | exact .ptr (fun h => nomatch h) | exact .rptr _ | exact .clo rfl (fun i x y h => by simp at h) | exact .ref (fun h => nomatch h) (fun h => nomatch h) rfl rfl | exact lev_nil | refine lev_cons ?_ ?_ | refine LeV.agg rfl ?_ | (first | exact .ref (fun h => nomatch h) (fun h => nomatch h) rfl rfl | (simp; done)))
  conv => arg 4; cbv
  repeat' first
    | (refine Sat.cmp (fun h => ?_) (fun h => ?_) <;> simp only [Cmp.holds] at h <;> (conv => arg 4; cbv))
    | (refine Sat.need ⟨rfl, fun y _ => flat_encI .i64 y, by have := hf j; have := hf (j + 1); have q := congrArg List.length (flat_take_succ (i := j) hv_); rw [List.length_append] at q; (try dsimp only); (first | omega | (simp only [ncast, true_and, List.length_append, List.length_take, List.length_drop, List.length_replicate, List.length_cons, List.length_nil] at *; omega))⟩ ?_; conv => arg 4; cbv)
    | (refine Sat.need (by (try dsimp only); (first | omega | (simp only [ncast, true_and, List.length_append, List.length_take, List.length_drop, List.length_replicate, List.length_cons, List.length_nil] at *; omega))) ?_; conv => arg 4; cbv)
    | (refine Sat.idxk (by assumption) ?_; conv => arg 4; cbv) | (refine Sat.idx (by (try dsimp only); (first | omega | (simp only [ncast, true_and, List.length_append, List.length_take, List.length_drop, List.length_replicate, List.length_cons, List.length_nil] at *; omega))) (fun v_ hv_ => ?_); conv => arg 4; cbv)
    | (refine Sat.same ?_; conv => arg 4; cbv)
    | (refine Sat.ari64 (by (try dsimp only); (first | omega | (simp only [ncast, true_and, List.length_append, List.length_take, List.length_drop, List.length_replicate, List.length_cons, List.length_nil] at *; omega))) (by (try dsimp only); (first | omega | (simp only [ncast, true_and, List.length_append, List.length_take, List.length_drop, List.length_replicate, List.length_cons, List.length_nil] at *; omega))) ?_; conv => arg 4; cbv)
    | refine Sat.next (j + 1) ?_ ?_ (by (try dsimp only); (first | omega | (simp only [ncast, true_and, List.length_append, List.length_take, List.length_drop, List.length_replicate, List.length_cons, List.length_nil] at *; omega)))
    | (refine Sat.pop ?_; conv => arg 4; cbv)
    | refine Sat.done ?_
  · have q := flat_take_succ (i := j) hv_
    refine les_of ?_ ?_ rfl
    · repeat' (first | exact trivial | refine And.intro ?_ ?_ | exact .any _ | exact .undef | exact .bo _ | exact .nil | exact .emp | exact .int rfl | exact .sl rfl | exact .str rfl | exact .ptr (fun h => nomatch h) | exact .rptr _ | exact .clo rfl (fun i x y h => by simp at h) | exact .ref (fun h => nomatch h) (fun h => nomatch h) rfl rfl | exact lev_nil | refine lev_cons ?_ ?_ | refine LeV.agg rfl ?_ | (first | exact .ref (fun h => nomatch h) (fun h => nomatch h) rfl (by rw [q, List.length_append]) | (rw [q]; simp; done)))
    · repeat' (first | exact trivial | refine And.intro ?_ ?_ | exact Nat.le_of_ble_eq_true rfl | exact Or.inl ⟨_, rfl, .row rfl⟩ | refine Or.inl ⟨_, rfl, .row ?_⟩ | refine Or.inl ⟨_, rfl, .lit rfl ?_⟩ | exact Or.inr ⟨rfl, rfl⟩ | exact .any _ | exact .undef | exact .bo _ | exact .nil | exact .emp | exact .int rfl | exact .sl rfl | exact .str rfl | exact .ptr (fun h => nomatch h) | exact .rptr _ | exact .clo rfl (fun i x y h => by simp at h) | exact .ref (fun h => nomatch h) (fun h => nomatch h) rfl rfl | exact lev_nil | refine lev_cons ?_ ?_ | refine LeV.agg rfl ?_ | (first | exact .ref (fun h => nomatch h) (fun h => nomatch h) rfl (by rw [q, List.length_append]) | (rw [q]; simp; done)))
  · (first | omega | (simp only [ncast, true_and, List.length_append, List.length_take, List.length_drop, List.length_replicate, List.length_cons, List.length_nil] at *; omega))
  · refine .sl ?_
    have e1 : j = ls.length := by (first | omega | (simp only [ncast, true_and, List.length_append, List.length_take, List.length_drop, List.length_replicate, List.length_cons, List.length_nil] at *; omega))
    subst e1
    simp

theorem w_impl_UniteServers (a b : List Int) (h : a.length + b.length ≤ 12) : Fn Pr n_impl_UniteServers [.sl 1 (encI .i64) (fun _ => a), .sl 1 (encI .i64) (fun _ => b)] (.sl 1 (encI .i64) (fun _ => unite a b)) := by
  have hfl : [a, b].flatten = a ++ b := by simp
  have HC := w_slices_Concat_intint [a, b] (by simp) (by rw [hfl]; simp; omega)
  rw [hfl] at HC
  refine k_impl_UniteServers.fn (by kernel_rfl) ?_
  conv => arg 4; cbv
  repeat' first
    | (refine Sat.cmp (fun h => ?_) (fun h => ?_) <;> simp only [Cmp.holds] at h <;> (conv => arg 4; cbv))
    | (refine Sat.call HC rfl (led_cons (lsl2 (.sl rfl) (.sl rfl)) led_nil) ?_; conv => arg 4; cbv)
    | (refine Sat.callb (w_impl_ascending (a ++ b) (by simp; omega)) rfl (by (repeat' (first | exact led_nil | refine led_cons ?_ ?_ | exact .same _ | exact .int rfl | exact .sl rfl | exact .str rfl | exact .nil rfl | exact .emp rfl | refine .agg rfl ?_ | refine .tup rfl ?_ | (refine .sl ?_; simp; done))); (first | done | fail)) (fun h => ?_) (fun h => ?_) <;> (try simp only [decide_eq_true_eq, decide_eq_false_iff_not] at h) <;> (conv => arg 4; cbv))
    | (refine Sat.call (w_impl_ascending (a ++ b) (by simp; omega)) rfl (by (repeat' (first | exact led_nil | refine led_cons ?_ ?_ | exact .same _ | exact .int rfl | exact .sl rfl | exact .str rfl | exact .nil rfl | exact .emp rfl | refine .agg rfl ?_ | refine .tup rfl ?_ | (refine .sl ?_; simp; done))); (first | done | fail)) ?_; conv => arg 4; cbv)
    | (refine Sat.need (by (try dsimp only); (first | omega | (simp only [ncast, true_and, List.length_append, List.length_take, List.length_drop, List.length_replicate, List.length_cons, List.length_nil] at *; omega))) ?_; conv => arg 4; cbv)
    | (refine Sat.idxk (by assumption) ?_; conv => arg 4; cbv) | (refine Sat.idx (by (try dsimp only); (first | omega | (simp only [ncast, true_and, List.length_append, List.length_take, List.length_drop, List.length_replicate, List.length_cons, List.length_nil] at *; omega))) (fun v_ hv_ => ?_); conv => arg 4; cbv)
    | (refine Sat.ari64 (by (try dsimp only); (first | omega | (simp only [ncast, true_and, List.length_append, List.length_take, List.length_drop, List.length_replicate, List.length_cons, List.length_nil] at *; omega))) (by (try dsimp only); (first | omega | (simp only [ncast, true_and, List.length_append, List.length_take, List.length_drop, List.length_replicate, List.length_cons, List.length_nil] at *; omega))) ?_; conv => arg 4; cbv)
    | (refine Sat.pop ?_; conv => arg 4; cbv)
    | refine Sat.done ?_
  all_goals (refine .sl ?_; simp [unite])

theorem spare_not {l : List GPlace} {m av rk : List Int} : ∀ {i : Nat}, 0 ≤ spareAt l m av rk i → spareAt l m av rk i ∉ m
  | 0, h => by simp [spareAt] at h
  | i + 1, h => by
    have ih := spare_not (l := l) (m := m) (av := av) (rk := rk) (i := i)
    rw [spareAt, spareStep] at h ⊢
    split
    · rename_i hc
      rw [if_pos hc] at h
      split
      · exact hc.2.1
      · rename_i h1
        rw [if_neg h1] at h
        split
        · exact hc.2.1
        · rename_i h2
          rw [if_neg h2] at h
          exact ih h
    · rename_i hc
      rw [if_neg hc] at h
      exact ih h
theorem pickSpare_not {l : List GPlace} {m av : List Int} (h : 0 ≤ pickSpare l m av) : pickSpare l m av ∉ m ∧ pickSpare l m av ≤ 4 := by
  have hr := spareAt_rng (l := l) (m := m) (av := av) (rk := racks l m) (i := 5)
  unfold pickSpare at h ⊢
  split
  · rename_i hc
    rw [if_pos hc] at h
    exact ⟨spare_not h, by omega⟩
  · rename_i hc
    rw [if_neg hc] at h
    omega
theorem put_new {x : Int} : ∀ {l : List Int}, x ∉ l → (put x l).length = l.length + 1
  | [], _ => rfl
  | y :: r, h => by
    simp only [List.mem_cons, not_or] at h
    rw [put]
    split
    · simp
    · rw [if_neg h.1, List.length_cons, put_new h.2]; simp
theorem asc_put {l : List Int} {x : Int} (h : SAsc l) : asc (l ++ [x]) = put x l := sasc_eq (asc_strict _) (put_sasc h) (fun y => by rw [put_mem, asc_mem, List.mem_append, List.mem_singleton]; exact Or.comm)

/-- The servers of a plan: those that stay, then the spares, until there are n or no more. -/
def planGo (l : List GPlace) (dead : List Int) (n : Int) : Nat → List Int → List Int
  | 0, out => out
  | k + 1, out => if (out.length : Int) < n then (if pickSpare l out dead < 0 then out else planGo l dead n k (put (pickSpare l out dead) out)) else out
theorem planGo_end {l : List GPlace} {dead out : List Int} {n : Int} (h : ¬ (out.length : Int) < n) : ∀ k, planGo l dead n k out = out
  | 0 => rfl
  | k + 1 => by rw [planGo, if_neg h]
theorem planGo_no {l : List GPlace} {dead out : List Int} {n : Int} (h : pickSpare l out dead < 0) : ∀ k, planGo l dead n k out = out
  | 0 => rfl
  | k + 1 => by
    rw [planGo, if_pos h]
    split <;> rfl
theorem planGo_step {l : List GPlace} {dead out : List Int} {n : Int} {k : Nat} (h : (out.length : Int) < n) (h1 : ¬ pickSpare l out dead < 0) (hk : n - out.length ≤ k) : 1 ≤ k ∧ planGo l dead n k out = planGo l dead n (k - 1) (put (pickSpare l out dead) out) ∧ n - (put (pickSpare l out dead) out).length ≤ (k - 1 : Nat) ∧ (put (pickSpare l out dead) out).length = out.length + 1 := by
  have := put_new (pickSpare_not (l := l) (m := out) (av := dead) (by omega)).1
  obtain ⟨k, rfl⟩ : ∃ j, k = j + 1 := ⟨k - 1, by omega⟩
  exact ⟨by omega, by rw [planGo, if_pos h, if_neg h1]; rfl, by omega, this⟩
def plan (l : List GPlace) (m a : List Int) (n : Int) : List Int := if arePlaces l = true ∧ areServers m = true ∧ areServers a = true ∧ 0 ≤ n ∧ n ≤ 5 then planGo l (without [0, 1, 2, 3, 4] a) n 5 (common m a) else []
theorem planGo_len {l : List GPlace} {dead : List Int} {n : Int} : ∀ {k : Nat} {out : List Int}, (planGo l dead n k out).length ≤ out.length + k
  | 0, out => by simp [planGo]
  | k + 1, out => by
    rw [planGo]
    split
    · split
      · omega
      · have := planGo_len (l := l) (dead := dead) (n := n) (k := k) (out := put (pickSpare l out dead) out)
        have := put_len (x := pickSpare l out dead) (l := out)
        omega
    · omega
theorem plan_len {l : List GPlace} {m a : List Int} {n : Int} : (plan l m a n).length ≤ 10 := by
  unfold plan
  split
  · rename_i h
    have := areServers_len h.2.1
    have := common_len (a := m) (b := a)
    have := planGo_len (l := l) (dead := without [0, 1, 2, 3, 4] a) (n := n) (k := 5) (out := common m a)
    omega
  · simp

end Go.V.T
