/- Contracts of the functions that FnPlacement reaches: what each returns. Conditions: those that each theorem states. -/
import Derived.Test.YtdkphkbpeiojlaaWLPlacement
namespace Go.V.T
open Go Go.V Go.RowKit
set_option maxRecDepth 100000
set_option linter.unusedVariables false
set_option linter.unusedSimpArgs false
set_option maxHeartbeats 2000000 in
theorem w_impl_PickSpare (l : List GPlace) (m av : List Int) (hb : bPlaceS l) (hm : bIntS m) (ha : bIntS av) : Fn Pr n_impl_PickSpare [.sl 3 eGPlace (fun _ => l), .sl 1 (encI .i64) (fun _ => m), .sl 1 (encI .i64) (fun _ => av)] (.int .i64 (fun _ => pickSpare l m av)) := by
  have HS := w_impl_AreServers m hm
  have hrk : bIntS (racks l m) := by have := racks_len (l := l) (m := m); have : m.length * 8 ≤ 140737488351232 := hm; show (racks l m).length * 8 ≤ _; omega
  cases hs : areServers m
  · rw [hs] at HS
    refine k_impl_PickSpare.fn (by kernel_rfl) ?_
    conv => arg 4; cbv
    repeat' first
      | (refine Sat.cmp (fun h => ?_) (fun h => ?_) <;> simp only [Cmp.holds] at h <;> (conv => arg 4; cbv))
      | (refine Sat.call HS rfl ledA ?_; conv => arg 4; cbv)
      | (refine Sat.need ndA ?_; conv => arg 4; cbv)
      | (refine Sat.idxk (by assumption) ?_; conv => arg 4; cbv) | (refine Sat.idx ndA (fun v_ hv_ => ?_); conv => arg 4; cbv)
      | (refine Sat.ari64 ndA ndA ?_; conv => arg 4; cbv)
      | (refine Sat.pop ?_; conv => arg 4; cbv)
      | refine Sat.done ?_
    all_goals first | exact .int (by simp [pickSpare, hs]) | (exfalso; exact arA)
  rw [hs] at HS
  refine k_impl_PickSpare.fn (by kernel_rfl) ?_
  conv => arg 4; cbv
  refine Sat.call HS rfl ledA ?_
  conv => arg 4; cbv
  refine Sat.call (w_impl_RacksOf l m hb hm) rfl ledA ?_
  conv => arg 4; cbv
  refine Sat.loopP (ι := Nat) (fun i => [(19, .int .i64 (fun _ => (i : Int))), (7, .int .i64 (fun _ => spareAt l m av (racks l m) i))]) (fun i => []) (fun i => i ≤ 5) (fun i => 5 - i) 0 ?_ (by omega) (fun i hi => ?_)
  · exact lesA
  have hrg := spareAt_rng (l := l) (m := m) (av := av) (rk := racks l m) (i := i)
  conv => arg 4; cbv
  by_cases hbest : spareAt l m av (racks l m) i < 0
  · repeat' first
      | (refine Sat.cmp (fun h => ?_) (fun h => ?_) <;> simp only [Cmp.holds] at h <;> (conv => arg 4; cbv))
      | (refine Sat.callb (w_impl_HasRoom l _ hb) rfl ledA (fun h => ?_) (fun h => ?_) <;> (conv => arg 4; cbv))
      | (refine Sat.callb (w_impl_HasServer m _ hm) rfl ledA (fun h => ?_) (fun h => ?_) <;> (try simp only [decide_eq_true_eq, decide_eq_false_iff_not] at h) <;> (conv => arg 4; cbv))
      | (refine Sat.callb (w_impl_HasServer av _ ha) rfl ledA (fun h => ?_) (fun h => ?_) <;> (try simp only [decide_eq_true_eq, decide_eq_false_iff_not] at h) <;> (conv => arg 4; cbv))
      | contradiction
      | (refine Sat.ari64 ndA ndA ?_; conv => arg 4; cbv)
      | (refine Sat.pop ?_; conv => arg 4; cbv)
      | refine Sat.next (i + 1) ?_ (by exact arA) (by exact arA)
      | refine Sat.done ?_
    · refine les_of ?_ ?_ rfl
      iterate 2 (focus repeat' (first | exact trivial | refine And.intro ?_ ?_ | exact levA | refine lev_cons ?_ ?_ | refine LeV.agg rfl ?_ | exact Nat.le_of_ble_eq_true rfl | exact Or.inl ⟨_, rfl, .row rfl⟩ | refine Or.inl ⟨_, rfl, .row ?_⟩ | refine Or.inl ⟨_, rfl, .lit rfl ?_⟩ | exact Or.inr ⟨rfl, rfl⟩ | (first | exact .int (spare_skip1 (by assumption)) | exact .int (spare_skip2 (by assumption)) | exact .int (spare_skip3 (by assumption)) | exact .int (spare_new (by assumption) (by assumption) (by assumption) (by assumption)) | exact .int (spare_better (by assumption) (by assumption) (by assumption) (by assumption) (by assumption)) | exact .int (spare_keep (by assumption) (by assumption) (by assumption) (by assumption) (by assumption)) | exact .int (by (try dsimp only); exact arA))))
    · refine les_of ?_ ?_ rfl
      iterate 2 (focus repeat' (first | exact trivial | refine And.intro ?_ ?_ | exact levA | refine lev_cons ?_ ?_ | refine LeV.agg rfl ?_ | exact Nat.le_of_ble_eq_true rfl | exact Or.inl ⟨_, rfl, .row rfl⟩ | refine Or.inl ⟨_, rfl, .row ?_⟩ | refine Or.inl ⟨_, rfl, .lit rfl ?_⟩ | exact Or.inr ⟨rfl, rfl⟩ | (first | exact .int (spare_skip1 (by assumption)) | exact .int (spare_skip2 (by assumption)) | exact .int (spare_skip3 (by assumption)) | exact .int (spare_new (by assumption) (by assumption) (by assumption) (by assumption)) | exact .int (spare_better (by assumption) (by assumption) (by assumption) (by assumption) (by assumption)) | exact .int (spare_keep (by assumption) (by assumption) (by assumption) (by assumption) (by assumption)) | exact .int (by (try dsimp only); exact arA))))
    · refine les_of ?_ ?_ rfl
      iterate 2 (focus repeat' (first | exact trivial | refine And.intro ?_ ?_ | exact levA | refine lev_cons ?_ ?_ | refine LeV.agg rfl ?_ | exact Nat.le_of_ble_eq_true rfl | exact Or.inl ⟨_, rfl, .row rfl⟩ | refine Or.inl ⟨_, rfl, .row ?_⟩ | refine Or.inl ⟨_, rfl, .lit rfl ?_⟩ | exact Or.inr ⟨rfl, rfl⟩ | (first | exact .int (spare_skip1 (by assumption)) | exact .int (spare_skip2 (by assumption)) | exact .int (spare_skip3 (by assumption)) | exact .int (spare_new (by assumption) (by assumption) (by assumption) (by assumption)) | exact .int (spare_better (by assumption) (by assumption) (by assumption) (by assumption) (by assumption)) | exact .int (spare_keep (by assumption) (by assumption) (by assumption) (by assumption) (by assumption)) | exact .int (by (try dsimp only); exact arA))))
    · refine les_of ?_ ?_ rfl
      iterate 2 (focus repeat' (first | exact trivial | refine And.intro ?_ ?_ | exact levA | refine lev_cons ?_ ?_ | refine LeV.agg rfl ?_ | exact Nat.le_of_ble_eq_true rfl | exact Or.inl ⟨_, rfl, .row rfl⟩ | refine Or.inl ⟨_, rfl, .row ?_⟩ | refine Or.inl ⟨_, rfl, .lit rfl ?_⟩ | exact Or.inr ⟨rfl, rfl⟩ | (first | exact .int (spare_skip1 (by assumption)) | exact .int (spare_skip2 (by assumption)) | exact .int (spare_skip3 (by assumption)) | exact .int (spare_new (by assumption) (by assumption) (by assumption) (by assumption)) | exact .int (spare_better (by assumption) (by assumption) (by assumption) (by assumption) (by assumption)) | exact .int (spare_keep (by assumption) (by assumption) (by assumption) (by assumption) (by assumption)) | exact .int (by (try dsimp only); exact arA))))
    · refine .int ?_
      have e : i = 5 := by exact arA
      subst e
      simp [pickSpare, hs]
  · have hp : arePlaces l = true := by rcases hrg with e | e; omega; exact e.2.2
    have h5 := arePlaces_len hp
    obtain ⟨pb, hpb⟩ : ∃ p, l[(spareAt l m av (racks l m) i).toNat]? = some p := ⟨_, List.getElem?_eq_getElem (by omega)⟩
    have rb := rackAt_get hpb
    have lb := loadAt_get hpb
    refine Sat.cmp (fun h => ?_) (fun h => ?_) <;> simp only [Cmp.holds] at h <;> (conv => arg 4; cbv)
    · obtain ⟨pa, hpa⟩ : ∃ p, l[(i : Int).toNat]? = some p := ⟨_, List.getElem?_eq_getElem (by exact arA)⟩
      have ra := rackAt_get hpa
      have la := loadAt_get hpa
      have hbt : better l (racks l m) i (spareAt l m av (racks l m) i) = if decide (pa.Rack ∈ racks l m) = decide (pb.Rack ∈ racks l m) then decide (pa.Load < pb.Load) else decide (pb.Rack ∈ racks l m) := by rw [better, ra, rb, la, lb]
      clear ra rb la lb
      repeat' first
        | (refine Sat.cmp (fun h => ?_) (fun h => ?_) <;> simp only [Cmp.holds] at h <;> (conv => arg 4; cbv))
        | (refine Sat.need ndA ?_; conv => arg 4; cbv)
        | (refine Sat.idxk hpa ?_; conv => arg 4; cbv)
        | (refine Sat.idxk hpb ?_; conv => arg 4; cbv)
        | (refine Sat.callb (w_impl_HasRoom l _ hb) rfl ledA (fun h => ?_) (fun h => ?_) <;> (conv => arg 4; cbv))
        | (refine Sat.callb (w_impl_HasServer m _ hm) rfl ledA (fun h => ?_) (fun h => ?_) <;> (try simp only [decide_eq_true_eq, decide_eq_false_iff_not] at h) <;> (conv => arg 4; cbv))
        | (refine Sat.callb (w_impl_HasServer av _ ha) rfl ledA (fun h => ?_) (fun h => ?_) <;> (try simp only [decide_eq_true_eq, decide_eq_false_iff_not] at h) <;> (conv => arg 4; cbv))
        | (refine Sat.callb (w_impl_HasServer (racks l m) _ hrk) rfl ledA (fun h => ?_) (fun h => ?_) <;> (try simp only [decide_eq_true_eq, decide_eq_false_iff_not] at h) <;> (conv => arg 4; cbv))
        | contradiction
        | (refine Sat.ari64 ndA ndA ?_; conv => arg 4; cbv)
        | (refine Sat.pop ?_; conv => arg 4; cbv)
        | refine Sat.next (i + 1) ?_ (by exact arA) (by exact arA)
        | refine Sat.done ?_
      all_goals first
        | (have hB : better l (racks l m) i (spareAt l m av (racks l m) i) = true := by rw [hbt]; clear hbt; simp_all)
        | (have hB : better l (racks l m) i (spareAt l m av (racks l m) i) = false := by rw [hbt]; clear hbt; simp_all; omega)
        | (have hB : better l (racks l m) i (spareAt l m av (racks l m) i) = false := by rw [hbt]; clear hbt; simp_all)
        | skip
      · refine les_of ?_ ?_ rfl
        iterate 2 (focus repeat' (first | exact trivial | refine And.intro ?_ ?_ | exact levA | refine lev_cons ?_ ?_ | refine LeV.agg rfl ?_ | exact Nat.le_of_ble_eq_true rfl | exact Or.inl ⟨_, rfl, .row rfl⟩ | refine Or.inl ⟨_, rfl, .row ?_⟩ | refine Or.inl ⟨_, rfl, .lit rfl ?_⟩ | exact Or.inr ⟨rfl, rfl⟩ | (first | exact .int (spare_skip1 (by assumption)) | exact .int (spare_skip2 (by assumption)) | exact .int (spare_skip3 (by assumption)) | exact .int (spare_new (by assumption) (by assumption) (by assumption) (by assumption)) | exact .int (spare_better (by assumption) (by assumption) (by assumption) (by assumption) (by assumption)) | exact .int (spare_keep (by assumption) (by assumption) (by assumption) (by assumption) (by assumption)) | exact .int (by (try dsimp only); exact arA))))
      · refine les_of ?_ ?_ rfl
        iterate 2 (focus repeat' (first | exact trivial | refine And.intro ?_ ?_ | exact levA | refine lev_cons ?_ ?_ | refine LeV.agg rfl ?_ | exact Nat.le_of_ble_eq_true rfl | exact Or.inl ⟨_, rfl, .row rfl⟩ | refine Or.inl ⟨_, rfl, .row ?_⟩ | refine Or.inl ⟨_, rfl, .lit rfl ?_⟩ | exact Or.inr ⟨rfl, rfl⟩ | (first | exact .int (spare_skip1 (by assumption)) | exact .int (spare_skip2 (by assumption)) | exact .int (spare_skip3 (by assumption)) | exact .int (spare_new (by assumption) (by assumption) (by assumption) (by assumption)) | exact .int (spare_better (by assumption) (by assumption) (by assumption) (by assumption) (by assumption)) | exact .int (spare_keep (by assumption) (by assumption) (by assumption) (by assumption) (by assumption)) | exact .int (by (try dsimp only); exact arA))))
      · refine les_of ?_ ?_ rfl
        iterate 2 (focus repeat' (first | exact trivial | refine And.intro ?_ ?_ | exact levA | refine lev_cons ?_ ?_ | refine LeV.agg rfl ?_ | exact Nat.le_of_ble_eq_true rfl | exact Or.inl ⟨_, rfl, .row rfl⟩ | refine Or.inl ⟨_, rfl, .row ?_⟩ | refine Or.inl ⟨_, rfl, .lit rfl ?_⟩ | exact Or.inr ⟨rfl, rfl⟩ | (first | exact .int (spare_skip1 (by assumption)) | exact .int (spare_skip2 (by assumption)) | exact .int (spare_skip3 (by assumption)) | exact .int (spare_new (by assumption) (by assumption) (by assumption) (by assumption)) | exact .int (spare_better (by assumption) (by assumption) (by assumption) (by assumption) (by assumption)) | exact .int (spare_keep (by assumption) (by assumption) (by assumption) (by assumption) (by assumption)) | exact .int (by (try dsimp only); exact arA))))
      · refine les_of ?_ ?_ rfl
        iterate 2 (focus repeat' (first | exact trivial | refine And.intro ?_ ?_ | exact levA | refine lev_cons ?_ ?_ | refine LeV.agg rfl ?_ | exact Nat.le_of_ble_eq_true rfl | exact Or.inl ⟨_, rfl, .row rfl⟩ | refine Or.inl ⟨_, rfl, .row ?_⟩ | refine Or.inl ⟨_, rfl, .lit rfl ?_⟩ | exact Or.inr ⟨rfl, rfl⟩ | (first | exact .int (spare_skip1 (by assumption)) | exact .int (spare_skip2 (by assumption)) | exact .int (spare_skip3 (by assumption)) | exact .int (spare_new (by assumption) (by assumption) (by assumption) (by assumption)) | exact .int (spare_better (by assumption) (by assumption) (by assumption) (by assumption) (by assumption)) | exact .int (spare_keep (by assumption) (by assumption) (by assumption) (by assumption) (by assumption)) | exact .int (by (try dsimp only); exact arA))))
      · refine les_of ?_ ?_ rfl
        iterate 2 (focus repeat' (first | exact trivial | refine And.intro ?_ ?_ | exact levA | refine lev_cons ?_ ?_ | refine LeV.agg rfl ?_ | exact Nat.le_of_ble_eq_true rfl | exact Or.inl ⟨_, rfl, .row rfl⟩ | refine Or.inl ⟨_, rfl, .row ?_⟩ | refine Or.inl ⟨_, rfl, .lit rfl ?_⟩ | exact Or.inr ⟨rfl, rfl⟩ | (first | exact .int (spare_skip1 (by assumption)) | exact .int (spare_skip2 (by assumption)) | exact .int (spare_skip3 (by assumption)) | exact .int (spare_new (by assumption) (by assumption) (by assumption) (by assumption)) | exact .int (spare_better (by assumption) (by assumption) (by assumption) (by assumption) (by assumption)) | exact .int (spare_keep (by assumption) (by assumption) (by assumption) (by assumption) (by assumption)) | exact .int (by (try dsimp only); exact arA))))
      · refine les_of ?_ ?_ rfl
        iterate 2 (focus repeat' (first | exact trivial | refine And.intro ?_ ?_ | exact levA | refine lev_cons ?_ ?_ | refine LeV.agg rfl ?_ | exact Nat.le_of_ble_eq_true rfl | exact Or.inl ⟨_, rfl, .row rfl⟩ | refine Or.inl ⟨_, rfl, .row ?_⟩ | refine Or.inl ⟨_, rfl, .lit rfl ?_⟩ | exact Or.inr ⟨rfl, rfl⟩ | (first | exact .int (spare_skip1 (by assumption)) | exact .int (spare_skip2 (by assumption)) | exact .int (spare_skip3 (by assumption)) | exact .int (spare_new (by assumption) (by assumption) (by assumption) (by assumption)) | exact .int (spare_better (by assumption) (by assumption) (by assumption) (by assumption) (by assumption)) | exact .int (spare_keep (by assumption) (by assumption) (by assumption) (by assumption) (by assumption)) | exact .int (by (try dsimp only); exact arA))))
      · refine les_of ?_ ?_ rfl
        iterate 2 (focus repeat' (first | exact trivial | refine And.intro ?_ ?_ | exact levA | refine lev_cons ?_ ?_ | refine LeV.agg rfl ?_ | exact Nat.le_of_ble_eq_true rfl | exact Or.inl ⟨_, rfl, .row rfl⟩ | refine Or.inl ⟨_, rfl, .row ?_⟩ | refine Or.inl ⟨_, rfl, .lit rfl ?_⟩ | exact Or.inr ⟨rfl, rfl⟩ | (first | exact .int (spare_skip1 (by assumption)) | exact .int (spare_skip2 (by assumption)) | exact .int (spare_skip3 (by assumption)) | exact .int (spare_new (by assumption) (by assumption) (by assumption) (by assumption)) | exact .int (spare_better (by assumption) (by assumption) (by assumption) (by assumption) (by assumption)) | exact .int (spare_keep (by assumption) (by assumption) (by assumption) (by assumption) (by assumption)) | exact .int (by (try dsimp only); exact arA))))
      · refine les_of ?_ ?_ rfl
        iterate 2 (focus repeat' (first | exact trivial | refine And.intro ?_ ?_ | exact levA | refine lev_cons ?_ ?_ | refine LeV.agg rfl ?_ | exact Nat.le_of_ble_eq_true rfl | exact Or.inl ⟨_, rfl, .row rfl⟩ | refine Or.inl ⟨_, rfl, .row ?_⟩ | refine Or.inl ⟨_, rfl, .lit rfl ?_⟩ | exact Or.inr ⟨rfl, rfl⟩ | (first | exact .int (spare_skip1 (by assumption)) | exact .int (spare_skip2 (by assumption)) | exact .int (spare_skip3 (by assumption)) | exact .int (spare_new (by assumption) (by assumption) (by assumption) (by assumption)) | exact .int (spare_better (by assumption) (by assumption) (by assumption) (by assumption) (by assumption)) | exact .int (spare_keep (by assumption) (by assumption) (by assumption) (by assumption) (by assumption)) | exact .int (by (try dsimp only); exact arA))))
      · refine les_of ?_ ?_ rfl
        iterate 2 (focus repeat' (first | exact trivial | refine And.intro ?_ ?_ | exact levA | refine lev_cons ?_ ?_ | refine LeV.agg rfl ?_ | exact Nat.le_of_ble_eq_true rfl | exact Or.inl ⟨_, rfl, .row rfl⟩ | refine Or.inl ⟨_, rfl, .row ?_⟩ | refine Or.inl ⟨_, rfl, .lit rfl ?_⟩ | exact Or.inr ⟨rfl, rfl⟩ | (first | exact .int (spare_skip1 (by assumption)) | exact .int (spare_skip2 (by assumption)) | exact .int (spare_skip3 (by assumption)) | exact .int (spare_new (by assumption) (by assumption) (by assumption) (by assumption)) | exact .int (spare_better (by assumption) (by assumption) (by assumption) (by assumption) (by assumption)) | exact .int (spare_keep (by assumption) (by assumption) (by assumption) (by assumption) (by assumption)) | exact .int (by (try dsimp only); exact arA))))
    · repeat' first
        | (refine Sat.pop ?_; conv => arg 4; cbv)
        | refine Sat.done ?_
      refine .int ?_
      have e : i = 5 := by exact arA
      subst e
      simp [pickSpare, hs]

theorem w_slices_Grow_intint (n : Int) (hn : 0 ≤ n ∧ n ≤ 2200000) : Fn Pr n_slices_Grow_intint [.nil, .int .i64 (fun _ => n)] (.sl 1 (encI .i64) (fun _ => [])) := by
  refine k_slices_Grow_intint.fn (by kernel_rfl) ?_
  conv => arg 4; cbv
  repeat' first
    | (refine Sat.cmp (fun h => ?_) (fun h => ?_) <;> simp only [Cmp.holds] at h <;> (conv => arg 4; cbv))
    | (refine Sat.typ (encI .i64) 0 tcA ?_; conv => arg 4; cbv)
    | (refine Sat.need ndA ?_; conv => arg 4; cbv)
    | (refine Sat.idxk (by assumption) ?_; conv => arg 4; cbv) | (refine Sat.idx ndA (fun v_ hv_ => ?_); conv => arg 4; cbv)
    | (refine Sat.ari64 ndA ndA ?_; conv => arg 4; cbv)
    | (refine Sat.pop ?_; conv => arg 4; cbv)
    | refine Sat.done ?_
  all_goals first | exact .nil rfl | exact .sl (by simp) | (exfalso; omega)

set_option maxHeartbeats 1000000 in
theorem w_slices_Concat_intint (ls : List (List Int)) (h1 : ls.length ≤ 1000) (h3 : ls.flatten.length ≤ 2100000) : Fn Pr n_slices_Concat_intint [.sl 1 (encL 1 (encI .i64)) (fun _ => ls)] (.sl 1 (encI .i64) (fun _ => ls.flatten)) := by
  have hf := fun i => flat_take_len (ls := ls) (i := i)
  refine k_slices_Concat_intint.fn (by kernel_rfl) ?_
  conv => arg 4; cbv
  refine Sat.loopP (ι := Nat) (fun i => [(11, .int .i64 (fun _ => (i : Int))), (3, .int .i64 (fun _ => ((ls.take i).flatten.length : Int)))]) (fun i => []) (fun i => i ≤ ls.length) (fun i => ls.length - i) 0 ?_ (by omega) (fun i hi => ?_)
  · refine les_of ?_ ?_ rfl
    iterate 2 (focus repeat' (first | exact trivial | refine And.intro ?_ ?_ | exact levA | refine lev_cons ?_ ?_ | refine LeV.agg rfl ?_ | exact Nat.le_of_ble_eq_true rfl | exact Or.inl ⟨_, rfl, .row rfl⟩ | refine Or.inl ⟨_, rfl, .row ?_⟩ | refine Or.inl ⟨_, rfl, .lit rfl ?_⟩ | exact Or.inr ⟨rfl, rfl⟩ | (exact .int (by simp))))
  conv => arg 4; cbv
  repeat' first
    | (refine Sat.cmp (fun h => ?_) (fun h => ?_) <;> simp only [Cmp.holds] at h <;> (conv => arg 4; cbv))
    | (refine Sat.need ndA ?_; conv => arg 4; cbv)
    | (refine Sat.idxk (by assumption) ?_; conv => arg 4; cbv) | (refine Sat.idx ndA (fun v_ hv_ => ?_); conv => arg 4; cbv)
    | (refine Sat.ari64 (by have := hf i; have := hf (i + 1); have q := congrArg List.length (flat_take_succ (i := i) hv_); rw [List.length_append] at q; (try dsimp only); exact arA) (by have := hf i; have := hf (i + 1); have q := congrArg List.length (flat_take_succ (i := i) hv_); rw [List.length_append] at q; (try dsimp only); exact arA) ?_; conv => arg 4; cbv)
    | (refine Sat.ari64 ndA ndA ?_; conv => arg 4; cbv)
    | refine Sat.next (i + 1) ?_ ?_ (by (try dsimp only); exact arA)
    | (refine Sat.pop ?_; conv => arg 4; cbv)
  · exfalso; exact arA
  · refine les_of ?_ ?_ rfl
    iterate 2 (focus repeat' (first | exact trivial | refine And.intro ?_ ?_ | exact levA | refine lev_cons ?_ ?_ | refine LeV.agg rfl ?_ | exact Nat.le_of_ble_eq_true rfl | exact Or.inl ⟨_, rfl, .row rfl⟩ | refine Or.inl ⟨_, rfl, .row ?_⟩ | refine Or.inl ⟨_, rfl, .lit rfl ?_⟩ | exact Or.inr ⟨rfl, rfl⟩ | (exact .int (by have q := congrArg List.length (flat_take_succ (i := i) hv_); rw [List.length_append] at q; (try dsimp only); exact arA))))
  · exact arA
  have e1 : i = ls.length := by exact arA
  subst e1
  refine Sat.call (w_slices_Grow_intint (((ls.take ls.length).flatten.length : Nat) : Int) (by have := hf ls.length; omega)) rfl ledA ?_
  conv => arg 4; cbv
  refine Sat.loopP (ι := Nat) (fun j => [(27, .int .i64 (fun _ => (j : Int))), (6, .ref 112 (fun _ => 0) (fun _ => (ls.take j).flatten.length))]) (fun j => [(112, .row 1 (encI .i64) (fun _ => (ls.take j).flatten) false)]) (fun j => j ≤ ls.length) (fun j => ls.length - j) 0 ?_ (by omega) (fun j hj => ?_)
  · refine les_of ?_ ?_ rfl
    iterate 2 (focus repeat' (first | exact trivial | refine And.intro ?_ ?_ | exact levA | refine lev_cons ?_ ?_ | refine LeV.agg rfl ?_ | exact Nat.le_of_ble_eq_true rfl | exact Or.inl ⟨_, rfl, .row rfl⟩ | refine Or.inl ⟨_, rfl, .row ?_⟩ | refine Or.inl ⟨_, rfl, .lit rfl ?_⟩ | exact Or.inr ⟨rfl, rfl⟩ | (first | exact .ref (fun h => nomatch h) (fun h => nomatch h) rfl rfl | (simp; done))))
  conv => arg 4; cbv
  repeat' first
    | (refine Sat.cmp (fun h => ?_) (fun h => ?_) <;> simp only [Cmp.holds] at h <;> (conv => arg 4; cbv))
    | (refine Sat.need ⟨rfl, fun y _ => flat_encI .i64 y, by have := hf j; have := hf (j + 1); have q := congrArg List.length (flat_take_succ (i := j) hv_); rw [List.length_append] at q; (try dsimp only); exact arA⟩ ?_; conv => arg 4; cbv)
    | (refine Sat.need ndA ?_; conv => arg 4; cbv)
    | (refine Sat.idxk (by assumption) ?_; conv => arg 4; cbv) | (refine Sat.idx ndA (fun v_ hv_ => ?_); conv => arg 4; cbv)
    | (refine Sat.same ?_; conv => arg 4; cbv)
    | (refine Sat.ari64 ndA ndA ?_; conv => arg 4; cbv)
    | refine Sat.next (j + 1) ?_ ?_ (by (try dsimp only); exact arA)
    | (refine Sat.pop ?_; conv => arg 4; cbv)
    | refine Sat.done ?_
  · have q := flat_take_succ (i := j) hv_
    refine les_of ?_ ?_ rfl
    iterate 2 (focus repeat' (first | exact trivial | refine And.intro ?_ ?_ | exact levA | refine lev_cons ?_ ?_ | refine LeV.agg rfl ?_ | exact Nat.le_of_ble_eq_true rfl | exact Or.inl ⟨_, rfl, .row rfl⟩ | refine Or.inl ⟨_, rfl, .row ?_⟩ | refine Or.inl ⟨_, rfl, .lit rfl ?_⟩ | exact Or.inr ⟨rfl, rfl⟩ | (first | exact .ref (fun h => nomatch h) (fun h => nomatch h) rfl (by rw [q, List.length_append]) | (rw [q]; simp; done))))
  · exact arA
  · refine .sl ?_
    have e1 : j = ls.length := by exact arA
    subst e1
    simp

theorem w_impl_UniteServers (a b : List Int) (h : a.length + b.length ≤ 12) : Fn Pr n_impl_UniteServers [.sl 1 (encI .i64) (fun _ => a), .sl 1 (encI .i64) (fun _ => b)] (.sl 1 (encI .i64) (fun _ => unite a b)) := by
  have hfl : [a, b].flatten = a ++ b := by simp
  have HC := w_slices_Concat_intint [a, b] (by simp) (by rw [hfl]; simp; omega)
  rw [hfl] at HC
  refine k_impl_UniteServers.fn (by kernel_rfl) ?_
  conv => arg 4; cbv
  repeat' first
    | (refine Sat.cmp (fun h => ?_) (fun h => ?_) <;> simp only [Cmp.holds] at h <;> (conv => arg 4; cbv))
    | (refine Sat.call HC rfl (led_cons (lsl2 (.sl rfl) (.sl rfl)) led_nil) ?_; conv => arg 4; cbv)
    | (refine Sat.call (w_impl_ascending (a ++ b) (by simp; omega)) rfl ledA ?_; conv => arg 4; cbv)
    | (refine Sat.need ndA ?_; conv => arg 4; cbv)
    | (refine Sat.idxk (by assumption) ?_; conv => arg 4; cbv) | (refine Sat.idx ndA (fun v_ hv_ => ?_); conv => arg 4; cbv)
    | (refine Sat.ari64 ndA ndA ?_; conv => arg 4; cbv)
    | (refine Sat.pop ?_; conv => arg 4; cbv)
    | refine Sat.done ?_
  all_goals (refine .sl ?_; simp [unite])

theorem spare_not {l : List GPlace} {m av rk : List Int} : ∀ {i : Nat}, 0 ≤ spareAt l m av rk i → spareAt l m av rk i ∉ m
  | 0, h => by simp [spareAt] at h
  | i + 1, h => by
    have ih := spare_not (l := l) (m := m) (av := av) (rk := rk) (i := i)
    rw [spareAt, spareStep] at h ⊢
    split
    · rename_i hc
      rw [if_pos hc] at h
      split
      · exact hc.2.1
      · rename_i h1
        rw [if_neg h1] at h
        split
        · exact hc.2.1
        · rename_i h2
          rw [if_neg h2] at h
          exact ih h
    · rename_i hc
      rw [if_neg hc] at h
      exact ih h
theorem pickSpare_not {l : List GPlace} {m av : List Int} (h : 0 ≤ pickSpare l m av) : pickSpare l m av ∉ m ∧ pickSpare l m av ≤ 4 := by
  have hr := spareAt_rng (l := l) (m := m) (av := av) (rk := racks l m) (i := 5)
  unfold pickSpare at h ⊢
  split
  · rename_i hc
    rw [if_pos hc] at h
    exact ⟨spare_not h, by omega⟩
  · rename_i hc
    rw [if_neg hc] at h
    omega
theorem put_new {x : Int} : ∀ {l : List Int}, x ∉ l → (put x l).length = l.length + 1
  | [], _ => rfl
  | y :: r, h => by
    simp only [List.mem_cons, not_or] at h
    rw [put]
    split
    · simp
    · rw [if_neg h.1, List.length_cons, put_new h.2]; simp
theorem asc_put {l : List Int} {x : Int} (h : SAsc l) : asc (l ++ [x]) = put x l := sasc_eq (asc_strict _) (put_sasc h) (fun y => by rw [put_mem, asc_mem, List.mem_append, List.mem_singleton]; exact Or.comm)

/-- The servers of a plan: those that stay, then the spares, until there are n or no more. -/
def planGo (l : List GPlace) (dead : List Int) (n : Int) : Nat → List Int → List Int
  | 0, out => out
  | k + 1, out => if (out.length : Int) < n then (if pickSpare l out dead < 0 then out else planGo l dead n k (put (pickSpare l out dead) out)) else out
theorem planGo_end {l : List GPlace} {dead out : List Int} {n : Int} (h : ¬ (out.length : Int) < n) : ∀ k, planGo l dead n k out = out
  | 0 => rfl
  | k + 1 => by rw [planGo, if_neg h]
theorem planGo_no {l : List GPlace} {dead out : List Int} {n : Int} (h : pickSpare l out dead < 0) : ∀ k, planGo l dead n k out = out
  | 0 => rfl
  | k + 1 => by
    rw [planGo, if_pos h]
    split <;> rfl
theorem planGo_step {l : List GPlace} {dead out : List Int} {n : Int} {k : Nat} (h : (out.length : Int) < n) (h1 : ¬ pickSpare l out dead < 0) (hk : n - out.length ≤ k) : 1 ≤ k ∧ planGo l dead n k out = planGo l dead n (k - 1) (put (pickSpare l out dead) out) ∧ n - (put (pickSpare l out dead) out).length ≤ (k - 1 : Nat) ∧ (put (pickSpare l out dead) out).length = out.length + 1 := by
  have := put_new (pickSpare_not (l := l) (m := out) (av := dead) (by omega)).1
  obtain ⟨k, rfl⟩ : ∃ j, k = j + 1 := ⟨k - 1, by omega⟩
  exact ⟨by omega, by rw [planGo, if_pos h, if_neg h1]; rfl, by omega, this⟩
def plan (l : List GPlace) (m a : List Int) (n : Int) : List Int := if arePlaces l = true ∧ areServers m = true ∧ areServers a = true ∧ 0 ≤ n ∧ n ≤ 5 then planGo l (without [0, 1, 2, 3, 4] a) n 5 (common m a) else []
theorem planGo_len {l : List GPlace} {dead : List Int} {n : Int} : ∀ {k : Nat} {out : List Int}, (planGo l dead n k out).length ≤ out.length + k
  | 0, out => by simp [planGo]
  | k + 1, out => by
    rw [planGo]
    split
    · split
      · omega
      · have := planGo_len (l := l) (dead := dead) (n := n) (k := k) (out := put (pickSpare l out dead) out)
        have := put_len (x := pickSpare l out dead) (l := out)
        omega
    · omega
theorem plan_len {l : List GPlace} {m a : List Int} {n : Int} : (plan l m a n).length ≤ 10 := by
  unfold plan
  split
  · rename_i h
    have := areServers_len h.2.1
    have := common_len (a := m) (b := a)
    have := planGo_len (l := l) (dead := without [0, 1, 2, 3, 4] a) (n := n) (k := 5) (out := common m a)
    omega
  · simp

theorem w_impl_allServers : Fn Pr n_impl_allServers [] (.sl 1 (encI .i64) (fun _ => [0, 1, 2, 3, 4])) := by
  refine k_impl_allServers.fn (by kernel_rfl) ?_
  conv => arg 4; cbv
  refine Sat.loopP (ι := Nat) (fun i => [(4, .int .i64 (fun _ => (i : Int))), (1, .ref 64 (fun _ => 0) (fun _ => (([0, 1, 2, 3, 4] : List Int).take i).length))]) (fun i => [(64, .row 1 (encI .i64) (fun _ => ([0, 1, 2, 3, 4] : List Int).take i) false)]) (fun i => i ≤ 5) (fun i => 5 - i) 0 ?_ (by omega) (fun i hi => ?_)
  · refine les_of ?_ ?_ rfl
    iterate 2 (focus repeat' (first | exact trivial | refine And.intro ?_ ?_ | exact levA | refine lev_cons ?_ ?_ | refine LeV.agg rfl ?_ | exact Nat.le_of_ble_eq_true rfl | exact Or.inl ⟨_, rfl, .row rfl⟩ | refine Or.inl ⟨_, rfl, .row ?_⟩ | refine Or.inl ⟨_, rfl, .lit rfl ?_⟩ | exact Or.inr ⟨rfl, rfl⟩ | (first | exact .empref (fun h => nomatch h) rfl rfl rfl | rfl)))
  conv => arg 4; cbv
  repeat' first
    | (refine Sat.cmp (fun h => ?_) (fun h => ?_) <;> simp only [Cmp.holds] at h <;> (conv => arg 4; cbv))
    | (refine Sat.need ⟨rfl, fun y _ => flat_encI .i64 y, by (try dsimp only); simp only [List.length_map, List.length_take, List.length_cons, List.length_nil]; exact arA⟩ ?_; conv => arg 4; cbv)
    | (refine Sat.need ndA ?_; conv => arg 4; cbv)
    | (refine Sat.same ?_; conv => arg 4; cbv)
    | (refine Sat.ari64 ndA ndA ?_; conv => arg 4; cbv)
    | (refine Sat.pop ?_; conv => arg 4; cbv)
    | refine Sat.next (i + 1) ?_ (by exact arA) (by exact arA)
    | refine Sat.done ?_
  · have hs : ([0, 1, 2, 3, 4] : List Int).take (i + 1) = ([0, 1, 2, 3, 4] : List Int).take i ++ [(i : Int)] := by
      match i, (show i < 5 by exact arA) with
      | 0, _ | 1, _ | 2, _ | 3, _ | 4, _ => rfl
    refine les_of ?_ ?_ rfl
    iterate 2 (focus repeat' (first | exact trivial | refine And.intro ?_ ?_ | exact levA | refine lev_cons ?_ ?_ | refine LeV.agg rfl ?_ | exact Nat.le_of_ble_eq_true rfl | exact Or.inl ⟨_, rfl, .row rfl⟩ | refine Or.inl ⟨_, rfl, .row ?_⟩ | refine Or.inl ⟨_, rfl, .lit rfl ?_⟩ | exact Or.inr ⟨rfl, rfl⟩ | (first | exact .ref (fun h => nomatch h) (fun h => nomatch h) rfl (by (try dsimp only); rw [hs]; simp) | (rw [hs]; simp; done))))
  · refine .sl ?_
    have e : i = 5 := by exact arA
    subst e
    simp

theorem w_impl_PlanMembers (l : List GPlace) (m a : List Int) (n : Int) (hl : bPlaceS l) (hm : bIntS m) (ha : bIntS a) (_ : m.length ≤ 2000000) : Fn Pr n_impl_PlanMembers [.sl 3 eGPlace (fun _ => l), .sl 1 (encI .i64) (fun _ => m), .sl 1 (encI .i64) (fun _ => a), .int .i64 (fun _ => n)] (.sl 1 (encI .i64) (fun _ => plan l m a n)) := by
  by_cases hv : arePlaces l = true ∧ areServers m = true ∧ areServers a = true ∧ 0 ≤ n ∧ n ≤ 5
  · obtain ⟨h1, h2, h3, h4, h5⟩ := hv
    have HP := w_impl_ArePlaces l hl
    have HS := w_impl_AreServers m hm
    have HA := w_impl_AreServers a ha
    have h6 := areServers_len h2
    have h7 := areServers_len h3
    rw [h1] at HP
    rw [h2] at HS
    rw [h3] at HA
    refine k_impl_PlanMembers.fn (by kernel_rfl) ?_
    conv => arg 4; cbv
    repeat' first
      | (refine Sat.cmp (fun h => ?_) (fun h => ?_) <;> simp only [Cmp.holds] at h <;> (conv => arg 4; cbv))
      | (refine Sat.call (HP) rfl (by (repeat' (first | exact led_nil | refine led_cons ?_ ?_ | exact .same _ | exact .int rfl | exact .int (held_k (by assumption)) | exact .sl rfl | exact .str rfl | exact .nil rfl | exact .emp rfl | refine .agg rfl ?_ | refine .tup rfl ?_ | (refine .sl ?_; simp; done))); (first | done | fail)) ?_; conv => arg 4; cbv)
      | (refine Sat.call (HS) rfl (by (repeat' (first | exact led_nil | refine led_cons ?_ ?_ | exact .same _ | exact .int rfl | exact .int (held_k (by assumption)) | exact .sl rfl | exact .str rfl | exact .nil rfl | exact .emp rfl | refine .agg rfl ?_ | refine .tup rfl ?_ | (refine .sl ?_; simp; done))); (first | done | fail)) ?_; conv => arg 4; cbv)
      | (refine Sat.call (HA) rfl (by (repeat' (first | exact led_nil | refine led_cons ?_ ?_ | exact .same _ | exact .int rfl | exact .int (held_k (by assumption)) | exact .sl rfl | exact .str rfl | exact .nil rfl | exact .emp rfl | refine .agg rfl ?_ | refine .tup rfl ?_ | (refine .sl ?_; simp; done))); (first | done | fail)) ?_; conv => arg 4; cbv)
      | (refine Sat.callb (w_impl_within _ _ _) rfl ledA (fun h => ?_) (fun h => ?_) <;> (try simp only [decide_eq_true_eq, decide_eq_false_iff_not] at h) <;> (conv => arg 4; cbv))
      | (exfalso; omega)
      | (refine Sat.call (w_impl_CommonServers m a (by omega) ha) rfl ledA ?_; conv => arg 4; cbv)
      | (refine Sat.call (w_impl_allServers) rfl ledA ?_; conv => arg 4; cbv)
      | (refine Sat.call (w_impl_WithoutServers [0, 1, 2, 3, 4] a (by simp) ha) rfl ledA ?_; conv => arg 4; cbv)
      | (refine Sat.need ndA ?_; conv => arg 4; cbv)
      | (refine Sat.idxk (by assumption) ?_; conv => arg 4; cbv) | (refine Sat.idx ndA (fun v_ hv_ => ?_); conv => arg 4; cbv)
      | (refine Sat.ari64 ndA ndA ?_; conv => arg 4; cbv)
      | (refine Sat.pop ?_; conv => arg 4; cbv)
      | refine Sat.done ?_
    have hc := common_len (a := m) (b := a)
    have hd : bIntS (without [0, 1, 2, 3, 4] a) := by have := without_len (a := [0, 1, 2, 3, 4]) (b := a); show (without [0, 1, 2, 3, 4] a).length * 8 ≤ _; simp at this; omega
    have hpl : plan l m a n = planGo l (without [0, 1, 2, 3, 4] a) n 5 (common m a) := if_pos ⟨h1, h2, h3, h4, h5⟩
    refine Sat.loopP (ι := Nat × List Int) (fun s => [(9, .ref 336 (fun _ => 0) (fun _ => s.2.length))]) (fun s => [(336, .row 1 (encI .i64) (fun _ => s.2) false)]) (fun s => planGo l (without [0, 1, 2, 3, 4] a) n 5 (common m a) = planGo l (without [0, 1, 2, 3, 4] a) n s.1 s.2 ∧ n - s.2.length ≤ s.1 ∧ s.1 + s.2.length ≤ 10 ∧ SAsc s.2) (fun s => s.1) (5, common m a) ?_ ⟨rfl, by dsimp only; omega, by dsimp only; omega, asc_strict _⟩ (fun s hi => ?_)
    · exact lesA
    obtain ⟨k, out⟩ := s
    obtain ⟨hi1, hi2, hi3, hi4⟩ := hi
    dsimp only at hi1 hi2 hi3 hi4
    have ho : bIntS out := by show out.length * 8 ≤ _; omega
    conv => arg 4; cbv
    repeat' first
      | (refine Sat.cmp (fun h => ?_) (fun h => ?_) <;> simp only [Cmp.holds] at h <;> (conv => arg 4; cbv))
      | (refine Sat.call (w_impl_PickSpare l out _ hl ho hd) rfl ledA ?_; conv => arg 4; cbv)
      | (refine Sat.call (w_impl_UniteServers out [pickSpare l out (without [0, 1, 2, 3, 4] a)] (by simp; omega)) rfl ledA ?_; conv => arg 4; cbv)
      | (refine Sat.need ndA ?_; conv => arg 4; cbv)
      | (refine Sat.idxk (by assumption) ?_; conv => arg 4; cbv) | (refine Sat.idx ndA (fun v_ hv_ => ?_); conv => arg 4; cbv)
      | (refine Sat.ari64 ndA ndA ?_; conv => arg 4; cbv)
      | (refine Sat.pop ?_; conv => arg 4; cbv)
      | refine Sat.done ?_
    all_goals first
      | (refine .sl ?_; (try dsimp only); rw [hpl, hi1, planGo_no (by assumption)]; simp; done)
      | (refine .sl ?_; (try dsimp only); rw [hpl, hi1, planGo_end (by exact arA)]; simp; done)
      | skip
    · have hg := planGo_step (l := l) (dead := without [0, 1, 2, 3, 4] a) (n := n) (k := k) (out := out) (by assumption) (by assumption) hi2
      have hu : unite out [pickSpare l out (without [0, 1, 2, 3, 4] a)] = put (pickSpare l out (without [0, 1, 2, 3, 4] a)) out := asc_put hi4
      refine Sat.nextR 657 336 (k - 1, put (pickSpare l out (without [0, 1, 2, 3, 4] a)) out) rfl rfl rfl rfl ?_ ⟨hi1.trans hg.2.1, hg.2.2.1, by dsimp only; omega, put_sasc hi4⟩ (by dsimp only; omega)
      refine les_of ?_ ?_ rfl
      iterate 2 (focus repeat' (first | exact trivial | refine And.intro ?_ ?_ | exact levA | refine lev_cons ?_ ?_ | refine LeV.agg rfl ?_ | exact Nat.le_of_ble_eq_true rfl | exact Or.inl ⟨_, rfl, .row rfl⟩ | refine Or.inl ⟨_, rfl, .row ?_⟩ | refine Or.inl ⟨_, rfl, .lit rfl ?_⟩ | exact Or.inr ⟨rfl, rfl⟩ | (first | exact .ref (fun h => nomatch h) (fun h => nomatch h) rfl (by (try dsimp only); rw [hu]) | exact hu)))
  · rw [plan, if_neg hv]
    refine k_impl_PlanMembers.fn (by kernel_rfl) ?_
    conv => arg 4; cbv
    repeat' first
      | (refine Sat.cmp (fun h => ?_) (fun h => ?_) <;> simp only [Cmp.holds] at h <;> (conv => arg 4; cbv))
      | (refine Sat.callb (w_impl_ArePlaces l hl) rfl ledA (fun h => ?_) (fun h => ?_) <;> (try simp only [decide_eq_true_eq, decide_eq_false_iff_not] at h) <;> (conv => arg 4; cbv))
      | (refine Sat.callb (w_impl_AreServers m hm) rfl ledA (fun h => ?_) (fun h => ?_) <;> (try simp only [decide_eq_true_eq, decide_eq_false_iff_not] at h) <;> (conv => arg 4; cbv))
      | (refine Sat.callb (w_impl_AreServers a ha) rfl ledA (fun h => ?_) (fun h => ?_) <;> (try simp only [decide_eq_true_eq, decide_eq_false_iff_not] at h) <;> (conv => arg 4; cbv))
      | (refine Sat.callb (w_impl_within _ _ _) rfl ledA (fun h => ?_) (fun h => ?_) <;> (try simp only [decide_eq_true_eq, decide_eq_false_iff_not] at h) <;> (conv => arg 4; cbv))
      | (exfalso; exact hv ⟨by assumption, by assumption, by assumption, by omega, by omega⟩)
      | (refine Sat.need ndA ?_; conv => arg 4; cbv)
      | (refine Sat.idxk (by assumption) ?_; conv => arg 4; cbv) | (refine Sat.idx ndA (fun v_ hv_ => ?_); conv => arg 4; cbv)
      | (refine Sat.ari64 ndA ndA ?_; conv => arg 4; cbv)
      | (refine Sat.pop ?_; conv => arg 4; cbv)
      | refine Sat.done ?_
    all_goals exact ledA

theorem w_spec_PlanMembers (l : List GPlace) (m a : List Int) (n : Int) (hl : bPlaceS l) (hm : bIntS m) (ha : bIntS a) (h0 : m.length ≤ 2000000) : Fn Pr n_spec_PlanMembers [.sl 3 eGPlace (fun _ => l), .sl 1 (encI .i64) (fun _ => m), .sl 1 (encI .i64) (fun _ => a), .int .i64 (fun _ => n)] (.sl 1 (encI .i64) (fun _ => plan l m a n)) := by
  by_cases hv : arePlaces l = true ∧ areServers m = true ∧ areServers a = true ∧ 0 ≤ n ∧ n ≤ 5
  · obtain ⟨h1, h2, h3, h4, h5⟩ := hv
    have HP := w_spec_ArePlaces l hl
    have HS := w_spec_AreServers m hm
    have HA := w_spec_AreServers a ha
    have h6 := areServers_len h2
    have h7 := areServers_len h3
    rw [h1] at HP
    rw [h2] at HS
    rw [h3] at HA
    refine k_spec_PlanMembers.fn (by kernel_rfl) ?_
    conv => arg 4; cbv
    repeat' first
      | (refine Sat.cmp (fun h => ?_) (fun h => ?_) <;> simp only [Cmp.holds] at h <;> (conv => arg 4; cbv))
      | (refine Sat.call (HP) rfl (by (repeat' (first | exact led_nil | refine led_cons ?_ ?_ | exact .same _ | exact .int rfl | exact .int (held_k (by assumption)) | exact .sl rfl | exact .str rfl | exact .nil rfl | exact .emp rfl | refine .agg rfl ?_ | refine .tup rfl ?_ | (refine .sl ?_; simp; done))); (first | done | fail)) ?_; conv => arg 4; cbv)
      | (refine Sat.call (HS) rfl (by (repeat' (first | exact led_nil | refine led_cons ?_ ?_ | exact .same _ | exact .int rfl | exact .int (held_k (by assumption)) | exact .sl rfl | exact .str rfl | exact .nil rfl | exact .emp rfl | refine .agg rfl ?_ | refine .tup rfl ?_ | (refine .sl ?_; simp; done))); (first | done | fail)) ?_; conv => arg 4; cbv)
      | (refine Sat.call (HA) rfl (by (repeat' (first | exact led_nil | refine led_cons ?_ ?_ | exact .same _ | exact .int rfl | exact .int (held_k (by assumption)) | exact .sl rfl | exact .str rfl | exact .nil rfl | exact .emp rfl | refine .agg rfl ?_ | refine .tup rfl ?_ | (refine .sl ?_; simp; done))); (first | done | fail)) ?_; conv => arg 4; cbv)
      | (refine Sat.callb (w_spec_l1In _ _ _) rfl ledA (fun h => ?_) (fun h => ?_) <;> (try simp only [decide_eq_true_eq, decide_eq_false_iff_not] at h) <;> (conv => arg 4; cbv))
      | (exfalso; omega)
      | (refine Sat.call (w_spec_CommonServers m a h0 ha) rfl ledA ?_; conv => arg 4; cbv)
      | (refine Sat.call (w_spec_WithoutServers [0, 1, 2, 3, 4] a (by simp) ha) rfl ledA ?_; conv => arg 4; cbv)
      | (refine Sat.need ndA ?_; conv => arg 4; cbv)
      | (refine Sat.idxk (by assumption) ?_; conv => arg 4; cbv) | (refine Sat.idx ndA (fun v_ hv_ => ?_); conv => arg 4; cbv)
      | (refine Sat.ari64 ndA ndA ?_; conv => arg 4; cbv)
      | (refine Sat.pop ?_; conv => arg 4; cbv)
      | refine Sat.done ?_
    have hc := common_len (a := m) (b := a)
    have hd : bIntS (without [0, 1, 2, 3, 4] a) := by have := without_len (a := [0, 1, 2, 3, 4]) (b := a); show (without [0, 1, 2, 3, 4] a).length * 8 ≤ _; simp at this; omega
    have hpl : plan l m a n = planGo l (without [0, 1, 2, 3, 4] a) n 5 (common m a) := if_pos ⟨h1, h2, h3, h4, h5⟩
    refine Sat.loopP (ι := Nat × List Int) (fun s => [(9, .ref 48 (fun _ => 0) (fun _ => s.2.length)), (35, .any)]) (fun s => [(48, .row 1 (encI .i64) (fun _ => s.2) false)]) (fun s => planGo l (without [0, 1, 2, 3, 4] a) n 5 (common m a) = planGo l (without [0, 1, 2, 3, 4] a) n s.1 s.2 ∧ n - s.2.length ≤ s.1 ∧ s.1 + s.2.length ≤ 10 ∧ SAsc s.2) (fun s => s.1) (5, common m a) ?_ ⟨rfl, by dsimp only; omega, by dsimp only; omega, asc_strict _⟩ (fun s hi => ?_)
    · exact lesA
    obtain ⟨k, out⟩ := s
    obtain ⟨hi1, hi2, hi3, hi4⟩ := hi
    dsimp only at hi1 hi2 hi3 hi4
    have ho : bIntS out := by show out.length * 8 ≤ _; omega
    conv => arg 4; cbv
    repeat' first
      | (refine Sat.cmp (fun h => ?_) (fun h => ?_) <;> simp only [Cmp.holds] at h <;> (conv => arg 4; cbv))
      | (refine Sat.call (w_spec_PickSpare l out _ hl ho hd) rfl ledA ?_; conv => arg 4; cbv)
      | (refine Sat.call (w_spec_l2Put out _ (by omega)) rfl ledA ?_; conv => arg 4; cbv)
      | (refine Sat.need ndA ?_; conv => arg 4; cbv)
      | (refine Sat.idxk (by assumption) ?_; conv => arg 4; cbv) | (refine Sat.idx ndA (fun v_ hv_ => ?_); conv => arg 4; cbv)
      | (refine Sat.ari64 ndA ndA ?_; conv => arg 4; cbv)
      | (refine Sat.pop ?_; conv => arg 4; cbv)
      | refine Sat.done ?_
    all_goals first
      | (refine .sl ?_; (try dsimp only); rw [hpl, hi1, planGo_no (by assumption)]; simp; done)
      | (refine .sl ?_; (try dsimp only); rw [hpl, hi1, planGo_end (by exact arA)]; simp; done)
      | skip
    · have hg := planGo_step (l := l) (dead := without [0, 1, 2, 3, 4] a) (n := n) (k := k) (out := out) (by assumption) (by assumption) hi2
      refine Sat.nextR 641 48 (k - 1, put (pickSpare l out (without [0, 1, 2, 3, 4] a)) out) rfl rfl rfl rfl ?_ ⟨hi1.trans hg.2.1, hg.2.2.1, by dsimp only; omega, put_sasc hi4⟩ (by dsimp only; omega)
      exact lesA
  · rw [plan, if_neg hv]
    refine k_spec_PlanMembers.fn (by kernel_rfl) ?_
    conv => arg 4; cbv
    repeat' first
      | (refine Sat.cmp (fun h => ?_) (fun h => ?_) <;> simp only [Cmp.holds] at h <;> (conv => arg 4; cbv))
      | (refine Sat.callb (w_spec_ArePlaces l hl) rfl ledA (fun h => ?_) (fun h => ?_) <;> (try simp only [decide_eq_true_eq, decide_eq_false_iff_not] at h) <;> (conv => arg 4; cbv))
      | (refine Sat.callb (w_spec_AreServers m hm) rfl ledA (fun h => ?_) (fun h => ?_) <;> (try simp only [decide_eq_true_eq, decide_eq_false_iff_not] at h) <;> (conv => arg 4; cbv))
      | (refine Sat.callb (w_spec_AreServers a ha) rfl ledA (fun h => ?_) (fun h => ?_) <;> (try simp only [decide_eq_true_eq, decide_eq_false_iff_not] at h) <;> (conv => arg 4; cbv))
      | (refine Sat.callb (w_spec_l1In _ _ _) rfl ledA (fun h => ?_) (fun h => ?_) <;> (try simp only [decide_eq_true_eq, decide_eq_false_iff_not] at h) <;> (conv => arg 4; cbv))
      | (exfalso; exact hv ⟨by assumption, by assumption, by assumption, by omega, by omega⟩)
      | (refine Sat.call (w_spec_CommonServers m a h0 ha) rfl ledA ?_; conv => arg 4; cbv)
      | (refine Sat.call (w_spec_WithoutServers [0, 1, 2, 3, 4] a (by simp) ha) rfl ledA ?_; conv => arg 4; cbv)
      | (refine Sat.need ndA ?_; conv => arg 4; cbv)
      | (refine Sat.idxk (by assumption) ?_; conv => arg 4; cbv) | (refine Sat.idx ndA (fun v_ hv_ => ?_); conv => arg 4; cbv)
      | (refine Sat.ari64 ndA ndA ?_; conv => arg 4; cbv)
      | (refine Sat.pop ?_; conv => arg 4; cbv)
      | refine Sat.done ?_
    all_goals exact ledA

theorem w_spec_l1New (code : List Int) (hc : code.length ≤ 1048576) : FnN Pr n_spec_l1New [.sl 1 (encI .u8) (fun _ => code)] (fun cs => ∃ i h : Int, (0 ≤ i ∧ i ≤ (code.length : Int)) ∧ cs = curA code i h) := by
  refine k_spec_l1New.fnn (by kernel_rfl) ?_
  conv => arg 4; cbv
  repeat' first
    | (refine Sat.ari64 ndA ndA ?_; conv => arg 4; cbv)
    | (refine Sat.cmp (fun h => ?_) (fun h => ?_) <;> simp only [Cmp.holds] at h <;> (conv => arg 4; cbv))
  refine Sat.loopP (ι := Nat × Int) (fun p => [(3, .int .i64 (fun _ => p.2)), (4, .int .i64 (fun _ => (p.1 : Int)))]) (fun p => []) (fun p => p.1 ≤ code.length) (fun p => code.length - p.1) (0, 10101 + (code.length : Int)) ?_ (by simp) (fun p hp => ?_)
  · exact lesA
  conv => arg 4; cbv
  repeat' first
    | (refine Sat.cmp (fun h => ?_) (fun h => ?_) <;> simp only [Cmp.holds] at h <;> (conv => arg 4; cbv))
    | (refine Sat.need ndA ?_; conv => arg 4; cbv)
    | (refine Sat.idxk (by assumption) ?_; conv => arg 4; cbv) | (refine Sat.idx ndA (fun v_ hv_ => ?_); conv => arg 4; cbv)
    | (refine Sat.ari64 ndA ndA ?_; conv => arg 4; cbv)
    | (refine Sat.pop ?_; conv => arg 4; cbv)
    | (refine Sat.ariw ?_; conv => arg 4; cbv)
  · generalize bitI BinOp.and IntKind.i64 _ _ = z
    refine Sat.next (p.1 + 1, z) ?_ (by exact arA) (by exact arA)
    exact lesA
  all_goals exact Sat.done ⟨curA code 0 p.2, ⟨0, p.2, ⟨by omega, by omega⟩, rfl⟩, .same _⟩

def isInt (lo hi : Int) : AV → Prop := fun r => ∃ v : Int, r = .int .i64 (fun _ => v) ∧ lo ≤ v ∧ v ≤ hi
theorem w_spec_l1Byte (code : List Int) (hc : code.length ≤ 1048576) (i h : Int) (hi : 0 ≤ i ∧ i ≤ (code.length : Int)) : FnP Pr n_spec_l1Byte [.ptr 0 0] [curA code i h] (Dr code (isInt 0 255)) := by
  refine k_spec_l1Byte.fnp (by kernel_rfl) ?_
  conv => arg 4; cbv
  repeat' first
    | (refine Sat.cmp (fun h => ?_) (fun h => ?_) <;> simp only [Cmp.holds] at h <;> (conv => arg 4; cbv))
    | (refine Sat.need ndA ?_; conv => arg 4; cbv)
    | (refine Sat.idxk (by assumption) ?_; conv => arg 4; cbv) | (refine Sat.idx ndA (fun v_ hv_ => ?_); conv => arg 4; cbv)
    | (refine Sat.ari64 ndA ndA ?_; conv => arg 4; cbv)
    | (refine Sat.pop ?_; conv => arg 4; cbv)
    | (refine Sat.ariw ?_; conv => arg 4; cbv)
  all_goals generalize hz : bitI BinOp.and IntKind.i64 _ _ = z
  all_goals have hb : 0 ≤ z ∧ z ≤ 255 := by rw [← hz]; exact and_le (m := 255) (by omega)
  · have hi2 : 0 ≤ i + 1 ∧ i + 1 ≤ (code.length : Int) := ⟨by omega, by (simp only [ncast] at *; omega)⟩
    exact Sat.done (dr_end (ret := .int .i64 (fun _ => z)) ⟨z, rfl, hb.1, hb.2⟩ (.int rfl) hi2 rfl)
  · exact Sat.done (dr_end (ret := .int .i64 (fun _ => z)) ⟨z, rfl, hb.1, hb.2⟩ (.int rfl) hi rfl)

theorem w_spec_l1Below (code : List Int) (hc : code.length ≤ 1048576) (n : Int) (i h : Int) (hi : 0 ≤ i ∧ i ≤ (code.length : Int)) : FnP Pr n_spec_l1Below [.ptr 0 0, .int .i64 (fun _ => n)] [curA code i h] (Dr code (isInt 0 (max 0 (n - 1)))) := by
  refine k_spec_l1Below.fnp (by kernel_rfl) ?_
  conv => arg 4; cbv
  repeat' first
    | (refine Sat.cmp (fun h => ?_) (fun h => ?_) <;> simp only [Cmp.holds] at h <;> (conv => arg 4; cbv))
    | (refine Sat.need ndA ?_; conv => arg 4; cbv)
    | (refine Sat.draw (w_spec_l1Byte code hc) (by (try dsimp only); omega) (fun ret i' h' hi' hR => ?_); obtain ⟨v, rfl, hv0, hv1⟩ := hR; conv => arg 4; cbv)
    | (refine Sat.ari64 ndA ndA ?_; conv => arg 4; cbv)
    | (refine Sat.pop ?_; conv => arg 4; cbv)
  · exact Sat.done (dr_end (ret := .int .i64 (fun _ => 0)) ⟨0, rfl, by omega, by omega⟩ (.int rfl) hi rfl)
  · have h1 := Int.tmod_nonneg n hv0
    have h2 := Int.tmod_lt_of_pos v (show 0 < n by omega)
    exact Sat.done (dr_end (ret := .int .i64 (fun _ => v.tmod n)) ⟨_, rfl, by omega, by omega⟩ (.int rfl) hi' rfl)
  · rename_i i1 k1 hi1 v1 a1 b1 i2 k2 hi2 v2 a2 b2 i3 k3 hi3 v3 a3 b3
    have h1 := Int.tmod_nonneg n (show 0 ≤ v1 * 16777216 + v2 * 65536 + v3 * 256 + v by omega)
    have h2 := Int.tmod_lt_of_pos (v1 * 16777216 + v2 * 65536 + v3 * 256 + v) (show 0 < n by omega)
    exact Sat.done (dr_end (ret := .int .i64 (fun _ => (v1 * 16777216 + v2 * 65536 + v3 * 256 + v).tmod n)) ⟨_, rfl, by omega, by omega⟩ (.int rfl) hi' rfl)

def isB : AV → Prop := fun r => ∃ b : Bool, r = .bo b
theorem w_spec_l1Once (code : List Int) (hc : code.length ≤ 1048576) (n : Int) (i h : Int) (hi : 0 ≤ i ∧ i ≤ (code.length : Int)) : FnP Pr n_spec_l1Once [.ptr 0 0, .int .i64 (fun _ => n)] [curA code i h] (Dr code isB) := by
  refine k_spec_l1Once.fnp (by kernel_rfl) ?_
  conv => arg 4; cbv
  repeat' first
    | (refine Sat.cmp (fun h => ?_) (fun h => ?_) <;> simp only [Cmp.holds] at h <;> (conv => arg 4; cbv))
    | (refine Sat.need ndA ?_; conv => arg 4; cbv)
    | (refine Sat.draw (w_spec_l1Below code hc n) (by (try dsimp only); omega) (fun ret i' h' hi' hR => ?_); obtain ⟨v, rfl, hv0, hv1⟩ := hR; conv => arg 4; cbv)
    | (refine Sat.ari64 ndA ndA ?_; conv => arg 4; cbv)
    | (refine Sat.pop ?_; conv => arg 4; cbv)
  · exact Sat.done (dr_end (ret := .bo true) ⟨_, rfl⟩ (.same _) hi' rfl)
  · exact Sat.done (dr_end (ret := .bo false) ⟨_, rfl⟩ (.same _) hi' rfl)

def isAny : AV → Prop := fun r => ∃ v : Int, r = .int .i64 (fun _ => v)
theorem w_spec_l1PickInt (code : List Int) (hc : code.length ≤ 1048576) (l : List Int) (hl : 1 ≤ l.length) (hm : l.length ≤ 1000000) (i h : Int) (hi : 0 ≤ i ∧ i ≤ (code.length : Int)) : FnP Pr n_spec_l1PickInt [.ptr 0 0, .sl 1 (encI .i64) (fun _ => l)] [curA code i h] (Dr code isAny) := by
  refine k_spec_l1PickInt.fnp (by kernel_rfl) ?_
  conv => arg 4; cbv
  repeat' first
    | (refine Sat.cmp (fun h => ?_) (fun h => ?_) <;> simp only [Cmp.holds] at h <;> (conv => arg 4; cbv))
    | (refine Sat.need ndA ?_; conv => arg 4; cbv)
    | (refine Sat.draw (w_spec_l1Below code hc (l.length : Int)) (by (try dsimp only); omega) (fun ret i' h' hi' hR => ?_); obtain ⟨v, rfl, hv0, hv1⟩ := hR; conv => arg 4; cbv)
    | (refine Sat.idxk (by assumption) ?_; conv => arg 4; cbv) | (refine Sat.idx ndA (fun v_ hv_ => ?_); conv => arg 4; cbv)
    | (refine Sat.ari64 ndA ndA ?_; conv => arg 4; cbv)
    | (refine Sat.pop ?_; conv => arg 4; cbv)
  exact Sat.done (dr_end (ret := .int .i64 (fun _ => v_)) ⟨_, rfl⟩ (.int rfl) hi' rfl)

/-- Some whole numbers, at most n. -/
def isL (n : Nat) : AV → Prop := fun r => ∃ l : List Int, r = .sl 1 (encI .i64) (fun _ => l) ∧ l.length ≤ n
theorem w_spec_l2Some (code : List Int) (hc : code.length ≤ 1048576) (i h : Int) (hi : 0 ≤ i ∧ i ≤ (code.length : Int)) : FnP Pr n_spec_l2Some [.ptr 0 0] [curA code i h] (Dr code (isL 5)) := by
  refine k_spec_l2Some.fnp (by kernel_rfl) ?_
  conv => arg 4; cbv
  refine Sat.loopP (ι := Nat × List Int × Int × Int) (fun p => [(3, .ref 64 (fun _ => 0) (fun _ => p.2.1.length)), (4, .int .i64 (fun _ => (p.1 : Int)))]) (fun p => [(0, .lit 99 [.sl 1 (encI .u8) (fun _ => code), .int .i64 (fun _ => p.2.2.1), .int .i64 (fun _ => p.2.2.2)]), (64, .row 1 (encI .i64) (fun _ => p.2.1) false)]) (fun p => p.1 ≤ 5 ∧ p.2.1.length ≤ p.1 ∧ 0 ≤ p.2.2.1 ∧ p.2.2.1 ≤ (code.length : Int)) (fun p => 5 - p.1) (0, [], i, h) ?_ (by simp; omega) (fun p hp => ?_)
  · refine les_of ?_ ?_ rfl
    iterate 2 (focus repeat' (first | exact trivial | refine And.intro ?_ ?_ | exact levA | refine lev_cons ?_ ?_ | refine LeV.agg rfl ?_ | exact Nat.le_of_ble_eq_true rfl | exact Or.inl ⟨_, rfl, .row rfl⟩ | refine Or.inl ⟨_, rfl, .row ?_⟩ | refine Or.inl ⟨_, rfl, .lit rfl ?_⟩ | exact Or.inr ⟨rfl, rfl⟩ | (first | exact .empref (fun h => nomatch h) rfl rfl rfl | rfl)))
  conv => arg 4; cbv
  repeat' first
    | (refine Sat.cmp (fun h => ?_) (fun h => ?_) <;> simp only [Cmp.holds] at h <;> (conv => arg 4; cbv))
    | (refine Sat.need ndA ?_; conv => arg 4; cbv)
    | (refine Sat.draw (w_spec_l1Once code hc 2) hp.2.2 (fun ret i' h' hi' hR => ?_); obtain ⟨b, rfl⟩ := hR; cases b <;> (conv => arg 4; cbv))
    | (refine Sat.idxk (by assumption) ?_; conv => arg 4; cbv) | (refine Sat.idx ndA (fun v_ hv_ => ?_); conv => arg 4; cbv)
    | (refine Sat.ari64 ndA ndA ?_; conv => arg 4; cbv)
    | (refine Sat.pop ?_; conv => arg 4; cbv)
    | (refine Sat.need ⟨rfl, fun y hy j hj => rfl, by (try dsimp only); omega⟩ ?_; conv => arg 4; cbv)
    | (refine Sat.same ?_; conv => arg 4; cbv)
  · refine Sat.next (p.1 + 1, p.2.1, i', h') ?_ ⟨by exact arA, by (try dsimp only); omega, hi'⟩ (by (try dsimp only); exact arA)
    exact lesA
  · refine Sat.next (p.1 + 1, p.2.1 ++ [(p.1 : Int)], i', h') ?_ ⟨by exact arA, by (try dsimp only); simp; omega, hi'⟩ (by (try dsimp only); exact arA)
    refine les_of ?_ ?_ rfl
    iterate 2 (focus repeat' (first | exact trivial | refine And.intro ?_ ?_ | exact levA | refine lev_cons ?_ ?_ | refine LeV.agg rfl ?_ | exact Nat.le_of_ble_eq_true rfl | exact Or.inl ⟨_, rfl, .row rfl⟩ | refine Or.inl ⟨_, rfl, .row ?_⟩ | refine Or.inl ⟨_, rfl, .lit rfl ?_⟩ | exact Or.inr ⟨rfl, rfl⟩ | (first | exact .ref (fun h => nomatch h) (fun h => nomatch h) rfl (by simp) | (simp; done))))
  · exact Sat.done (dr_end (ret := .sl 1 (encI .i64) (fun _ => p.2.1)) ⟨_, rfl, by omega⟩ (.sl (by simp)) hp.2.2 rfl)

theorem w_spec_l2Any (code : List Int) (hc : code.length ≤ 1048576) (i h : Int) (hi : 0 ≤ i ∧ i ≤ (code.length : Int)) : FnP Pr n_spec_l2Any [.ptr 0 0] [curA code i h] (Dr code (isL 6)) := by
  refine k_spec_l2Any.fnp (by kernel_rfl) ?_
  conv => arg 4; cbv
  repeat' first
    | (refine Sat.cmp (fun h => ?_) (fun h => ?_) <;> simp only [Cmp.holds] at h <;> (conv => arg 4; cbv))
    | (refine Sat.need ndA ?_; conv => arg 4; cbv)
    | (refine Sat.draw (w_spec_l2Some code hc) (by (try dsimp only); omega) (fun ret i' h' hi' hR => ?_); obtain ⟨l, rfl, hl⟩ := hR; conv => arg 4; cbv)
    | (refine Sat.draw (w_spec_l1Once code hc 8) (by (try dsimp only); omega) (fun ret i' h' hi' hR => ?_); obtain ⟨b, rfl⟩ := hR; cases b <;> (conv => arg 4; cbv))
    | (refine Sat.draw (w_spec_l1PickInt code hc [-1, 0, 4, 5] (by decide) (by decide)) (by (try dsimp only); omega) (fun ret i' h' hi' hR => ?_); obtain ⟨v, rfl⟩ := hR; conv => arg 4; cbv)
    | (refine Sat.idxk (by assumption) ?_; conv => arg 4; cbv) | (refine Sat.idx ndA (fun v_ hv_ => ?_); conv => arg 4; cbv)
    | (refine Sat.ari64 ndA ndA ?_; conv => arg 4; cbv)
    | (refine Sat.pop ?_; conv => arg 4; cbv)
  · exact Sat.done (dr_end (ret := .sl 1 (encI .i64) (fun _ => l)) ⟨_, rfl, by omega⟩ (.sl (by simp)) hi' rfl)
  · refine Sat.need ⟨rfl, fun y hy j hj => ?_, by (try dsimp only); omega⟩ ?_
    · rfl
    conv => arg 4; cbv
    refine Sat.same ?_
    conv => arg 4; cbv
    exact Sat.done (dr_end (ret := .sl 1 (encI .i64) (fun _ => l ++ [v])) ⟨_, rfl, by simp; omega⟩ (.sl (by simp)) hi' rfl)

/-- Places, n of them. -/
def isPl (n m : Nat) : AV → Prop := fun r => ∃ l : List GPlace, r = .sl 3 eGPlace (fun _ => l) ∧ n ≤ l.length ∧ l.length ≤ m
theorem w_spec_l9Places (code : List Int) (hc : code.length ≤ 1048576) (i h : Int) (hi : 0 ≤ i ∧ i ≤ (code.length : Int)) : FnP Pr n_spec_l9Places [.ptr 0 0] [curA code i h] (Dr code (isPl 5 5)) := by
  refine k_spec_l9Places.fnp (by kernel_rfl) ?_
  conv => arg 4; cbv
  refine Sat.loopP (ι := Nat × List GPlace × Int × Int) (fun p => [(3, .ref 64 (fun _ => 0) (fun _ => p.2.1.length)), (4, .int .i64 (fun _ => (p.1 : Int)))]) (fun p => [(0, .lit 99 [.sl 1 (encI .u8) (fun _ => code), .int .i64 (fun _ => p.2.2.1), .int .i64 (fun _ => p.2.2.2)]), (64, .row 3 eGPlace (fun _ => p.2.1) false)]) (fun p => p.1 ≤ 5 ∧ p.2.1.length = p.1 ∧ 0 ≤ p.2.2.1 ∧ p.2.2.1 ≤ (code.length : Int)) (fun p => 5 - p.1) (0, [], i, h) ?_ (by simp; omega) (fun p hp => ?_)
  · refine les_of ?_ ?_ rfl
    iterate 2 (focus repeat' (first | exact trivial | refine And.intro ?_ ?_ | exact levA | refine lev_cons ?_ ?_ | refine LeV.agg rfl ?_ | exact Nat.le_of_ble_eq_true rfl | exact Or.inl ⟨_, rfl, .row rfl⟩ | refine Or.inl ⟨_, rfl, .row ?_⟩ | refine Or.inl ⟨_, rfl, .lit rfl ?_⟩ | exact Or.inr ⟨rfl, rfl⟩ | (first | exact .empref (fun h => nomatch h) rfl rfl rfl | rfl)))
  conv => arg 4; cbv
  repeat' first
    | (refine Sat.cmp (fun h => ?_) (fun h => ?_) <;> simp only [Cmp.holds] at h <;> (conv => arg 4; cbv))
    | (refine Sat.need ndA ?_; conv => arg 4; cbv)
    | (refine Sat.draw (w_spec_l1Below code hc 4) hp.2.2 (fun ret i1 h1 hi1 hR => ?_); obtain ⟨v, rfl, hv0, hv1⟩ := hR; conv => arg 4; cbv)
    | (refine Sat.draw (w_spec_l1Below code hc 4) (by assumption) (fun ret i1 h1 hi1 hR => ?_); obtain ⟨v, rfl, hv0, hv1⟩ := hR; conv => arg 4; cbv)
    | (refine Sat.idxk (by assumption) ?_; conv => arg 4; cbv) | (refine Sat.idx ndA (fun v_ hv_ => ?_); conv => arg 4; cbv)
    | (refine Sat.ari64 ndA ndA ?_; conv => arg 4; cbv)
    | (refine Sat.pop ?_; conv => arg 4; cbv)
  · rename_i i2 h2 hi2 v2 a2 b2 i3 h3 hi3 v3 a3 b3
    refine Sat.typed (⟨v2, 1 + v3, v⟩ : GPlace) tcA ?_
    conv => arg 4; cbv
    repeat' first
      | (refine Sat.need ndA ?_; conv => arg 4; cbv)
      | (refine Sat.ari64 ndA ndA ?_; conv => arg 4; cbv)
      | refine Sat.next (p.1 + 1, p.2.1 ++ [⟨v2, 1 + v3, v⟩], i1, h1) ?_ ⟨by exact arA, by (try dsimp only); simp; omega, hi1⟩ (by (try dsimp only); exact arA)
    refine les_of ?_ ?_ rfl
    iterate 2 (focus repeat' (first | exact trivial | refine And.intro ?_ ?_ | exact levA | refine lev_cons ?_ ?_ | refine LeV.agg rfl ?_ | exact Nat.le_of_ble_eq_true rfl | exact Or.inl ⟨_, rfl, .row rfl⟩ | refine Or.inl ⟨_, rfl, .row ?_⟩ | refine Or.inl ⟨_, rfl, .lit rfl ?_⟩ | exact Or.inr ⟨rfl, rfl⟩ | (first | exact .ref (fun h => nomatch h) (fun h => nomatch h) rfl (by simp) | (simp; done))))
  · have e5 : p.1 = 5 := by exact arA
    exact Sat.done (dr_end (ret := .sl 3 eGPlace (fun _ => p.2.1)) ⟨_, rfl, by omega, by omega⟩ (.sl (by simp)) hp.2.2 rfl)

theorem w_spec_l9Any (code : List Int) (hc : code.length ≤ 1048576) (i h : Int) (hi : 0 ≤ i ∧ i ≤ (code.length : Int)) : FnP Pr n_spec_l9Any [.ptr 0 0] [curA code i h] (Dr code (isPl 0 5)) := by
  refine k_spec_l9Any.fnp (by kernel_rfl) ?_
  conv => arg 4; cbv
  refine Sat.draw (w_spec_l9Places code hc) hi (fun ret i1 h1 hi1 hR => ?_)
  obtain ⟨l, rfl, hl0, hl1⟩ := hR
  conv => arg 4; cbv
  refine Sat.draw (w_spec_l1Below code hc 14) hi1 (fun ret i2 h2 hi2 hR => ?_)
  obtain ⟨v, rfl, hv0, hv1⟩ := hR
  conv => arg 4; cbv
  repeat' first
    | (refine Sat.cmp (fun h => ?_) (fun h => ?_) <;> simp only [Cmp.holds] at h <;> (conv => arg 4; cbv))
    | (refine Sat.need ndA ?_; conv => arg 4; cbv)
    | (refine Sat.draw (w_spec_l1PickInt code hc [-1, 9, 10] (by decide) (by decide)) hi2 (fun ret i3 h3 hi3 hR => ?_); obtain ⟨u, rfl⟩ := hR; conv => arg 4; cbv)
    | (refine Sat.draw (w_spec_l1PickInt code hc [-1, 99, 100] (by decide) (by decide)) hi2 (fun ret i3 h3 hi3 hR => ?_); obtain ⟨u, rfl⟩ := hR; conv => arg 4; cbv)
    | (refine Sat.idxk (by assumption) ?_; conv => arg 4; cbv) | (refine Sat.idx ndA (fun v_ hv_ => ?_); conv => arg 4; cbv)
    | (refine Sat.ari64 ndA ndA ?_; conv => arg 4; cbv)
    | (refine Sat.pop ?_; conv => arg 4; cbv)
    | (refine Sat.done ?_)
  · exact dr_end (ret := .sl 3 eGPlace (fun _ => l.drop 1)) ⟨_, rfl, by omega, by simp; omega⟩ (.sl (by (try dsimp only); rw [List.take_of_length_le (by simp)]; simp)) hi2 rfl
  · refine Sat.typed (⟨u, v_.Capacity, v_.Load⟩ : GPlace) tcA ?_
    conv => arg 4; cbv
    repeat' first
      | (refine Sat.cmp (fun h => ?_) (fun h => ?_) <;> simp only [Cmp.holds] at h <;> (conv => arg 4; cbv))
      | (refine Sat.need ndA ?_; conv => arg 4; cbv)
      | (exfalso; omega)
    exact Sat.done (dr_end (ret := .sl 3 eGPlace (fun _ => l.set 0 ⟨u, v_.Capacity, v_.Load⟩)) ⟨_, rfl, by omega, by simp; omega⟩ (.sl (by simp [setAt])) hi3 rfl)
  · refine Sat.typed (⟨v_.Rack, v_.Capacity, u⟩ : GPlace) tcA ?_
    conv => arg 4; cbv
    repeat' first
      | (refine Sat.cmp (fun h => ?_) (fun h => ?_) <;> simp only [Cmp.holds] at h <;> (conv => arg 4; cbv))
      | (refine Sat.need ndA ?_; conv => arg 4; cbv)
      | (exfalso; omega)
    exact Sat.done (dr_end (ret := .sl 3 eGPlace (fun _ => l.set 1 ⟨v_.Rack, v_.Capacity, u⟩)) ⟨_, rfl, by omega, by simp; omega⟩ (.sl (by simp [setAt])) hi3 rfl)
  · exact dr_end (ret := .sl 3 eGPlace (fun _ => l)) ⟨_, rfl, by omega, by omega⟩ (.sl (by simp)) hi2 rfl

theorem w_spec_DrawPlanMembers (code : List Int) (hc : code.length ≤ 1048576) : FnP Pr n_spec_DrawPlanMembers [.sl 1 (encI .u8) (fun _ => code)] [] (fun ret outs => outs = [] ∧ ∃ (l : List GPlace) (m a : List Int) (n : Int), ret = .tup [.sl 3 eGPlace (fun _ => l), .sl 1 (encI .i64) (fun _ => m), .sl 1 (encI .i64) (fun _ => a), .int .i64 (fun _ => n)] ∧ l.length ≤ 5 ∧ m.length ≤ 6 ∧ a.length ≤ 6 ∧ -1 ≤ n ∧ n ≤ 6) := by
  refine k_spec_DrawPlanMembers.fnq (by kernel_rfl) ?_
  conv => arg 4; cbv
  repeat' first
    | (refine Sat.newv (w_spec_l1New code hc) (fun cs hcs => ?_); obtain ⟨i, h, hi, rfl⟩ := hcs; conv => arg 4; cbv)
    | (refine Sat.draw (w_spec_l9Any code hc) (by assumption) (fun ret i1 h1 hi1 hR => ?_); obtain ⟨l, rfl, hl0, hl1⟩ := hR; conv => arg 4; cbv)
    | (refine Sat.draw (w_spec_l2Any code hc) (by assumption) (fun ret i1 h1 hi1 hR => ?_); obtain ⟨m, rfl, hm⟩ := hR; conv => arg 4; cbv)
    | (refine Sat.draw (w_spec_l1Below code hc 8) (by assumption) (fun ret i1 h1 hi1 hR => ?_); obtain ⟨v, rfl, hv0, hv1⟩ := hR; conv => arg 4; cbv)
    | (refine Sat.ari64 ndA ndA ?_; conv => arg 4; cbv)
  rename_i i2 h2 hi2 m2 hm2 i3 h3 hi3
  exact Sat.done ⟨.tup [.sl 3 eGPlace (fun _ => l), .sl 1 (encI .i64) (fun _ => m2), .sl 1 (encI .i64) (fun _ => m), .int .i64 (fun _ => v - 1)], ⟨rfl, l, m2, m, v - 1, rfl, hl1, hm2, hm, by omega, by omega⟩, .tup rfl (led_cons (.sl (by simp)) (led_cons (.sl (by simp)) (led_cons (.sl (by simp)) (led_cons (.int rfl) led_nil))))⟩

theorem w_spec_DrawPickSpare (code : List Int) (hc : code.length ≤ 1048576) : FnP Pr n_spec_DrawPickSpare [.sl 1 (encI .u8) (fun _ => code)] [] (fun ret outs => outs = [] ∧ ∃ (l : List GPlace) (m a : List Int), ret = .tup [.sl 3 eGPlace (fun _ => l), .sl 1 (encI .i64) (fun _ => m), .sl 1 (encI .i64) (fun _ => a)] ∧ l.length ≤ 5 ∧ m.length ≤ 6 ∧ a.length ≤ 6) := by
  refine k_spec_DrawPickSpare.fnq (by kernel_rfl) ?_
  conv => arg 4; cbv
  refine Sat.newv (w_spec_l1New code hc) (fun cs hcs => ?_)
  obtain ⟨i, h, hi, rfl⟩ := hcs
  conv => arg 4; cbv
  refine Sat.draw (w_spec_l9Any code hc) hi (fun ret i1 h1 hi1 hR => ?_)
  obtain ⟨l, rfl, hl0, hl1⟩ := hR
  conv => arg 4; cbv
  refine Sat.draw (w_spec_l2Any code hc) hi1 (fun ret i2 h2 hi2 hR => ?_)
  obtain ⟨m, rfl, hm⟩ := hR
  conv => arg 4; cbv
  refine Sat.draw (w_spec_l2Some code hc) hi2 (fun ret i3 h3 hi3 hR => ?_)
  obtain ⟨a, rfl, ha⟩ := hR
  conv => arg 4; cbv
  exact Sat.done ⟨.tup [.sl 3 eGPlace (fun _ => l), .sl 1 (encI .i64) (fun _ => m), .sl 1 (encI .i64) (fun _ => a)], ⟨rfl, l, m, a, rfl, hl1, hm, by omega⟩, .tup rfl (led_cons (.sl (by simp)) (led_cons (.sl (by simp)) (led_cons (.sl (by simp)) led_nil)))⟩

theorem w_laws_big (code : List Int) (hb : code.length * 1 ≤ 140737488351232) : Fn Pr n_laws_big [.sl 1 (encI .u8) (fun _ => code)] (.bo (decide ((1048576 : Int) < code.length))) := by
  refine k_laws_big.fn (by kernel_rfl) ?_
  conv => arg 4; cbv
  repeat' first
    | (refine Sat.cmp (fun h => ?_) (fun h => ?_) <;> simp only [Cmp.holds] at h <;> (conv => arg 4; cbv))
    | (refine Sat.need ndA ?_; conv => arg 4; cbv)
    | (refine Sat.idxk (by assumption) ?_; conv => arg 4; cbv) | (refine Sat.idx ndA (fun v_ hv_ => ?_); conv => arg 4; cbv)
    | (refine Sat.ari64 ndA ndA ?_; conv => arg 4; cbv)
    | (refine Sat.pop ?_; conv => arg 4; cbv)
    | refine Sat.done ?_
  all_goals refine led_bo ?_
  all_goals (simp only [ncast] at *; simp; omega)

theorem w_laws_sameInts (a b : List Int) (hb : bIntS a) : Fn Pr n_laws_sameInts [.sl 1 (encI .i64) (fun _ => a), .sl 1 (encI .i64) (fun _ => b)] (.bo (decide (a = b))) := by
  refine k_laws_sameInts.fn (by kernel_rfl) ?_
  have h0 : a.length * 8 ≤ 140737488351232 := hb
  conv => arg 4; cbv
  refine Sat.cmp (fun hl => ?_) (fun hl => ?_) <;> simp only [Cmp.holds] at hl <;> (conv => arg 4; cbv)
  · refine Sat.loopP (ι := Nat) (fun i => [(5, .int .i64 (fun _ => (i : Int)))]) (fun i => []) (fun i => i ≤ a.length ∧ a.take i = b.take i) (fun i => a.length - i) 0 ?_ ⟨by omega, by simp⟩ (fun i hi => ?_)
    · exact lesA
    conv => arg 4; cbv
    repeat' first
      | (refine Sat.cmp (fun h => ?_) (fun h => ?_) <;> simp only [Cmp.holds] at h <;> (conv => arg 4; cbv))
      | (refine Sat.need ndA ?_; conv => arg 4; cbv)
      | (refine Sat.idxk (by assumption) ?_; conv => arg 4; cbv) | (refine Sat.idx ndA (fun v_ hv_ => ?_); conv => arg 4; cbv)
      | (refine Sat.ari64 ndA ndA ?_; conv => arg 4; cbv)
      | (refine Sat.pop ?_; conv => arg 4; cbv)
      | refine Sat.next (i + 1) ?_ ?_ (by (try dsimp only); exact arA)
      | refine Sat.done (led_bo (Eq.symm (decide_eq_false (ne_of_get (by assumption) (by assumption) (fun e => by subst e; first | contradiction | (simp_all; done))))))
      | refine Sat.done ?_
    · exact lesA
    · exact ⟨by exact arA, take_ext (by assumption) (by assumption) hi.2 (by assumption)⟩
    · refine led_bo ?_
      have e1 : i = a.length := by exact arA
      have e2 : a.length = b.length := by exact arA
      have := hi.2
      rw [e1, List.take_length, e2, List.take_length] at this
      simp [this]
  · refine Sat.done (led_bo ?_)
    exact (decide_eq_false (fun e => hl (by rw [e]))).symm

theorem spareAt_ok {l : List GPlace} {m av rk : List Int} : ∀ {i : Nat}, 0 ≤ spareAt l m av rk i → hasRoom l (spareAt l m av rk i) = true ∧ spareAt l m av rk i ∉ m ∧ spareAt l m av rk i ∉ av
  | 0, h => absurd h (by show ¬ (0 : Int) ≤ -1; omega)
  | i + 1, h => by
    have ih := spareAt_ok (l := l) (m := m) (av := av) (rk := rk) (i := i)
    rw [spareAt, spareStep] at h ⊢
    split
    · rename_i hc
      rw [if_pos hc] at h
      split
      · exact hc
      · rename_i hb
        split
        · exact hc
        · exact ih (by omega)
    · rename_i hc
      rw [if_neg hc] at h
      exact ih h
theorem pickSpare_ok {l : List GPlace} {m av : List Int} (h : 0 ≤ pickSpare l m av) : hasRoom l (pickSpare l m av) = true ∧ pickSpare l m av ∉ m ∧ pickSpare l m av ∉ av := by
  unfold pickSpare at h ⊢
  split
  · rename_i hc
    rw [if_pos hc] at h
    exact spareAt_ok h
  · rename_i hc
    rw [if_neg hc] at h
    omega
theorem planGo_sasc {l : List GPlace} {dead : List Int} {n : Int} : ∀ {k : Nat} {out : List Int}, SAsc out → SAsc (planGo l dead n k out)
  | 0, out, h => h
  | k + 1, out, h => by
    rw [planGo]
    split
    · split
      · exact h
      · exact planGo_sasc (put_sasc h)
    · exact h
theorem planGo_sup {l : List GPlace} {dead : List Int} {n x : Int} : ∀ {k : Nat} {out : List Int}, x ∈ out → x ∈ planGo l dead n k out
  | 0, out, h => h
  | k + 1, out, h => by
    rw [planGo]
    split
    · split
      · exact h
      · exact planGo_sup (put_mem.2 (.inr h))
    · exact h
theorem planGo_new {l : List GPlace} {dead : List Int} {n x : Int} : ∀ {k : Nat} {out : List Int}, x ∈ planGo l dead n k out → x ∈ out ∨ (hasRoom l x = true ∧ x ∉ dead)
  | 0, out, h => .inl h
  | k + 1, out, h => by
    rw [planGo] at h
    split at h
    · split at h
      · exact .inl h
      · rename_i hp
        rcases planGo_new h with h1 | h1
        · rcases put_mem.1 h1 with h2 | h2
          · have := pickSpare_ok (l := l) (m := out) (av := dead) (by omega)
            rw [← h2] at this
            exact .inr ⟨this.1, this.2.2⟩
          · exact .inl h2
        · exact .inr h1
    · exact .inl h
theorem planGo_max {l : List GPlace} {dead : List Int} {n : Int} : ∀ {k : Nat} {out : List Int}, ((planGo l dead n k out).length : Int) ≤ max n out.length
  | 0, out => by rw [planGo]; omega
  | k + 1, out => by
    rw [planGo]
    split
    · rename_i h0
      split
      · omega
      · have h1 := planGo_max (l := l) (dead := dead) (n := n) (k := k) (out := put (pickSpare l out dead) out)
        have h2 := put_len (x := pickSpare l out dead) (l := out)
        omega
    · omega
theorem hasRoom_rng {l : List GPlace} {x : Int} (h : hasRoom l x = true) : 0 ≤ x ∧ x ≤ 4 := by
  simp only [hasRoom, Bool.and_eq_true, decide_eq_true_eq] at h
  exact h.1.2
/-- What the law says of a plan. -/
theorem plan_law {l : List GPlace} {m a : List Int} {n : Int} (h1 : arePlaces l = true) (h2 : areServers m = true) (h3 : areServers a = true) (h4 : 0 ≤ n) (h5 : n ≤ 5) :
    common (plan l m a n) (common m a) = common m a ∧ ((plan l m a n).length : Int) ≤ max n (common m a).length ∧ ∀ x ∈ without (plan l m a n) (common m a), hasRoom l x = true ∧ x ∈ a := by
  have e : plan l m a n = planGo l (without [0, 1, 2, 3, 4] a) n 5 (common m a) := by rw [plan, if_pos ⟨h1, h2, h3, h4, h5⟩]
  rw [e]
  refine ⟨sasc_eq (asc_strict _) (asc_strict _) (fun y => ?_), planGo_max, fun x hx => ?_⟩
  · rw [common_mem]
    exact ⟨fun q => q.2, fun q => ⟨planGo_sup q, q⟩⟩
  · rw [without_mem] at hx
    rcases planGo_new hx.1 with h | h
    · exact absurd h hx.2
    · refine ⟨h.1, ?_⟩
      have hr := hasRoom_rng h.1
      have hn := h.2
      rw [without_mem] at hn
      by_cases q : x ∈ a
      · exact q
      · exact absurd ⟨by simp; omega, q⟩ hn

theorem w_impl_CountMoves5 (a b : List Int) (ha : bIntS a) (hb : b.length ≤ 12) : Fn Pr n_impl_CountMoves [.sl 1 (encI .i64) (fun _ => a), .sl 1 (encI .i64) (fun _ => b)] (.int .i64 (fun _ => ((without b a).length : Int))) := by
  refine k_impl_CountMoves.fn (by kernel_rfl) ?_
  conv => arg 4; cbv
  repeat' first
    | (refine Sat.cmp (fun h => ?_) (fun h => ?_) <;> simp only [Cmp.holds] at h <;> (conv => arg 4; cbv))
    | (refine Sat.call (w_impl_WithoutServers b a hb ha) rfl ledA ?_; conv => arg 4; cbv)
    | (refine Sat.need ndA ?_; conv => arg 4; cbv)
    | (refine Sat.idxk (by assumption) ?_; conv => arg 4; cbv) | (refine Sat.idx ndA (fun v_ hv_ => ?_); conv => arg 4; cbv)
    | (refine Sat.ari64 ndA ndA ?_; conv => arg 4; cbv)
    | (refine Sat.pop ?_; conv => arg 4; cbv)
    | refine Sat.done ?_
  all_goals exact .int rfl

set_option maxHeartbeats 4000000 in
theorem w_laws_FnPlacement (code_ : List Int) {G : Prop} (F : (code_.length ≤ maxLen ∧ code_.length * 1 ≤ 140737488351232 ∧ ∀ x ∈ code_, (Lit.int .u8 x).wf = true) ∧ G) : Fn Pr n_laws_FnPlacement [.sl 1 (encI .u8) (fun _ => code_)] (.bo true) := by
  by_cases hc : (1048576 : Int) < code_.length
  · have hB := w_laws_big code_ F.1.2.1
    rw [decide_eq_true hc] at hB
    refine k_laws_FnPlacement.fn (by kernel_rfl) ?_
    conv => arg 4; cbv
    refine Sat.call hB rfl ledA ?_
    conv => arg 4; cbv
    exact Sat.done (.same _)
  have hB := w_laws_big code_ F.1.2.1
  rw [decide_eq_false hc] at hB
  refine k_laws_FnPlacement.fn (by kernel_rfl) ?_
  conv => arg 4; cbv
  refine Sat.call hB rfl ledA ?_
  conv => arg 4; cbv
  refine Sat.rel (w_spec_DrawPlanMembers code_ (by omega)) (fun ret outs hR => ?_)
  obtain ⟨rfl, l, m, a, n, rfl, hl5, hm6, ha6, hn0, hn1⟩ := hR
  have hl : bPlaceS l := by unfold bPlaceS; omega
  have hm : bIntS m := by unfold bIntS; omega
  have ha : bIntS a := by unfold bIntS; omega
  have hp := plan_len (l := l) (m := m) (a := a) (n := n)
  have hk := common_len (a := m) (b := a)
  have hd := without_len (a := plan l m a n) (b := common m a)
  have hpb : bIntS (plan l m a n) := by unfold bIntS; omega
  have hkb : bIntS (common m a) := by unfold bIntS; omega
  have hlaw := plan_law (l := l) (m := m) (a := a) (n := n)
  have HI := w_impl_PlanMembers l m a n hl hm ha (by omega)
  have HS := w_spec_PlanMembers l m a n hl hm ha (by omega)
  conv => arg 4; cbv
  repeat' first
    | (refine Sat.cmp (fun h => ?_) (fun h => ?_) <;> simp only [Cmp.holds] at h <;> (conv => arg 4; cbv))
    | (refine Sat.call HI rfl ledA ?_; conv => arg 4; cbv)
    | (refine Sat.call HS rfl ledA ?_; conv => arg 4; cbv)
    | (refine Sat.callb (w_laws_sameInts (plan l m a n) (plan l m a n) hpb) rfl ledA (fun h => ?_) (fun h => ?_) <;> (conv => arg 4; cbv))
    | (refine Sat.callb (w_spec_ArePlaces l hl) rfl ledA (fun h => ?_) (fun h => ?_) <;> (conv => arg 4; cbv))
    | (refine Sat.callb (w_spec_AreServers m hm) rfl ledA (fun h => ?_) (fun h => ?_) <;> (conv => arg 4; cbv))
    | (refine Sat.callb (w_spec_AreServers a ha) rfl ledA (fun h => ?_) (fun h => ?_) <;> (conv => arg 4; cbv))
    | (refine Sat.call (w_spec_CommonServers m a (by omega) ha) rfl ledA ?_; conv => arg 4; cbv)
    | (refine Sat.call (w_spec_WithoutServers (plan l m a n) (common m a) (by omega) hkb) rfl ledA ?_; conv => arg 4; cbv)
    | (refine Sat.call (w_spec_CommonServers (plan l m a n) (common m a) (by omega) hkb) rfl ledA ?_; conv => arg 4; cbv)
    | (refine Sat.call (w_impl_CountMoves5 (common m a) (plan l m a n) hkb (by omega)) rfl ledA ?_; conv => arg 4; cbv)
    | (exfalso; rw [decide_eq_true rfl] at h; cases h; done)
  · obtain ⟨e1, e2, e3⟩ := hlaw (by assumption) (by assumption) (by assumption) (by assumption) (by assumption)
    exfalso
    simp only [ncast] at *
    omega
  rotate_left
  · exact absurd trivial h
  · obtain ⟨e1, e2, e3⟩ := hlaw (by assumption) (by assumption) (by assumption) (by assumption) (by assumption)
    rw [e1] at h
    exact absurd rfl h
  rotate_right
  obtain ⟨e1, e2, e3⟩ := hlaw (by assumption) (by assumption) (by assumption) (by assumption) (by assumption)
  refine Sat.loopP (ι := Nat) (fun i => [(10, .int .i64 (fun _ => (i : Int)))]) (fun i => []) (fun i => i ≤ (without (plan l m a n) (common m a)).length) (fun i => (without (plan l m a n) (common m a)).length - i) 0 ?_ (by omega) (fun i hi => ?_)
  · exact lesA
  conv => arg 4; cbv
  repeat' first
    | (refine Sat.cmp (fun h => ?_) (fun h => ?_) <;> simp only [Cmp.holds] at h <;> (conv => arg 4; cbv))
    | (refine Sat.need ndA ?_; conv => arg 4; cbv)
    | (refine Sat.idxk (by assumption) ?_; conv => arg 4; cbv) | (refine Sat.idx ndA (fun v_ hv_ => ?_); conv => arg 4; cbv)
    | (have HR := w_impl_HasRoom l v_ hl; rw [(e3 v_ (List.mem_of_getElem? hv_)).1] at HR; refine Sat.call HR rfl ledA ?_; conv => arg 4; cbv)
    | (have HR := w_spec_HasServer a v_ ha; rw [decide_eq_true (e3 v_ (List.mem_of_getElem? hv_)).2] at HR; refine Sat.call HR rfl ledA ?_; conv => arg 4; cbv)
    | (refine Sat.ari64 ndA ndA ?_; conv => arg 4; cbv)
    | (refine Sat.pop ?_; conv => arg 4; cbv)
    | refine Sat.next (i + 1) ?_ (by exact arA) (by exact arA)
  · exact lesA
  all_goals refine Sat.rel (w_spec_DrawPickSpare code_ (by omega)) (fun ret outs hR => ?_)
  all_goals obtain ⟨rfl, l2, m2, a2, rfl, hl7, hm7, ha7⟩ := hR
  all_goals have hl2 : bPlaceS l2 := by unfold bPlaceS; omega
  all_goals have hm2 : bIntS m2 := by unfold bIntS; omega
  all_goals have ha2 : bIntS a2 := by unfold bIntS; omega
  all_goals have hrl := racks_len (l := l2) (m := m2)
  all_goals have hrb : bIntS (racks l2 m2) := by unfold bIntS; omega
  all_goals have hps := pickSpare_ok (l := l2) (m := m2) (av := a2)
  all_goals have HI2 := w_impl_PickSpare l2 m2 a2 hl2 hm2 ha2
  all_goals have HS2 := w_spec_PickSpare l2 m2 a2 hl2 hm2 ha2
  all_goals generalize pickSpare l2 m2 a2 = id at *
  all_goals (conv => arg 4; cbv)
  all_goals repeat' first
    | (refine Sat.cmp (fun h => ?_) (fun h => ?_) <;> simp only [Cmp.holds] at h <;> (conv => arg 4; cbv))
    | (exfalso; omega)
    | (refine Sat.call HI2 rfl ledA ?_; conv => arg 4; cbv)
    | (refine Sat.call HS2 rfl ledA ?_; conv => arg 4; cbv)
    | (refine Sat.call (w_impl_RacksOf l2 m2 hl2 hm2) rfl ledA ?_; conv => arg 4; cbv)
    | (refine Sat.call (w_spec_RacksOf l2 m2 hl2 hm2) rfl ledA ?_; conv => arg 4; cbv)
    | (refine Sat.callb (w_laws_sameInts (racks l2 m2) (racks l2 m2) hrb) rfl ledA (fun h => ?_) (fun h => ?_) <;> (conv => arg 4; cbv))
    | (exfalso; rw [decide_eq_true rfl] at h; cases h; done)
    | (refine Sat.callb (w_impl_IsSpread l2 m2 hl2 hm2) rfl ledA (fun h => ?_) (fun h => ?_) <;> (conv => arg 4; cbv))
    | (refine Sat.callb (w_spec_IsSpread l2 m2 hl2 hm2) rfl ledA (fun h => ?_) (fun h => ?_) <;> (conv => arg 4; cbv))
    | (exfalso; have := (show isSpread l2 m2 = true by assumption).symm.trans (show isSpread l2 m2 = false by assumption); cases this; done)
    | (refine Sat.callb (w_impl_HasRoom l2 id hl2) rfl ledA (fun h => ?_) (fun h => ?_) <;> (conv => arg 4; cbv))
    | (refine Sat.callb (w_spec_HasServer m2 id hm2) rfl ledA (fun h => ?_) (fun h => ?_) <;> (conv => arg 4; cbv))
    | (refine Sat.callb (w_spec_HasServer a2 id ha2) rfl ledA (fun h => ?_) (fun h => ?_) <;> (conv => arg 4; cbv))
    | exact Sat.done (.same _)
  all_goals exfalso
  all_goals first
    | exact absurd trivial h
    | exact absurd rfl h
    | (obtain ⟨q1, q2, q3⟩ := hps (by omega); first | exact q2 (of_decide_eq_true (by assumption)) | exact q3 (of_decide_eq_true (by assumption)) | (have q4 := q1.symm.trans h; cases q4; done))

end Go.V.T
