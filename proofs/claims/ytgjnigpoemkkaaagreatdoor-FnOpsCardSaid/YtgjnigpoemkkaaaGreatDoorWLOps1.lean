/- Contracts of the functions that FnOps reaches: what each returns. Conditions: those that each theorem states. -/
import Derived.Test.YtgjnigpoemkkaaaGreatDoorWLOps
import Derived.Lib.ItoaNum
import Derived.Lib.Join
import Derived.Lib.SplitLaws
import Derived.Shelf.Strconv.Itoa3
import Derived.Shelf.Strings.Cut
import Derived.Shelf.Strings.IndexAnyAll
import Derived.Shelf.Strings.OnBuilder
import Derived.Shelf.Strings.Split
namespace Go.V.T
open Go Go.V Go.RowKit
set_option maxRecDepth 100000
set_option linter.unusedVariables false
set_option linter.unusedSimpArgs false
theorem w_spec_l3Any (code : List Int) (hc : code.length ≤ 1048576) (i h : Int) (hi : 0 ≤ i ∧ i ≤ (code.length : Int)) : FnP Pr n_spec_l3Any [.ptr 0 0] [curA code i h] (Dr code isOp) := by
 refine k_spec_l3Any.fnp (by kernel_rfl) ?_
 conv=>arg 4;cbv
 refine Sat.draw (w_spec_l3Op code hc) hi (fun ret ia ha hia hR => ?_)
 obtain ⟨o, rfl⟩ := hR
 conv=>arg 4;cbv
 refine Sat.draw (w_spec_l1Below code hc _) hia (fun ret ib hb hib hR => ?_)
 obtain ⟨vb, rfl, vb0, vb1⟩ := hR
 conv=>arg 4;cbv
 repeat' first
  | (refine Sat.cmp (fun h => ?_) (fun h => ?_) <;> simp only [Cmp.holds] at h <;> (conv=>arg 4;cbv))
  | (refine Sat.draw (w_spec_l1Below code hc 4) hib (fun ret ic hc hic hR => ?_); obtain ⟨u, rfl, u0, u1⟩ := hR; conv=>arg 4;cbv)
  | (refine Sat.draw (w_spec_l1PickInt code hc [-1, 2, 3] (by decide) (by decide)) hib (fun ret ic hc hic hR => ?_); obtain ⟨u, rfl⟩ := hR; conv=>arg 4;cbv)
  | (refine Sat.draw (w_spec_l1PickInt code hc [0, 99, 100] (by decide) (by decide)) hib (fun ret ic hc hic hR => ?_); obtain ⟨u, rfl⟩ := hR; conv=>arg 4;cbv)
  | (refine Sat.draw (w_spec_l1PickInt code hc [-1, 3] (by decide) (by decide)) hib (fun ret ic hc hic hR => ?_); obtain ⟨u, rfl⟩ := hR; conv=>arg 4;cbv)
  | (refine Sat.draw (w_spec_l1PickInt code hc [-1, 9, 10] (by decide) (by decide)) hib (fun ret ic hc hic hR => ?_); obtain ⟨u, rfl⟩ := hR; conv=>arg 4;cbv)
  | (refine Sat.draw (w_spec_l1PickInt code hc [-1, 0, 9, 10] (by decide) (by decide)) hib (fun ret ic hc hic hR => ?_); obtain ⟨u, rfl⟩ := hR; conv=>arg 4;cbv)
 all_goals first
  | exact Sat.done (dr_end (ret := aGOp o) ⟨_, rfl⟩ (.same _) hib rfl)
  | exact Sat.done (dr_end (ret := aGOp { o with Client := u }) ⟨_, rfl⟩ (.same _) hic rfl)
  | exact Sat.done (dr_end (ret := aGOp { o with Seq := u }) ⟨_, rfl⟩ (.same _) hic rfl)
  | exact Sat.done (dr_end (ret := aGOp { o with Kind := u }) ⟨_, rfl⟩ (.same _) hic rfl)
  | exact Sat.done (dr_end (ret := aGOp { o with Object := u }) ⟨_, rfl⟩ (.same _) hic rfl)
  | exact Sat.done (dr_end (ret := aGOp { o with Value := u }) ⟨_, rfl⟩ (.same _) hic rfl)
  | exact Sat.done (dr_end (ret := aGOp { o with Old := u }) ⟨_, rfl⟩ (.same _) hic rfl)
def isEs (n : Nat) : AV → Prop := fun r => ∃ l : List GEntry, r = .sl 7 eGEntry (fun _ => l) ∧ l.length ≤ n
theorem w_spec_l5Log (code : List Int) (hc : code.length ≤ 1048576) (i h : Int) (hi : 0 ≤ i ∧ i ≤ (code.length : Int)) : FnP Pr n_spec_l5Log [.ptr 0 0] [curA code i h] (Dr code (isEs 6)) := by
 refine k_spec_l5Log.fnp (by kernel_rfl) ?_
 conv=>arg 4;cbv
 refine Sat.draw (w_spec_l1Below code hc _) hi (fun ret ia ha hia hR => ?_)
 obtain ⟨n, rfl, n0, n1⟩ := hR
 conv=>arg 4;cbv
 refine Sat.loopP (ι := List GEntry × Int × Int × Int × Int) (fun p => [(3, .ref 64 (fun _ => 0) (fun _ => p.1.length)), (4, .int .i64 (fun _ => p.2.1)), (5, .int .i64 (fun _ => p.2.2.1))]) (fun p => [(0, .lit 99 [.sl 1 (encI .u8) (fun _ => code), .int .i64 (fun _ => p.2.2.2.1), .int .i64 (fun _ => p.2.2.2.2)]), (64, .row 7 eGEntry (fun _ => p.1) false)]) (fun p => (p.1.length : Int) + p.2.2.1 ≤ 6 ∧ 0 ≤ p.2.2.1 ∧ (1 ≤ p.2.1 ∧ p.2.1 ≤ 1 + p.1.length) ∧ 0 ≤ p.2.2.2.1 ∧ p.2.2.2.1 ≤ (code.length : Int)) (fun p => p.2.2.1.toNat) ([], 1, n, ia, ha) ?_ (by simp; omega) (fun p hp => ?_)
 ·refine les_of ?_ ?_ rfl
  iterate 2 (focus repeat' (first | exact trivial | refine And.intro ?_ ?_ | exact levA | refine lev_cons ?_ ?_ | refine LeV.agg rfl ?_ | exact Nat.le_of_ble_eq_true rfl | exact Or.inl ⟨_, rfl, .row rfl⟩ | refine Or.inl ⟨_, rfl, .row ?_⟩ | refine Or.inl ⟨_, rfl, .lit rfl ?_⟩ | exact Or.inr ⟨rfl, rfl⟩ | (first | exact .empref (fun h => nomatch h) rfl rfl rfl | rfl)))
 conv=>arg 4;cbv
 repeat' first
  | (refine Sat.cmp (fun h => ?_) (fun h => ?_) <;> simp only [Cmp.holds] at h <;> (conv=>arg 4;cbv))
  | (refine Sat.need ndA ?_; conv=>arg 4;cbv)
  | (refine Sat.draw (w_spec_l1Once code hc 3) hp.2.2.2 (fun ret ib hb hib hR => ?_); obtain ⟨b, rfl⟩ := hR; cases b <;> (conv=>arg 4;cbv))
  | (refine Sat.draw (w_spec_l3Op code hc) (by assumption) (fun ret ic hd hic hR => ?_); obtain ⟨o, rfl⟩ := hR; conv=>arg 4;cbv)
  | (refine Sat.typed (⟨p.2.1, o⟩ : GEntry) tcA ?_; conv=>arg 4;cbv)
  | (refine Sat.typed (⟨p.2.1 + 1, o⟩ : GEntry) tcA ?_; conv=>arg 4;cbv)
  | (refine Sat.idxk (by assumption) ?_; conv=>arg 4;cbv) | (refine Sat.idx ndA (fun v_ hv_ => ?_); conv=>arg 4;cbv)
  | (refine Sat.ari64 ndA ndA ?_; conv=>arg 4;cbv)
  | (refine Sat.pop ?_; conv=>arg 4;cbv)
  | (exact Sat.done (dr_end (ret := .sl 7 eGEntry (fun _ => p.1)) ⟨_, rfl, by omega⟩ (.sl (by simp)) hp.2.2.2 rfl))
 ·refine Sat.next (p.1 ++ [⟨p.2.1, o⟩], p.2.1, p.2.2.1 - 1, ic, hd) ?_ ⟨by (try dsimp only); simp; omega, by (try dsimp only); omega, by (try dsimp only); simp; omega, hic⟩ (by (try dsimp only); omega)
  refine les_of ?_ ?_ rfl
  iterate 2 (focus repeat' (first | exact trivial | refine And.intro ?_ ?_ | exact levA | refine lev_cons ?_ ?_ | refine LeV.agg rfl ?_ | exact Nat.le_of_ble_eq_true rfl | exact Or.inl ⟨_, rfl, .row rfl⟩ | refine Or.inl ⟨_, rfl, .row ?_⟩ | refine Or.inl ⟨_, rfl, .lit rfl ?_⟩ | exact Or.inr ⟨rfl, rfl⟩ | (first | exact .ref (fun h => nomatch h) (fun h => nomatch h) rfl (by simp) | (simp; done))))
 ·refine Sat.next (p.1 ++ [⟨p.2.1 + 1, o⟩], p.2.1 + 1, p.2.2.1 - 1, ic, hd) ?_ ⟨by (try dsimp only); simp; omega, by (try dsimp only); omega, by (try dsimp only); simp; omega, hic⟩ (by (try dsimp only); omega)
  refine les_of ?_ ?_ rfl
  iterate 2 (focus repeat' (first | exact trivial | refine And.intro ?_ ?_ | exact levA | refine lev_cons ?_ ?_ | refine LeV.agg rfl ?_ | exact Nat.le_of_ble_eq_true rfl | exact Or.inl ⟨_, rfl, .row rfl⟩ | refine Or.inl ⟨_, rfl, .row ?_⟩ | refine Or.inl ⟨_, rfl, .lit rfl ?_⟩ | exact Or.inr ⟨rfl, rfl⟩ | (first | exact .ref (fun h => nomatch h) (fun h => nomatch h) rfl (by simp) | (simp; done))))
theorem w_spec_l5Any (code : List Int) (hc : code.length ≤ 1048576) (i h : Int) (hi : 0 ≤ i ∧ i ≤ (code.length : Int)) : FnP Pr n_spec_l5Any [.ptr 0 0] [curA code i h] (Dr code (isEs 17)) := by
 refine k_spec_l5Any.fnp (by kernel_rfl) ?_
 conv=>arg 4;cbv
 refine Sat.draw (w_spec_l5Log code hc) hi (fun ret ia ha hia hR => ?_)
 obtain ⟨l, rfl, hl⟩ := hR
 conv=>arg 4;cbv
 refine Sat.draw (w_spec_l1Below code hc _) hia (fun ret ib hb hib hR => ?_)
 obtain ⟨n, rfl, n0, n1⟩ := hR
 conv=>arg 4;cbv
 refine Sat.cmp (fun hz => ?_) (fun hz => ?_) <;> (conv=>arg 4;cbv)
 ·refine Sat.draw (w_spec_l1PickInt code hc [0, 1, 20, 21] (by decide) (by decide)) hib (fun ret ic hc2 hic hR => ?_)
  obtain ⟨u, rfl⟩ := hR
  conv=>arg 4;cbv
  refine Sat.draw (w_spec_l3Any code hc) hic (fun ret id hd hid hR => ?_)
  obtain ⟨o, rfl⟩ := hR
  conv=>arg 4;cbv
  repeat' first
   | (refine Sat.need ndA ?_; conv=>arg 4;cbv)
   | (refine Sat.typed (⟨u, o⟩ : GEntry) tcA ?_; conv=>arg 4;cbv)
  exact Sat.done (dr_end (ret := .sl 7 eGEntry (fun _ => l ++ [⟨u, o⟩])) ⟨_, rfl, by simp; omega⟩ (.sl (by simp)) hid rfl)
 refine Sat.cmp (fun hz => ?_) (fun hz => ?_) <;> (conv=>arg 4;cbv)
 ·refine Sat.loopP (ι := List GEntry × Int × Int) (fun p => [(3, .ref 33 (fun _ => 0) (fun _ => p.1.length)), (20, .any)]) (fun p => [(0, .lit 99 [.sl 1 (encI .u8) (fun _ => code), .int .i64 (fun _ => p.2.1), .int .i64 (fun _ => p.2.2)]), (33, .row 7 eGEntry (fun _ => p.1) false)]) (fun p => p.1.length ≤ 17 ∧ 0 ≤ p.2.1 ∧ p.2.1 ≤ (code.length : Int)) (fun p => 17 - p.1.length) (l, ib, hb) ?_ (by (try dsimp only); omega) (fun p hp => ?_)
  ·exact lesA
  conv=>arg 4;cbv
  repeat' first
   | (refine Sat.cmp (fun h => ?_) (fun h => ?_) <;> simp only [Cmp.holds] at h <;> (conv=>arg 4;cbv))
   | (refine Sat.need ndA ?_; conv=>arg 4;cbv)
   | (refine Sat.draw (w_spec_l3Op code hc) hp.2 (fun ret ic hd hic hR => ?_); obtain ⟨o, rfl⟩ := hR; conv=>arg 4;cbv)
   | (refine Sat.typed (⟨20, o⟩ : GEntry) tcA ?_; conv=>arg 4;cbv)
   | (refine Sat.pop ?_; conv=>arg 4;cbv)
   | refine Sat.next (p.1 ++ [⟨20, o⟩], ic, hd) ?_ ⟨by (try dsimp only); simp; exact arA, hic⟩ (by (try dsimp only); simp; exact arA)
   | (exact Sat.done (dr_end (ret := .sl 7 eGEntry (fun _ => p.1)) ⟨_, rfl, hp.1⟩ (.sl (by simp)) hp.2 rfl))
  refine les_of ?_ ?_ rfl
  iterate 2 (focus repeat' (first | exact trivial | refine And.intro ?_ ?_ | exact levA | refine lev_cons ?_ ?_ | refine LeV.agg rfl ?_ | exact Nat.le_of_ble_eq_true rfl | exact Or.inl ⟨_, rfl, .row rfl⟩ | refine Or.inl ⟨_, rfl, .row ?_⟩ | refine Or.inl ⟨_, rfl, .lit rfl ?_⟩ | exact Or.inr ⟨rfl, rfl⟩ | (first | exact .ref (fun h => nomatch h) (fun h => nomatch h) rfl (by simp) | (simp; done))))
 ·exact Sat.done (dr_end (ret := .sl 7 eGEntry (fun _ => l)) ⟨_, rfl, by omega⟩ (.sl (by simp)) hib rfl)
theorem okLog_take : ∀ {l : List GEntry} {p : Int} {k : Nat}, okLogFrom p l = true → okLogFrom p (l.take k) = true
 | [], p, k, _ => by simp [okLogFrom]
 | e :: r, p, 0, _ => by simp [okLogFrom]
 | e :: r, p, k + 1, h => by
   simp only [List.take_succ_cons, okLogFrom, Bool.and_eq_true] at h ⊢
   exact ⟨h.1, okLog_take h.2⟩
theorem okLog_drop : ∀ {l : List GEntry} {p : Int} {k : Nat}, okLogFrom p l = true → okLogFrom 0 (l.drop k) = true
 | [], p, k, _ => by simp [okLogFrom]
 | e :: r, p, 0, h => by
   simp only [List.drop_zero, okLogFrom, Bool.and_eq_true, decide_eq_true_eq] at h ⊢
   exact ⟨⟨h.1.1, by omega⟩, h.2⟩
 | e :: r, p, k + 1, h => by
   simp only [okLogFrom, Bool.and_eq_true] at h
   exact okLog_drop (l := r) (k := k) h.2
theorem isLog_take {l : List GEntry} {k : Nat} (h : isLog l = true) : isLog (l.take k) = true := by
 simp only [isLog, Bool.and_eq_true, decide_eq_true_eq] at h ⊢
 exact ⟨okLog_take h.1, by simp; omega⟩
theorem isLog_drop {l : List GEntry} {k : Nat} (h : isLog l = true) : isLog (l.drop k) = true := by
 simp only [isLog, Bool.and_eq_true, decide_eq_true_eq] at h ⊢
 exact ⟨okLog_drop h.1, by simp; omega⟩
theorem cpre_pre : ∀ {a l : List GEntry}, cpre a (a ++ l) = a.length
 | [], l => by simp [cpre]
 | x :: a, l => by
   have := cpre_pre (a := a) (l := l)
   simp [cpre, this]
theorem cpre_self (a : List GEntry) : cpre a a = a.length := by
 have := cpre_pre (a := a) (l := [])
 rw [List.append_nil] at this
 exact this
theorem w_impl_CommonPrefix (x y : List GEntry) (hb : bEntryS x) (hy : bEntryS y) : Fn Pr n_impl_CommonPrefix [.sl 7 eGEntry (fun _ => x), .sl 7 eGEntry (fun _ => y)] (.int .i64 (fun _ => (cpre x y : Int))) := by
 refine k_impl_CommonPrefix.fn (by kernel_rfl) ?_
 have h0 : x.length * 56 ≤ 140737488351232 := hb
 have h1 : y.length * 56 ≤ 140737488351232 := hy
 conv=>arg 4;cbv
 refine Sat.loopP (ι := Nat) (fun i => [(5, .int .i64 (fun _ => (i : Int)))]) (fun i => []) (fun i => (i ≤ x.length ∧ i ≤ y.length) ∧ cpre x y = i + cpre (x.drop i) (y.drop i)) (fun i => x.length - i) 0 ?_ ⟨by omega, by simp⟩ (fun i hi => ?_)
 ·exact lesA
 conv=>arg 4;cbv
 repeat' first
  | (refine Sat.cmp (fun h => ?_) (fun h => ?_) <;> simp only [Cmp.holds] at h <;> (conv=>arg 4;cbv))
  | (refine Sat.need ndA ?_; conv=>arg 4;cbv)
  | (refine Sat.idxk (by assumption) ?_; conv=>arg 4;cbv) | (refine Sat.idx ndA (fun v_ hv_ => ?_); conv=>arg 4;cbv)
  | (refine Sat.ari64 ndA ndA ?_; conv=>arg 4;cbv)
  | (refine Sat.pop ?_; conv=>arg 4;cbv)
  | refine Sat.next (i + 1) ?_ ?_ (by (try dsimp only); exact arA)
  | refine Sat.done (.int (congrArg Int.ofNat (cpre_stop hi.2 (by assumption) (by assumption) (fun e => by subst e; first | contradiction | (simp_all; done))).symm))
  | refine Sat.done (.int (congrArg Int.ofNat (cpre_end hi.2 (by exact arA)).symm))
 ·exact lesA
 ·exact ⟨by exact arA, cpre_step hi.2 (by assumption) (by assumption) (by first | assumption | (apply GEntry.ext <;> first | assumption | (apply GOp.ext <;> assumption)))⟩
theorem w_impl_IsPrefix (x y : List GEntry) (hb : bEntryS x) (hy : bEntryS y) : Fn Pr n_impl_IsPrefix [.sl 7 eGEntry (fun _ => x), .sl 7 eGEntry (fun _ => y)] (.bo (decide (cpre x y = x.length))) := by
 refine k_impl_IsPrefix.fn (by kernel_rfl) ?_
 conv=>arg 4;cbv
 repeat' first
  | (refine Sat.cmp (fun h => ?_) (fun h => ?_) <;> simp only [Cmp.holds] at h <;> (conv=>arg 4;cbv))
  | (refine Sat.call (w_impl_CommonPrefix x y hb hy) rfl ledA ?_; conv=>arg 4;cbv)
  | (refine Sat.need ndA ?_; conv=>arg 4;cbv)
  | (refine Sat.idxk (by assumption) ?_; conv=>arg 4;cbv) | (refine Sat.idx ndA (fun v_ hv_ => ?_); conv=>arg 4;cbv)
  | (refine Sat.ari64 ndA ndA ?_; conv=>arg 4;cbv)
  | (refine Sat.pop ?_; conv=>arg 4;cbv)
  | refine Sat.done ?_
 all_goals refine led_bo ?_
 all_goals simp only [ncast] at *
 all_goals simp_all
 all_goals omega
def isC : AV → Prop := fun r => ∃ c : GConfig, r = aGConfig c ∧ c.Replicas.length ≤ 6 ∧ c.Witnesses.length ≤ 6
theorem tk {α : Type} (l : List α) : (l.drop 0).take l.length = l := by simp
theorem led_c {e p : Int} {x y : AV} {a b : List Int} (hx : LeD x (.sl 1 (encI .i64) (fun _ => a))) (hy : LeD y (.sl 1 (encI .i64) (fun _ => b))) : LeD (.agg [.int .i64 (fun _ => e), .int .i64 (fun _ => p), x, y]) (aGConfig ⟨e, p, a, b⟩) := .agg rfl (led_cons (.same _) (led_cons (.same _) (led_cons hx (led_cons hy led_nil))))
theorem w_spec_l8Config (code : List Int) (hc : code.length ≤ 1048576) (e : Int) (i h : Int) (hi : 0 ≤ i ∧ i ≤ (code.length : Int)) : FnP Pr n_spec_l8Config [.ptr 0 0, .int .i64 (fun _ => e)] [curA code i h] (Dr code isC) := by
 refine k_spec_l8Config.fnp (by kernel_rfl) ?_
 conv=>arg 4;cbv
 refine Sat.draw (w_spec_l1Below code hc _) hi (fun ret ia ha hia hR => ?_)
 obtain ⟨p, rfl, p0, p1⟩ := hR
 conv=>arg 4;cbv
 have hp1 : [p].length ≤ 6 := by simp
 have hn0 : ([] : List Int).length ≤ 6 := by simp
 refine Sat.may (fun _ => ?_) ?_ <;> (conv=>arg 4;cbv)
 all_goals refine Sat.draw (w_spec_l2Some code hc) hia (fun ret ib hb hib hR => ?_)
 all_goals obtain ⟨l, rfl, hl⟩ := hR
 all_goals conv=>arg 4;cbv
 all_goals refine Sat.call (w_spec_l2Put l p (by omega)) rfl ledA ?_
 all_goals have hput := put_len (x := p) (l := l)
 all_goals have hR6 : (put p l).length ≤ 6 := by omega
 all_goals generalize put p l = R at *
 all_goals conv=>arg 4;cbv
 all_goals refine Sat.cmp (fun hg => ?_) (fun hg => ?_) <;> (conv=>arg 4;cbv)
 all_goals refine Sat.draw (w_spec_l1Once code hc 2) hib (fun ret ic hd hic hR => ?_)
 all_goals obtain ⟨b, rfl⟩ := hR
 all_goals cases b <;> (conv=>arg 4;cbv)
 all_goals try refine Sat.may (fun _ => ?_) ?_ <;> (conv=>arg 4;cbv)
 all_goals try (refine Sat.draw (w_spec_l2Some code hc) hic (fun ret ij hj hij hR => ?_); obtain ⟨w, rfl, hw⟩ := hR; conv=>arg 4;cbv)
 all_goals first
  | (refine Sat.call (w_spec_WithoutServers w R (by omega) (by unfold bIntS; omega)) rfl ledA ?_
     have hwl := without_len (a := w) (b := R)
     have hU1 : ((without w R).take 1).length ≤ 6 := by rw [List.length_take]; omega
     generalize without w R = U at *
     conv=>arg 4;cbv)
  | (refine Sat.call (w_spec_WithoutServers w [p] (by omega) (by unfold bIntS; simp)) rfl ledA ?_
     have hwl := without_len (a := w) (b := [p])
     have hU1 : ((without w [p]).take 1).length ≤ 6 := by rw [List.length_take]; omega
     generalize without w [p] = U at *
     conv=>arg 4;cbv)
  | skip
 all_goals repeat' first
  | (refine Sat.cmp (fun h => ?_) (fun h => ?_) <;> simp only [Cmp.holds] at h <;> (conv=>arg 4;cbv))
  | (refine Sat.need ndA ?_; conv=>arg 4;cbv)
 all_goals first
  | exact Sat.done (dr_end (ret := aGConfig ⟨e, p, R, U.take 1⟩) ⟨_, rfl, hR6, hU1⟩ (led_c (.sl (tk R)) (.sl rfl)) hij rfl)
  | exact Sat.done (dr_end (ret := aGConfig ⟨e, p, [p], U.take 1⟩) ⟨_, rfl, hp1, hU1⟩ (led_c (.sl rfl) (.sl rfl)) hij rfl)
  | exact Sat.done (dr_end (ret := aGConfig ⟨e, p, R, []⟩) ⟨_, rfl, hR6, hn0⟩ (led_c (.sl (tk R)) (.nil rfl)) hic rfl)
  | exact Sat.done (dr_end (ret := aGConfig ⟨e, p, [p], []⟩) ⟨_, rfl, hp1, hn0⟩ (led_c (.sl rfl) (.nil rfl)) hic rfl)
  | exact Sat.done (dr_end (ret := aGConfig ⟨e, p, R, []⟩) ⟨_, rfl, hR6, hn0⟩ (led_c (.sl (tk R)) (.nil rfl)) hij rfl)
  | exact Sat.done (dr_end (ret := aGConfig ⟨e, p, [p], []⟩) ⟨_, rfl, hp1, hn0⟩ (led_c (.sl rfl) (.nil rfl)) hij rfl)
  | trace_state
theorem w_spec_l8Any (code : List Int) (hc : code.length ≤ 1048576) (i h : Int) (hi : 0 ≤ i ∧ i ≤ (code.length : Int)) : FnP Pr n_spec_l8Any [.ptr 0 0] [curA code i h] (Dr code isC) := by
 refine k_spec_l8Any.fnp (by kernel_rfl) ?_
 conv=>arg 4;cbv
 refine Sat.draw (w_spec_l1Below code hc _) hi (fun ret ia ha hia hR => ?_)
 obtain ⟨p, rfl, p0, p1⟩ := hR
 conv=>arg 4;cbv
 (refine Sat.ari64 ndA ndA ?_; conv=>arg 4;cbv)
 refine Sat.draw (w_spec_l8Config code hc _) hia (fun ret ib hb hib hR => ?_)
 obtain ⟨c, rfl, c1, c2⟩ := hR
 conv=>arg 4;cbv
 refine Sat.draw (w_spec_l1Below code hc _) hib (fun ret ic hd hic hR => ?_)
 obtain ⟨q, rfl, q0, q1⟩ := hR
 conv=>arg 4;cbv
 repeat' first
  | (refine Sat.cmp (fun h => ?_) (fun h => ?_) <;> simp only [Cmp.holds] at h <;> (conv=>arg 4;cbv))
  | (refine Sat.ari64 ndA ndA ?_; conv=>arg 4;cbv)
  | (refine Sat.draw (w_spec_l1PickInt code hc [0, 20, 21] (by decide) (by decide)) hic (fun ret ij hj hij hR => ?_); obtain ⟨u, rfl⟩ := hR; conv=>arg 4;cbv)
  | (refine Sat.draw (w_spec_l1Below code hc 7) hic (fun ret ij hj hij hR => ?_); obtain ⟨u, rfl, u0, u1⟩ := hR; conv=>arg 4;cbv)
  | (refine Sat.draw (w_spec_l2Any code hc) hic (fun ret ij hj hij hR => ?_); obtain ⟨w, rfl, hw⟩ := hR; conv=>arg 4;cbv)
 all_goals first
  | exact Sat.done (dr_end (ret := aGConfig { c with Epoch := u }) ⟨_, rfl, c1, c2⟩ (led_c (.sl (tk _)) (.sl (tk _))) hij rfl)
  | exact Sat.done (dr_end (ret := aGConfig { c with Primary := u - 1 }) ⟨_, rfl, c1, c2⟩ (led_c (.sl (tk _)) (.sl (tk _))) hij rfl)
  | exact Sat.done (dr_end (ret := aGConfig { c with Replicas := w }) ⟨_, rfl, hw, c2⟩ (led_c (.sl (tk _)) (.sl (tk _))) hij rfl)
  | exact Sat.done (dr_end (ret := aGConfig { c with Witnesses := w }) ⟨_, rfl, c1, hw⟩ (led_c (.sl (tk _)) (.sl (tk _))) hij rfl)
  | exact Sat.done (dr_end (ret := aGConfig c) ⟨_, rfl, c1, c2⟩ (led_c (.sl (tk _)) (.sl (tk _))) hic rfl)
  | trace_state
--import Derived.Shelf.Strings.OnBuilder
def layJoinRen : Go.Shelf.Ren := ⟨fun | 156 => 37 | 165 => 64 | 166 => 65 | 169 => 66 | 240 => 87 | 241 => 88 | 276 => 106 | 277 => 107 | n => n, fun | 31 => 60 | 9 => 9 | 3 => 3 | 4 => 4 | 0 => 0 | 20 => 20 | 72 => 95 | 76 => 99 | 70 => 93 | 37 => 22 | 75 => 98 | 127 => 116 | 164 => 129 | 5 => 5 | 80 => 101 | n => n, fun | n => n⟩
theorem layJoin : Go.Proofs.Lays.n156 Go.Proofs.Tryz.prog layJoinRen := {
 mixed := by kernel_rfl
 f156 := Go.Proofs.Tryz.func37.trans (congrArg some (by kernel_rfl))
 f165 := Go.Proofs.Tryz.func64.trans (congrArg some (by kernel_rfl))
 f166 := Go.Proofs.Tryz.func65.trans (congrArg some (by kernel_rfl))
 f169 := Go.Proofs.Tryz.func66.trans (congrArg some (by kernel_rfl))
 f240 := Go.Proofs.Tryz.func87.trans (congrArg some (by kernel_rfl))
 f241 := Go.Proofs.Tryz.func88.trans (congrArg some (by kernel_rfl))
 f276 := Go.Proofs.Tryz.func106.trans (congrArg some (by kernel_rfl))
 f277 := Go.Proofs.Tryz.func107.trans (congrArg some (by kernel_rfl))
 t0 := Go.Proofs.Tryz.underlying0
 a0 := Go.Proofs.Tryz.isAgg0
 z0 := Go.Proofs.Tryz.sizeOf0
 v0 := Go.Proofs.Tryz.zeroValue0
 t3 := Go.Proofs.Tryz.underlying3
 a3 := Go.Proofs.Tryz.isAgg3
 z3 := Go.Proofs.Tryz.sizeOf3
 v3 := Go.Proofs.Tryz.zeroValue3
 t4 := Go.Proofs.Tryz.underlying4
 a4 := Go.Proofs.Tryz.isAgg4
 z4 := Go.Proofs.Tryz.sizeOf4
 v4 := Go.Proofs.Tryz.zeroValue4
 t9 := Go.Proofs.Tryz.underlying9
 a9 := Go.Proofs.Tryz.isAgg9
 z9 := Go.Proofs.Tryz.sizeOf9
 v9 := Go.Proofs.Tryz.zeroValue9
 t20 := Go.Proofs.Tryz.underlying20
 a20 := Go.Proofs.Tryz.isAgg20
 z20 := Go.Proofs.Tryz.sizeOf20
 v20 := Go.Proofs.Tryz.zeroValue20
 t31 := Go.Proofs.Tryz.underlying60
 a31 := Go.Proofs.Tryz.isAgg60
 z31 := Go.Proofs.Tryz.sizeOf60
 v31 := Go.Proofs.Tryz.zeroValue60
 t37 := Go.Proofs.Tryz.underlying22
 a37 := Go.Proofs.Tryz.isAgg22
 z37 := Go.Proofs.Tryz.sizeOf22
 v37 := Go.Proofs.Tryz.zeroValue22
 t70 := Go.Proofs.Tryz.underlying93
 a70 := Go.Proofs.Tryz.isAgg93
 z70 := Go.Proofs.Tryz.sizeOf93
 v70 := Go.Proofs.Tryz.zeroValue93
 t72 := Go.Proofs.Tryz.underlying95
 a72 := Go.Proofs.Tryz.isAgg95
 z72 := Go.Proofs.Tryz.sizeOf95
 v72 := Go.Proofs.Tryz.zeroValue95
 t75 := Go.Proofs.Tryz.underlying98
 a75 := Go.Proofs.Tryz.isAgg98
 z75 := Go.Proofs.Tryz.sizeOf98
 v75 := Go.Proofs.Tryz.zeroValue98
 t76 := Go.Proofs.Tryz.underlying99
 a76 := Go.Proofs.Tryz.isAgg99
 z76 := Go.Proofs.Tryz.sizeOf99
 v76 := Go.Proofs.Tryz.zeroValue99
 t127 := Go.Proofs.Tryz.underlying116
 a127 := Go.Proofs.Tryz.isAgg116
 z127 := Go.Proofs.Tryz.sizeOf116
 v127 := Go.Proofs.Tryz.zeroValue116
 t164 := Go.Proofs.Tryz.underlying129
 a164 := Go.Proofs.Tryz.isAgg129
 z164 := Go.Proofs.Tryz.sizeOf129
 v164 := Go.Proofs.Tryz.zeroValue129 }
--import Derived.Shelf.Strings.OnBuilder
theorem layJoinX : Go.Proofs.Builder.Extra Go.Proofs.Tryz.prog layJoinRen := {
 sizeBuilder := by kernel_rfl
 liesBuilder := by kernel_rfl
 t5 := Go.Proofs.Tryz.underlying5
 a5 := Go.Proofs.Tryz.isAgg5
 z5 := Go.Proofs.Tryz.sizeOf5
 v5 := Go.Proofs.Tryz.zeroValue5
 infoByte := by kernel_rfl
 cellsByte := by kernel_rfl
 sizeByte := by kernel_rfl
 neB5 := by decide }
--import Derived.Shelf.Strconv.Itoa3
def layItoaRen : Go.Shelf.Ren := ⟨fun | 171 => 59 | 243 => 82 | 246 => 100 | 283 => 114 | 284 => 115 | 285 => 116 | 286 => 117 | 129 => 125 | 317 => 124 | 318 => 126 | 319 => 127 | 320 => 128 | 337 => 131 | 338 => 132 | n => n, fun | 3 => 3 | 9 => 9 | 2 => 2 | 4 => 4 | 171 => 138 | 0 => 0 | 53 => 139 | 37 => 22 | 5 => 5 | 173 => 142 | 212 => 149 | 51 => 144 | 20 => 20 | 213 => 150 | 46 => 124 | 232 => 166 | 233 => 167 | n => n, fun | 17 => 1 | 18 => 4 | 19 => 5 | n => n⟩
theorem layItoa : Go.Proofs.LaysM.n171 Go.Proofs.Tryz.prog layItoaRen := {
 mixed := by kernel_rfl
 f129 := Go.Proofs.Tryz.func125.trans (congrArg some (by kernel_rfl))
 f171 := Go.Proofs.Tryz.func59.trans (congrArg some (by kernel_rfl))
 f243 := Go.Proofs.Tryz.func82.trans (congrArg some (by kernel_rfl))
 f246 := Go.Proofs.Tryz.func100.trans (congrArg some (by kernel_rfl))
 f283 := Go.Proofs.Tryz.func114.trans (congrArg some (by kernel_rfl))
 f284 := Go.Proofs.Tryz.func115.trans (congrArg some (by kernel_rfl))
 f285 := Go.Proofs.Tryz.func116.trans (congrArg some (by kernel_rfl))
 f286 := Go.Proofs.Tryz.func117.trans (congrArg some (by kernel_rfl))
 f317 := Go.Proofs.Tryz.func124.trans (congrArg some (by kernel_rfl))
 f318 := Go.Proofs.Tryz.func126.trans (congrArg some (by kernel_rfl))
 f319 := Go.Proofs.Tryz.func127.trans (congrArg some (by kernel_rfl))
 f320 := Go.Proofs.Tryz.func128.trans (congrArg some (by kernel_rfl))
 f337 := Go.Proofs.Tryz.func131.trans (congrArg some (by kernel_rfl))
 f338 := Go.Proofs.Tryz.func132.trans (congrArg some (by kernel_rfl))
 t0 := Go.Proofs.Tryz.underlying0
 a0 := Go.Proofs.Tryz.isAgg0
 z0 := Go.Proofs.Tryz.sizeOf0
 v0 := Go.Proofs.Tryz.zeroValue0
 t2 := Go.Proofs.Tryz.underlying2
 a2 := Go.Proofs.Tryz.isAgg2
 z2 := Go.Proofs.Tryz.sizeOf2
 v2 := Go.Proofs.Tryz.zeroValue2
 t3 := Go.Proofs.Tryz.underlying3
 a3 := Go.Proofs.Tryz.isAgg3
 z3 := Go.Proofs.Tryz.sizeOf3
 v3 := Go.Proofs.Tryz.zeroValue3
 t4 := Go.Proofs.Tryz.underlying4
 a4 := Go.Proofs.Tryz.isAgg4
 z4 := Go.Proofs.Tryz.sizeOf4
 v4 := Go.Proofs.Tryz.zeroValue4
 t5 := Go.Proofs.Tryz.underlying5
 a5 := Go.Proofs.Tryz.isAgg5
 z5 := Go.Proofs.Tryz.sizeOf5
 v5 := Go.Proofs.Tryz.zeroValue5
 t9 := Go.Proofs.Tryz.underlying9
 a9 := Go.Proofs.Tryz.isAgg9
 z9 := Go.Proofs.Tryz.sizeOf9
 v9 := Go.Proofs.Tryz.zeroValue9
 t20 := Go.Proofs.Tryz.underlying20
 a20 := Go.Proofs.Tryz.isAgg20
 z20 := Go.Proofs.Tryz.sizeOf20
 v20 := Go.Proofs.Tryz.zeroValue20
 t37 := Go.Proofs.Tryz.underlying22
 a37 := Go.Proofs.Tryz.isAgg22
 z37 := Go.Proofs.Tryz.sizeOf22
 v37 := Go.Proofs.Tryz.zeroValue22
 t46 := Go.Proofs.Tryz.underlying124
 a46 := Go.Proofs.Tryz.isAgg124
 z46 := Go.Proofs.Tryz.sizeOf124
 v46 := Go.Proofs.Tryz.zeroValue124
 t51 := Go.Proofs.Tryz.underlying144
 a51 := Go.Proofs.Tryz.isAgg144
 z51 := Go.Proofs.Tryz.sizeOf144
 v51 := Go.Proofs.Tryz.zeroValue144
 t53 := Go.Proofs.Tryz.underlying139
 a53 := Go.Proofs.Tryz.isAgg139
 z53 := Go.Proofs.Tryz.sizeOf139
 v53 := Go.Proofs.Tryz.zeroValue139
 t171 := Go.Proofs.Tryz.underlying138
 a171 := Go.Proofs.Tryz.isAgg138
 z171 := Go.Proofs.Tryz.sizeOf138
 v171 := Go.Proofs.Tryz.zeroValue138
 t173 := Go.Proofs.Tryz.underlying142
 a173 := Go.Proofs.Tryz.isAgg142
 z173 := Go.Proofs.Tryz.sizeOf142
 v173 := Go.Proofs.Tryz.zeroValue142
 t212 := Go.Proofs.Tryz.underlying149
 a212 := Go.Proofs.Tryz.isAgg149
 z212 := Go.Proofs.Tryz.sizeOf149
 v212 := Go.Proofs.Tryz.zeroValue149
 t213 := Go.Proofs.Tryz.underlying150
 a213 := Go.Proofs.Tryz.isAgg150
 z213 := Go.Proofs.Tryz.sizeOf150
 t232 := Go.Proofs.Tryz.underlying166
 a232 := Go.Proofs.Tryz.isAgg166
 z232 := Go.Proofs.Tryz.sizeOf166
 v232 := Go.Proofs.Tryz.zeroValue166
 t233 := Go.Proofs.Tryz.underlying167
 a233 := Go.Proofs.Tryz.isAgg167
 z233 := Go.Proofs.Tryz.sizeOf167
 v233 := Go.Proofs.Tryz.zeroValue167
 g17 := by kernel_rfl
 g18 := by kernel_rfl
 g19 := by kernel_rfl
 i0 := by kernel_rfl
 i2 := by kernel_rfl
 i3 := by kernel_rfl
 i4 := by kernel_rfl
 i5 := by kernel_rfl
 i9 := by kernel_rfl
 i20 := by kernel_rfl
 i37 := by kernel_rfl
 i46 := by kernel_rfl
 i51 := by kernel_rfl
 i53 := by kernel_rfl
 i171 := by kernel_rfl
 i173 := by kernel_rfl
 i212 := by kernel_rfl
 i232 := by kernel_rfl
 i233 := by kernel_rfl
 m17 := by kernel_rfl
 m18 := by kernel_rfl
 m19 := by kernel_rfl }
--import Derived.Shelf.Strings.Split
def laySplitRen : Go.Shelf.Ren := ⟨fun | 146 => 32 | 221 => 60 | 268 => 83 | 138 => 84 | 143 => 85 | 195 => 101 | 197 => 102 | 218 => 103 | 219 => 86 | 260 => 118 | 217 => 104 | 225 => 99 | 224 => 98 | 267 => 105 | 266 => 119 | 314 => 120 | n => n, fun | 9 => 9 | 31 => 60 | 3 => 3 | 4 => 4 | 0 => 0 | 105 => 127 | 21 => 21 | 5 => 5 | 46 => 124 | 119 => 152 | 139 => 155 | 138 => 154 | 146 => 145 | 51 => 144 | n => n, fun | 1 => 0 | 3 => 2 | 4 => 3 | n => n⟩
theorem laySplit : Go.Proofs.Lays.n146 Go.Proofs.Tryz.prog laySplitRen := {
 mixed := by kernel_rfl
 f138 := Go.Proofs.Tryz.func84.trans (congrArg some (by kernel_rfl))
 f143 := Go.Proofs.Tryz.func85.trans (congrArg some (by kernel_rfl))
 f146 := Go.Proofs.Tryz.func32.trans (congrArg some (by kernel_rfl))
 f195 := Go.Proofs.Tryz.func101.trans (congrArg some (by kernel_rfl))
 f197 := Go.Proofs.Tryz.func102.trans (congrArg some (by kernel_rfl))
 f217 := Go.Proofs.Tryz.func104.trans (congrArg some (by kernel_rfl))
 f218 := Go.Proofs.Tryz.func103.trans (congrArg some (by kernel_rfl))
 f219 := Go.Proofs.Tryz.func86.trans (congrArg some (by kernel_rfl))
 f221 := Go.Proofs.Tryz.func60.trans (congrArg some (by kernel_rfl))
 f224 := Go.Proofs.Tryz.func98.trans (congrArg some (by kernel_rfl))
 f225 := Go.Proofs.Tryz.func99.trans (congrArg some (by kernel_rfl))
 f260 := Go.Proofs.Tryz.func118.trans (congrArg some (by kernel_rfl))
 f266 := Go.Proofs.Tryz.func119.trans (congrArg some (by kernel_rfl))
 f267 := Go.Proofs.Tryz.func105.trans (congrArg some (by kernel_rfl))
 f268 := Go.Proofs.Tryz.func83.trans (congrArg some (by kernel_rfl))
 f314 := Go.Proofs.Tryz.func120.trans (congrArg some (by kernel_rfl))
 t0 := Go.Proofs.Tryz.underlying0
 a0 := Go.Proofs.Tryz.isAgg0
 z0 := Go.Proofs.Tryz.sizeOf0
 v0 := Go.Proofs.Tryz.zeroValue0
 t3 := Go.Proofs.Tryz.underlying3
 a3 := Go.Proofs.Tryz.isAgg3
 z3 := Go.Proofs.Tryz.sizeOf3
 v3 := Go.Proofs.Tryz.zeroValue3
 t4 := Go.Proofs.Tryz.underlying4
 a4 := Go.Proofs.Tryz.isAgg4
 z4 := Go.Proofs.Tryz.sizeOf4
 v4 := Go.Proofs.Tryz.zeroValue4
 t5 := Go.Proofs.Tryz.underlying5
 a5 := Go.Proofs.Tryz.isAgg5
 z5 := Go.Proofs.Tryz.sizeOf5
 v5 := Go.Proofs.Tryz.zeroValue5
 t9 := Go.Proofs.Tryz.underlying9
 a9 := Go.Proofs.Tryz.isAgg9
 z9 := Go.Proofs.Tryz.sizeOf9
 v9 := Go.Proofs.Tryz.zeroValue9
 t21 := Go.Proofs.Tryz.underlying21
 a21 := Go.Proofs.Tryz.isAgg21
 z21 := Go.Proofs.Tryz.sizeOf21
 v21 := Go.Proofs.Tryz.zeroValue21
 t31 := Go.Proofs.Tryz.underlying60
 a31 := Go.Proofs.Tryz.isAgg60
 z31 := Go.Proofs.Tryz.sizeOf60
 v31 := Go.Proofs.Tryz.zeroValue60
 t46 := Go.Proofs.Tryz.underlying124
 a46 := Go.Proofs.Tryz.isAgg124
 z46 := Go.Proofs.Tryz.sizeOf124
 v46 := Go.Proofs.Tryz.zeroValue124
 t51 := Go.Proofs.Tryz.underlying144
 a51 := Go.Proofs.Tryz.isAgg144
 z51 := Go.Proofs.Tryz.sizeOf144
 v51 := Go.Proofs.Tryz.zeroValue144
 t105 := Go.Proofs.Tryz.underlying127
 a105 := Go.Proofs.Tryz.isAgg127
 z105 := Go.Proofs.Tryz.sizeOf127
 v105 := Go.Proofs.Tryz.zeroValue127
 t119 := Go.Proofs.Tryz.underlying152
 a119 := Go.Proofs.Tryz.isAgg152
 z119 := Go.Proofs.Tryz.sizeOf152
 t138 := Go.Proofs.Tryz.underlying154
 a138 := Go.Proofs.Tryz.isAgg154
 z138 := Go.Proofs.Tryz.sizeOf154
 v138 := Go.Proofs.Tryz.zeroValue154
 t139 := Go.Proofs.Tryz.underlying155
 a139 := Go.Proofs.Tryz.isAgg155
 z139 := Go.Proofs.Tryz.sizeOf155
 v139 := Go.Proofs.Tryz.zeroValue155
 t146 := Go.Proofs.Tryz.underlying145
 a146 := Go.Proofs.Tryz.isAgg145
 z146 := Go.Proofs.Tryz.sizeOf145
 v146 := Go.Proofs.Tryz.zeroValue145
 g1 := by kernel_rfl
 g3 := by kernel_rfl
 g4 := by kernel_rfl }
--import Derived.Shelf.Strings.Cut
def layCutRen : Go.Shelf.Ren := ⟨fun | 145 => 33 | 220 => 61 | 219 => 86 | 217 => 104 | 225 => 99 | 224 => 98 | 267 => 105 | 266 => 119 | 314 => 120 | n => n, fun | 9 => 9 | 4 => 4 | 59 => 62 | 3 => 3 | 5 => 5 | 46 => 124 | 146 => 145 | 51 => 144 | n => n, fun | 1 => 0 | n => n⟩
theorem layCut : Go.Proofs.Lays.n145 Go.Proofs.Tryz.prog layCutRen := {
 mixed := by kernel_rfl
 f145 := Go.Proofs.Tryz.func33.trans (congrArg some (by kernel_rfl))
 f217 := Go.Proofs.Tryz.func104.trans (congrArg some (by kernel_rfl))
 f219 := Go.Proofs.Tryz.func86.trans (congrArg some (by kernel_rfl))
 f220 := Go.Proofs.Tryz.func61.trans (congrArg some (by kernel_rfl))
 f224 := Go.Proofs.Tryz.func98.trans (congrArg some (by kernel_rfl))
 f225 := Go.Proofs.Tryz.func99.trans (congrArg some (by kernel_rfl))
 f266 := Go.Proofs.Tryz.func119.trans (congrArg some (by kernel_rfl))
 f267 := Go.Proofs.Tryz.func105.trans (congrArg some (by kernel_rfl))
 f314 := Go.Proofs.Tryz.func120.trans (congrArg some (by kernel_rfl))
 t3 := Go.Proofs.Tryz.underlying3
 a3 := Go.Proofs.Tryz.isAgg3
 z3 := Go.Proofs.Tryz.sizeOf3
 v3 := Go.Proofs.Tryz.zeroValue3
 t4 := Go.Proofs.Tryz.underlying4
 a4 := Go.Proofs.Tryz.isAgg4
 z4 := Go.Proofs.Tryz.sizeOf4
 v4 := Go.Proofs.Tryz.zeroValue4
 t5 := Go.Proofs.Tryz.underlying5
 a5 := Go.Proofs.Tryz.isAgg5
 z5 := Go.Proofs.Tryz.sizeOf5
 v5 := Go.Proofs.Tryz.zeroValue5
 t9 := Go.Proofs.Tryz.underlying9
 a9 := Go.Proofs.Tryz.isAgg9
 z9 := Go.Proofs.Tryz.sizeOf9
 v9 := Go.Proofs.Tryz.zeroValue9
 t46 := Go.Proofs.Tryz.underlying124
 a46 := Go.Proofs.Tryz.isAgg124
 z46 := Go.Proofs.Tryz.sizeOf124
 v46 := Go.Proofs.Tryz.zeroValue124
 t51 := Go.Proofs.Tryz.underlying144
 a51 := Go.Proofs.Tryz.isAgg144
 z51 := Go.Proofs.Tryz.sizeOf144
 v51 := Go.Proofs.Tryz.zeroValue144
 t59 := Go.Proofs.Tryz.underlying62
 a59 := Go.Proofs.Tryz.isAgg62
 z59 := Go.Proofs.Tryz.sizeOf62
 v59 := Go.Proofs.Tryz.zeroValue62
 t146 := Go.Proofs.Tryz.underlying145
 a146 := Go.Proofs.Tryz.isAgg145
 z146 := Go.Proofs.Tryz.sizeOf145
 v146 := Go.Proofs.Tryz.zeroValue145
 g1 := by kernel_rfl }
--import Derived.Shelf.Strings.IndexAnyAll
def layIdxRen : Go.Shelf.Ren := ⟨fun | 153 => 44 | 152 => 75 | 226 => 76 | 227 => 77 | 228 => 78 | 137 => 96 | 119 => 97 | 224 => 98 | 225 => 99 | 217 => 104 | 266 => 119 | n => n, fun | 9 => 9 | 3 => 3 | 4 => 4 | 5 => 5 | 21 => 21 | 117 => 109 | 116 => 108 | 0 => 0 | 46 => 124 | 124 => 125 | n => n, fun | n => n⟩
theorem layIdx : Go.Proofs.Lays.n153 Go.Proofs.Tryz.prog layIdxRen := {
 mixed := by kernel_rfl
 f119 := Go.Proofs.Tryz.func97.trans (congrArg some (by kernel_rfl))
 f137 := Go.Proofs.Tryz.func96.trans (congrArg some (by kernel_rfl))
 f152 := Go.Proofs.Tryz.func75.trans (congrArg some (by kernel_rfl))
 f153 := Go.Proofs.Tryz.func44.trans (congrArg some (by kernel_rfl))
 f217 := Go.Proofs.Tryz.func104.trans (congrArg some (by kernel_rfl))
 f224 := Go.Proofs.Tryz.func98.trans (congrArg some (by kernel_rfl))
 f225 := Go.Proofs.Tryz.func99.trans (congrArg some (by kernel_rfl))
 f226 := Go.Proofs.Tryz.func76.trans (congrArg some (by kernel_rfl))
 f227 := Go.Proofs.Tryz.func77.trans (congrArg some (by kernel_rfl))
 f228 := Go.Proofs.Tryz.func78.trans (congrArg some (by kernel_rfl))
 f266 := Go.Proofs.Tryz.func119.trans (congrArg some (by kernel_rfl))
 t0 := Go.Proofs.Tryz.underlying0
 a0 := Go.Proofs.Tryz.isAgg0
 z0 := Go.Proofs.Tryz.sizeOf0
 v0 := Go.Proofs.Tryz.zeroValue0
 t3 := Go.Proofs.Tryz.underlying3
 a3 := Go.Proofs.Tryz.isAgg3
 z3 := Go.Proofs.Tryz.sizeOf3
 v3 := Go.Proofs.Tryz.zeroValue3
 t4 := Go.Proofs.Tryz.underlying4
 a4 := Go.Proofs.Tryz.isAgg4
 z4 := Go.Proofs.Tryz.sizeOf4
 v4 := Go.Proofs.Tryz.zeroValue4
 t5 := Go.Proofs.Tryz.underlying5
 a5 := Go.Proofs.Tryz.isAgg5
 z5 := Go.Proofs.Tryz.sizeOf5
 v5 := Go.Proofs.Tryz.zeroValue5
 t9 := Go.Proofs.Tryz.underlying9
 a9 := Go.Proofs.Tryz.isAgg9
 z9 := Go.Proofs.Tryz.sizeOf9
 v9 := Go.Proofs.Tryz.zeroValue9
 t21 := Go.Proofs.Tryz.underlying21
 a21 := Go.Proofs.Tryz.isAgg21
 z21 := Go.Proofs.Tryz.sizeOf21
 v21 := Go.Proofs.Tryz.zeroValue21
 t46 := Go.Proofs.Tryz.underlying124
 a46 := Go.Proofs.Tryz.isAgg124
 z46 := Go.Proofs.Tryz.sizeOf124
 v46 := Go.Proofs.Tryz.zeroValue124
 t116 := Go.Proofs.Tryz.underlying108
 a116 := Go.Proofs.Tryz.isAgg108
 z116 := Go.Proofs.Tryz.sizeOf108
 t117 := Go.Proofs.Tryz.underlying109
 a117 := Go.Proofs.Tryz.isAgg109
 z117 := Go.Proofs.Tryz.sizeOf109
 v117 := Go.Proofs.Tryz.zeroValue109
 t124 := Go.Proofs.Tryz.underlying125
 a124 := Go.Proofs.Tryz.isAgg125
 z124 := Go.Proofs.Tryz.sizeOf125
 v124 := Go.Proofs.Tryz.zeroValue125 }
abbrev n_strings_Join : Nat := 37
theorem cl_strings_Join : Callable Pr n_strings_Join := ⟨Go.Proofs.Tryz.f37, Go.Proofs.Tryz.func37, fun h => by
 have e : (Go.Proofs.Tryz.f37.name == "runtime.NumGoroutine") = false := by kernel_rfl
 rw [h] at e
 simp at e, by kernel_rfl⟩
theorem cl_strconv_Itoa : Callable Pr n_strconv_Itoa := ⟨Go.Proofs.Tryz.f59, Go.Proofs.Tryz.func59, fun h => by
 have e : (Go.Proofs.Tryz.f59.name == "runtime.NumGoroutine") = false := by kernel_rfl
 rw [h] at e
 simp at e, by kernel_rfl⟩
theorem cl_strings_Split : Callable Pr n_strings_Split := ⟨Go.Proofs.Tryz.f32, Go.Proofs.Tryz.func32, fun h => by
 have e : (Go.Proofs.Tryz.f32.name == "runtime.NumGoroutine") = false := by kernel_rfl
 rw [h] at e
 simp at e, by kernel_rfl⟩
theorem cl_strings_Cut : Callable Pr n_strings_Cut := ⟨Go.Proofs.Tryz.f33, Go.Proofs.Tryz.func33, fun h => by
 have e : (Go.Proofs.Tryz.f33.name == "runtime.NumGoroutine") = false := by kernel_rfl
 rw [h] at e
 simp at e, by kernel_rfl⟩
theorem cl_strings_IndexAny : Callable Pr n_strings_IndexAny := ⟨Go.Proofs.Tryz.f44, Go.Proofs.Tryz.func44, fun h => by
 have e : (Go.Proofs.Tryz.f44.name == "runtime.NumGoroutine") = false := by kernel_rfl
 rw [h] at e
 simp at e, by kernel_rfl⟩
theorem tab_here : Pr.globalNamed tabN = some 1 := by kernel_rfl
theorem len_here : Pr.globalNamed lenN = some 0 := by kernel_rfl
--import Derived.Lib.ItoaNum
def sI (n : Int) : ByteArray := ⟨(Lib.itoa n).toArray⟩
theorem sI_one {n : Int} (h0 : 0 ≤ n) (h1 : n < 10) : sI n = ⟨#[UInt8.ofNat (48 + n.toNat)]⟩ := by
 rw [sI, Lib.itoa, if_neg (by omega), Lib.decDigits_one (by omega)]
theorem sI_two {n : Int} (h0 : 10 ≤ n) (h1 : n < 100) : sI n = ⟨#[UInt8.ofNat (48 + n.toNat / 10), UInt8.ofNat (48 + n.toNat % 10)]⟩ := by
 rw [sI, Lib.itoa, if_neg (by omega), Lib.decDigits_two (by omega) (by omega)]
theorem sI_size {n : Int} (h0 : 0 ≤ n) (h1 : n < 100) : 1 ≤ (sI n).size ∧ (sI n).size ≤ 2 := by
 by_cases h : n < 10
 ·rw [sI_one h0 h]; exact ⟨by simp [ByteArray.size], by simp [ByteArray.size]⟩
 ·rw [sI_two (by omega) h1]; exact ⟨by simp [ByteArray.size], by simp [ByteArray.size]⟩
theorem small_one : ∀ i : Fin 10, (⟨#[48, 49, 50, 51, 52, 53, 54, 55, 56, 57, 97, 98, 99, 100, 101, 102, 103, 104, 105, 106, 107, 108, 109, 110, 111, 112, 113, 114, 115, 116, 117, 118, 119, 120, 121, 122]⟩ : ByteArray).extract i.val (i.val + 1) = ⟨#[UInt8.ofNat (48 + i.val)]⟩ := by decide +kernel
theorem small_two : ∀ i : Fin 100, (⟨#[48, 48, 48, 49, 48, 50, 48, 51, 48, 52, 48, 53, 48, 54, 48, 55, 48, 56, 48, 57, 49, 48, 49, 49, 49, 50, 49, 51, 49, 52, 49, 53, 49, 54, 49, 55, 49, 56, 49, 57, 50, 48, 50, 49, 50, 50, 50, 51, 50, 52, 50, 53, 50, 54, 50, 55, 50, 56, 50, 57, 51, 48, 51, 49, 51, 50, 51, 51, 51, 52, 51, 53, 51, 54, 51, 55, 51, 56, 51, 57, 52, 48, 52, 49, 52, 50, 52, 51, 52, 52, 52, 53, 52, 54, 52, 55, 52, 56, 52, 57, 53, 48, 53, 49, 53, 50, 53, 51, 53, 52, 53, 53, 53, 54, 53, 55, 53, 56, 53, 57, 54, 48, 54, 49, 54, 50, 54, 51, 54, 52, 54, 53, 54, 54, 54, 55, 54, 56, 54, 57, 55, 48, 55, 49, 55, 50, 55, 51, 55, 52, 55, 53, 55, 54, 55, 55, 55, 56, 55, 57, 56, 48, 56, 49, 56, 50, 56, 51, 56, 52, 56, 53, 56, 54, 56, 55, 56, 56, 56, 57, 57, 48, 57, 49, 57, 50, 57, 51, 57, 52, 57, 53, 57, 54, 57, 55, 57, 56, 57, 57]⟩ : ByteArray).extract (i.val * 2) (i.val * 2 + 2) = ⟨#[UInt8.ofNat (48 + i.val / 10), UInt8.ofNat (48 + i.val % 10)]⟩ := by decide +kernel
theorem w_internal_strconv_small (n : Int) (h0 : 0 ≤ n) (h1 : n < 100) : Fn Pr n_internal_strconv_small [.int .i64 (fun _ => n)] (.str (fun _ => sI n)) := by
 refine k_internal_strconv_small.fn (by kernel_rfl) ?_
 conv=>arg 4;cbv
 repeat' first
  | (refine Sat.cmp (fun h => ?_) (fun h => ?_) <;> simp only [Cmp.holds] at h <;> (conv=>arg 4;cbv))
  | (refine Sat.ari64 ndA ndA ?_; conv=>arg 4;cbv)
  | (refine Sat.need ⟨by (try dsimp only); omega, by (try dsimp only); omega, by (show _ ≤ ((36 : Nat) : Int)); (try dsimp only); omega⟩ ?_; conv=>arg 4;cbv)
  | (refine Sat.need ⟨by (try dsimp only); omega, by (try dsimp only); omega, by (show _ ≤ ((200 : Nat) : Int)); (try dsimp only); omega⟩ ?_; conv=>arg 4;cbv)
  | refine Sat.done (.str ?_)
 ·have e := small_one ⟨n.toNat, by omega⟩
  dsimp only at e
  rw [sI_one h0 (by assumption), ← e]
  dsimp only
  congr 1
  omega
 ·have e := small_two ⟨n.toNat, by omega⟩
  dsimp only at e
  rw [sI_two (by omega) h1, ← e]
  dsimp only
  congr 1 <;> omega
theorem w_internal_strconv_FormatInt (n : Int) (h0 : 0 ≤ n) (h1 : n < 100) : Fn Pr n_internal_strconv_FormatInt [.int .i64 (fun _ => n), .int .i64 (fun _ => 10)] (.str (fun _ => sI n)) := by
 refine k_internal_strconv_FormatInt.fn (by kernel_rfl) ?_
 conv=>arg 4;cbv
 repeat' first
  | (refine Sat.cmp (fun h => ?_) (fun h => ?_) <;> simp only [Cmp.holds] at h <;> (conv=>arg 4;cbv))
  | (refine Sat.call (w_internal_strconv_small n h0 h1) rfl ledA ?_; conv=>arg 4;cbv)
  | (exfalso; first | omega | (simp_all; done))
  | (refine Sat.need ndA ?_; conv=>arg 4;cbv)
  | (refine Sat.idxk (by assumption) ?_; conv=>arg 4;cbv) | (refine Sat.idx ndA (fun v_ hv_ => ?_); conv=>arg 4;cbv)
  | (refine Sat.ari64 ndA ndA ?_; conv=>arg 4;cbv)
  | (refine Sat.pop ?_; conv=>arg 4;cbv)
  | refine Sat.done ?_
 all_goals exact .same _
theorem w_internal_strconv_Itoa (n : Int) (h0 : 0 ≤ n) (h1 : n < 100) : Fn Pr n_internal_strconv_Itoa [.int .i64 (fun _ => n)] (.str (fun _ => sI n)) := by
 refine k_internal_strconv_Itoa.fn (by kernel_rfl) ?_
 conv=>arg 4;cbv
 repeat' first
  | (refine Sat.cmp (fun h => ?_) (fun h => ?_) <;> simp only [Cmp.holds] at h <;> (conv=>arg 4;cbv))
  | (refine Sat.call (w_internal_strconv_FormatInt n h0 h1) rfl ledA ?_; conv=>arg 4;cbv)
  | (refine Sat.need ndA ?_; conv=>arg 4;cbv)
  | (refine Sat.idxk (by assumption) ?_; conv=>arg 4;cbv) | (refine Sat.idx ndA (fun v_ hv_ => ?_); conv=>arg 4;cbv)
  | (refine Sat.ari64 ndA ndA ?_; conv=>arg 4;cbv)
  | (refine Sat.pop ?_; conv=>arg 4;cbv)
  | refine Sat.done ?_
 all_goals exact .same _
theorem w_strconv_Itoa (n : Int) (h0 : 0 ≤ n) (h1 : n < 100) : Fn Pr n_strconv_Itoa [.int .i64 (fun _ => n)] (.str (fun _ => sI n)) := by
 refine k_strconv_Itoa.fn (by kernel_rfl) ?_
 conv=>arg 4;cbv
 repeat' first
  | (refine Sat.cmp (fun h => ?_) (fun h => ?_) <;> simp only [Cmp.holds] at h <;> (conv=>arg 4;cbv))
  | (refine Sat.call (w_internal_strconv_Itoa n h0 h1) rfl ledA ?_; conv=>arg 4;cbv)
  | (refine Sat.need ndA ?_; conv=>arg 4;cbv)
  | (refine Sat.idxk (by assumption) ?_; conv=>arg 4;cbv) | (refine Sat.idx ndA (fun v_ hv_ => ?_); conv=>arg 4;cbv)
  | (refine Sat.ari64 ndA ndA ?_; conv=>arg 4;cbv)
  | (refine Sat.pop ?_; conv=>arg 4;cbv)
  | refine Sat.done ?_
 all_goals exact .same _
theorem w_impl_FormatInt (n : Int) (h0 : 0 ≤ n) (h1 : n < 100) : Fn Pr n_impl_FormatInt [.int .i64 (fun _ => n)] (.str (fun _ => sI n)) := by
 refine k_impl_FormatInt.fn (by kernel_rfl) ?_
 conv=>arg 4;cbv
 repeat' first
  | (refine Sat.cmp (fun h => ?_) (fun h => ?_) <;> simp only [Cmp.holds] at h <;> (conv=>arg 4;cbv))
  | (refine Sat.call (w_strconv_Itoa n h0 h1) rfl ledA ?_; conv=>arg 4;cbv)
  | (refine Sat.need ndA ?_; conv=>arg 4;cbv)
  | (refine Sat.idxk (by assumption) ?_; conv=>arg 4;cbv) | (refine Sat.idx ndA (fun v_ hv_ => ?_); conv=>arg 4;cbv)
  | (refine Sat.ari64 ndA ndA ?_; conv=>arg 4;cbv)
  | (refine Sat.pop ?_; conv=>arg 4;cbv)
  | refine Sat.done ?_
 all_goals exact .same _
theorem nDig_le (u : Nat) : Lib.nDigits u ≤ u / 10 + 1 := by
 induction u using Nat.strongRecOn with
 | _ u ih =>
   by_cases h : u < 10
   ·rw [Lib.nDigits_small h]; omega
   ·rw [Lib.nDigits_big h]
    have := ih (u / 10) (by omega)
    omega
theorem decDig_big {u : Nat} (h : ¬ u < 10) : Lib.decDigits u = Lib.decDigits (u / 10) ++ [UInt8.ofNat (48 + u % 10)] := by
 rw [Lib.decDigits, dif_neg h]
theorem bytes_ext {a b : ByteArray} (h : a.data.toList = b.data.toList) : a = b := by
 cases a; cases b
 congr 1
 exact Array.toList_inj.1 h
theorem sI_list (n : Int) : (sI n).data.toList = Lib.itoa n := by simp [sI]
theorem sI_pos {n : Int} (h : 0 ≤ n) : sI n = ⟨(Lib.decDigits n.toNat).toArray⟩ := by rw [sI, Lib.itoa, if_neg (by omega)]
theorem Sat.ari8 {P : Program} {Q : AV → Prop} {As : List (St → Prop)} {v : Unit → Int} {c : (Unit → Int) → Tree} (h1 : 0 ≤ v ()) (h2 : v () ≤ 255) (hc : Sat P Q As (c v)) : Sat P Q As (.ari .u8 v c) :=
 .ari (IntWalk.u8_in _ ⟨h1, h2⟩) hc
theorem strOf_one {d : Int} : strOfNums [d] = ⟨#[UInt8.ofNat d.toNat]⟩ := rfl
theorem w_spec_FormatInt (n : Int) (h0 : 0 ≤ n) (h1 : n ≤ 9223372036854775807) : Fn Pr n_spec_FormatInt [.int .i64 (fun _ => n)] (.str (fun _ => sI n)) := by
 refine k_spec_FormatInt.fn (by kernel_rfl) ?_
 conv=>arg 4;cbv
 refine Sat.cmp (fun h => ?_) (fun h => ?_) <;> simp only [Cmp.holds] at h <;> (conv=>arg 4;cbv)
 ·refine Sat.done (.str ?_)
  subst h
  rw [sI_one (by omega) (by omega)]
  rfl
 refine Sat.cmp (fun h => ?_) (fun h => ?_) <;> simp only [Cmp.holds] at h <;> (conv=>arg 4;cbv)
 ·exfalso; omega
 refine Sat.loopP (ι := Nat × ByteArray) (fun i => [(0, .int .i64 (fun _ => (i.1 : Int))), (3, .str (fun _ => i.2))]) (fun i => []) (fun i => (i.1 : Int) ≤ n ∧ (i.1 ≠ 0 → Lib.decDigits i.1 ++ i.2.data.toList = Lib.decDigits n.toNat) ∧ (i.1 = 0 → i.2.data.toList = Lib.decDigits n.toNat)) (fun i => i.1) (n.toNat, ⟨#[]⟩) ?_ ⟨by simp only; omega, fun _ => by simp, fun h => by exfalso; simp only at h; omega⟩ (fun i hi => ?_)
 ·refine les_of ?_ ?_ rfl
  iterate 2 (focus repeat' (first | exact trivial | refine And.intro ?_ ?_ | exact levA | refine lev_cons ?_ ?_ | refine LeV.agg rfl ?_ | exact Nat.le_of_ble_eq_true rfl | exact Or.inl ⟨_, rfl, .row rfl⟩ | refine Or.inl ⟨_, rfl, .row ?_⟩ | refine Or.inl ⟨_, rfl, .lit rfl ?_⟩ | exact Or.inr ⟨rfl, rfl⟩ | (exact .int (by omega))))
 obtain ⟨m, s⟩ := i
 obtain ⟨hm, hs1, hs2⟩ := hi
 simp only at hm hs1 hs2
 have hd : Int.tmod (m : Int) 10 = ((m % 10 : Nat) : Int) := rfl
 have hq : Int.tdiv (m : Int) 10 = ((m / 10 : Nat) : Int) := rfl
 conv=>arg 4;cbv
 refine Sat.cmp (fun h => ?_) (fun h => ?_) <;> simp only [Cmp.holds] at h <;> (conv=>arg 4;cbv)
 ·refine Sat.pop ?_
  conv=>arg 4;cbv
  refine Sat.done (.str ?_)
  simp only [ncast] at *
  rw [sI_pos h0]
  exact bytes_ext (by rw [hs2 (by omega)])
 have hm0 : m ≠ 0 := by simp only [ncast] at *; omega
 have hlen : s.size + 1 ≤ 9223372036854775807 := by
  have e := congrArg List.length (hs1 hm0)
  have e2 := nDig_le n.toNat
  have e3 := Lib.nDigits_pos m
  rw [List.length_append, Lib.decDigits_length, Lib.decDigits_length] at e
  have e4 : s.data.toList.length = s.size := rfl
  omega
 refine Sat.need (by decide) ?_
 conv=>arg 4;cbv
 refine Sat.cmp (fun h => ?_) (fun h => ?_) <;> simp only [Cmp.holds] at h <;> (conv=>arg 4;cbv)
 ·exfalso
  simp only [ncast] at *
  omega
 refine Sat.ari64 (by (try dsimp only); simp only [ncast] at *; omega) (by (try dsimp only); simp only [ncast] at *; omega) ?_
 conv=>arg 4;cbv
 refine Sat.ari8 (by (try dsimp only); simp only [ncast] at *; omega) (by (try dsimp only); simp only [ncast] at *; omega) ?_
 conv=>arg 4;cbv
 refine Sat.same ?_
 conv=>arg 4;cbv
 refine Sat.need (by
  show (strOfNums [48 + Int.tmod (m : Int) 10]).size + s.size ≤ _
  rw [strOfNums_size]
  simp only [List.length_cons, List.length_nil]
  omega) ?_
 conv=>arg 4;cbv
 refine Sat.need (by decide) ?_
 conv=>arg 4;cbv
 refine Sat.ari64 (by (try dsimp only); simp only [ncast] at *; omega) (by (try dsimp only); simp only [ncast] at *; omega) ?_
 conv=>arg 4;cbv
 refine Sat.next (m / 10, strOfNums [48 + Int.tmod (m : Int) 10] ++ s) ?_ ?_ (by (try dsimp only); omega)
 ·exact lesA
 ·have e : (strOfNums [48 + Int.tmod (m : Int) 10] ++ s).data.toList = UInt8.ofNat (48 + m % 10) :: s.data.toList := by
   rw [hd, strOf_one]
   have : (48 + ((m % 10 : Nat) : Int)).toNat = 48 + m % 10 := by omega
   rw [this]
   simp
  simp only [e]
  refine ⟨Int.le_trans (Int.ofNat_le.2 (Nat.div_le_self m 10)) hm, fun h2 => ?_, fun h2 => ?_⟩
  ·rw [← hs1 hm0, decDig_big (u := m) (by omega)]
   simp
  ·have hm10 : m < 10 := by omega
   rw [← hs1 hm0, Lib.decDigits_one hm10, Nat.mod_eq_of_lt hm10]
   simp
def fS (l : List Int) : ByteArray := ⟨(l.flatMap (fun x => Lib.itoa x)).toArray⟩
def srvT (l : List Int) : ByteArray := if areServers l = true then (if l = [] then ⟨#[110, 111, 110, 101]⟩ else fS l) else ⟨#[]⟩
theorem fS_nil : fS [] = ⟨#[]⟩ := rfl
theorem fS_snoc {l : List Int} {i : Nat} {x : Int} {s : ByteArray} (hs : s = fS (l.take i)) (hx : l[i]? = some x) : s ++ sI x = fS (l.take (i + 1)) := by
 refine bytes_ext ?_
 have e : l.take (i + 1) = l.take i ++ [x] := by rw [List.take_add_one, hx]; rfl
 rw [hs, e]
 simp [fS, sI]
theorem fS_size {l : List Int} (h : ∀ x ∈ l, 0 ≤ x ∧ x ≤ 4) : (fS l).size = l.length := by
 have e : ∀ l : List Int, (∀ x ∈ l, 0 ≤ x ∧ x ≤ 4) → (l.flatMap (fun x => Lib.itoa x)).length = l.length := by
  intro l
  induction l with
  | nil => intro _; rfl
  | cons x r ih =>
    intro h
    have hx := h x (List.mem_cons_self ..)
    rw [List.flatMap_cons, List.length_append, ih (fun y hy => h y (List.mem_cons_of_mem _ hy)), Lib.itoa, if_neg (by omega), Lib.decDigits_one (by omega)]
    simp
    omega
 exact e l h
theorem fS_take_size {l : List Int} {i : Nat} {s : ByteArray} (hs : s = fS (l.take i)) (hA : areServers l = true) : s.size ≤ 5 := by
 rw [hs, fS_size (fun x hx => areServers_rng hA x (List.mem_of_mem_take hx)), List.length_take]
 have := areServers_len hA
 omega
theorem srvT_size {l : List Int} : (srvT l).size ≤ 5 := by
 unfold srvT
 split
 ·rename_i hA
  split
  ·exact (by decide : (4 : Nat) ≤ 5)
  ·have := fS_take_size (l := l) (i := l.length) (s := fS l) (by rw [List.take_length]) hA
   exact this
 ·exact Nat.zero_le _
theorem w_impl_FormatServers (l : List Int) (hb : bIntS l) : Fn Pr n_impl_FormatServers [.sl 1 (encI .i64) (fun _ => l)] (.str (fun _ => srvT l)) := by
 refine k_impl_FormatServers.fn (by kernel_rfl) ?_
 have h0 : l.length * 8 ≤ 140737488351232 := hb
 conv=>arg 4;cbv
 refine Sat.callb (w_impl_AreServers l hb) rfl ledA (fun hA => ?_) (fun hA => ?_) <;> (conv=>arg 4;cbv)
 rotate_left
 ·refine Sat.done (.str ?_)
  rw [srvT, if_neg (by rw [hA]; exact Bool.false_ne_true)]
 refine Sat.cmp (fun h => ?_) (fun h => ?_) <;> simp only [Cmp.holds] at h <;> (conv=>arg 4;cbv)
 ·refine Sat.done (.str ?_)
  have : l = [] := List.eq_nil_of_length_eq_zero (by simp only [ncast] at *; omega)
  rw [srvT, if_pos hA, if_pos this]
 refine Sat.loopP (ι := Nat × ByteArray) (fun i => [(16, .int .i64 (fun _ => (i.1 : Int))), (3, .str (fun _ => i.2))]) (fun i => []) (fun i => i.1 ≤ l.length ∧ i.2 = fS (l.take i.1)) (fun i => l.length - i.1) (0, ⟨#[]⟩) ?_ ⟨by simp only; omega, rfl⟩ (fun i hi => ?_)
 ·exact lesA
 obtain ⟨k, s⟩ := i
 obtain ⟨hk, hs⟩ := hi
 simp only at hk hs
 have hl5 := areServers_len hA
 have hsz := fS_take_size hs hA
 conv=>arg 4;cbv
 repeat' first
  | (refine Sat.cmp (fun h => ?_) (fun h => ?_) <;> simp only [Cmp.holds] at h <;> (conv=>arg 4;cbv))
  | (refine Sat.call (w_impl_FormatInt v_ (by have := areServers_rng hA v_ (List.mem_of_getElem? hv_); omega) (by have := areServers_rng hA v_ (List.mem_of_getElem? hv_); omega)) rfl ledA ?_; conv=>arg 4;cbv)
  | (refine Sat.need (by
      have h1 := areServers_rng hA v_ (List.mem_of_getElem? hv_)
      have h2 := sI_size (n := v_) (by omega) (by omega)
      show s.size + (sI v_).size ≤ _
      omega) ?_; conv=>arg 4;cbv)
  | (refine Sat.need ndA ?_; conv=>arg 4;cbv)
  | (refine Sat.idxk (by assumption) ?_; conv=>arg 4;cbv) | (refine Sat.idx ndA (fun v_ hv_ => ?_); conv=>arg 4;cbv)
  | (refine Sat.ari64 ndA ndA ?_; conv=>arg 4;cbv)
  | (refine Sat.pop ?_; conv=>arg 4;cbv)
  | refine Sat.next (k + 1, s ++ sI v_) ?_ ?_ (by (try dsimp only); exact arA)
  | refine Sat.done ?_
 ·exact lesA
 ·exact ⟨by (try dsimp only); exact arA, fS_snoc hs hv_⟩
 ·refine .str ?_
  have e : k = l.length := by exact arA
  have hne : l ≠ [] := by
   intro e2
   have e3 : l.length = 0 := by rw [e2]; rfl
   simp only [ncast] at *
   omega
  rw [srvT, if_pos hA, if_neg hne]
  show s = _
  rw [hs, e, List.take_length]
theorem w_spec_FormatServers (l : List Int) (hb : bIntS l) : Fn Pr n_spec_FormatServers [.sl 1 (encI .i64) (fun _ => l)] (.str (fun _ => srvT l)) := by
 refine k_spec_FormatServers.fn (by kernel_rfl) ?_
 have h0 : l.length * 8 ≤ 140737488351232 := hb
 conv=>arg 4;cbv
 refine Sat.callb (w_spec_AreServers l hb) rfl ledA (fun hA => ?_) (fun hA => ?_) <;> (conv=>arg 4;cbv)
 rotate_left
 ·refine Sat.done (.str ?_)
  rw [srvT, if_neg (by rw [hA]; exact Bool.false_ne_true)]
 refine Sat.cmp (fun h => ?_) (fun h => ?_) <;> simp only [Cmp.holds] at h <;> (conv=>arg 4;cbv)
 ·refine Sat.done (.str ?_)
  have : l = [] := List.eq_nil_of_length_eq_zero (by simp only [ncast] at *; omega)
  rw [srvT, if_pos hA, if_pos this]
 refine Sat.loopP (ι := Nat × ByteArray) (fun i => [(4, .int .i64 (fun _ => (i.1 : Int))), (3, .str (fun _ => i.2))]) (fun i => []) (fun i => i.1 ≤ l.length ∧ i.2 = fS (l.take i.1)) (fun i => l.length - i.1) (0, ⟨#[]⟩) ?_ ⟨by simp only; omega, rfl⟩ (fun i hi => ?_)
 ·exact lesA
 obtain ⟨k, s⟩ := i
 obtain ⟨hk, hs⟩ := hi
 simp only at hk hs
 have hl5 := areServers_len hA
 have hsz := fS_take_size hs hA
 conv=>arg 4;cbv
 repeat' first
  | (refine Sat.cmp (fun h => ?_) (fun h => ?_) <;> simp only [Cmp.holds] at h <;> (conv=>arg 4;cbv))
  | (refine Sat.call (w_spec_FormatInt v_ (by have := areServers_rng hA v_ (List.mem_of_getElem? hv_); omega) (by have := areServers_rng hA v_ (List.mem_of_getElem? hv_); omega)) rfl ledA ?_; conv=>arg 4;cbv)
  | (refine Sat.need (by
      have h1 := areServers_rng hA v_ (List.mem_of_getElem? hv_)
      have h2 := sI_size (n := v_) (by omega) (by omega)
      show s.size + (sI v_).size ≤ _
      omega) ?_; conv=>arg 4;cbv)
  | (refine Sat.need ndA ?_; conv=>arg 4;cbv)
  | (refine Sat.idxk (by assumption) ?_; conv=>arg 4;cbv) | (refine Sat.idx ndA (fun v_ hv_ => ?_); conv=>arg 4;cbv)
  | (refine Sat.ari64 ndA ndA ?_; conv=>arg 4;cbv)
  | (refine Sat.pop ?_; conv=>arg 4;cbv)
  | refine Sat.next (k + 1, s ++ sI v_) ?_ ?_ (by (try dsimp only); exact arA)
  | refine Sat.done ?_
 ·exact lesA
 ·exact ⟨by (try dsimp only); exact arA, fS_snoc hs hv_⟩
 ·refine .str ?_
  have e : k = l.length := by exact arA
  have hne : l ≠ [] := by
   intro e2
   have e3 : l.length = 0 := by rw [e2]; rfl
   simp only [ncast] at *
   omega
  rw [srvT, if_pos hA, if_neg hne]
  show s = _
  rw [hs, e, List.take_length]
def cfgT (c : GConfig) : ByteArray := if validC c = true then sI c.Epoch ++ ⟨#[32]⟩ ++ sI c.Primary ++ ⟨#[32]⟩ ++ srvT c.Replicas ++ ⟨#[32]⟩ ++ srvT c.Witnesses else ⟨#[]⟩
theorem validC_prim {c : GConfig} (h : validC c = true) : 0 ≤ c.Primary ∧ c.Primary ≤ 4 := by
 obtain ⟨_, h2, _, h4, _⟩ := validC_spec h
 exact areServers_rng h2 _ h4
theorem w_spec_FormatConfig (c : GConfig) (hb : bConfig c) : Fn Pr n_spec_FormatConfig [aGConfig c] (.str (fun _ => cfgT c)) := by
 refine k_spec_FormatConfig.fn (by kernel_rfl) ?_
 conv=>arg 4;cbv
 refine Sat.callb (w_spec_IsValidConfig c hb) rfl ledA (fun hV => ?_) (fun hV => ?_) <;> (conv=>arg 4;cbv)
 rotate_left
 ·refine Sat.done (.str ?_)
  rw [cfgT, if_neg (by rw [hV]; exact Bool.false_ne_true)]
 have h1 := (validC_spec hV).1
 have h2 := validC_prim hV
 have s1 := sI_size (n := c.Epoch) (by omega) (by omega)
 have s2 := sI_size (n := c.Primary) (by omega) (by omega)
 have s3 := srvT_size (l := c.Replicas)
 have s4 := srvT_size (l := c.Witnesses)
 have s5 : (⟨⟨[32]⟩⟩ : ByteArray).size = 1 := rfl
 repeat' first
  | (refine Sat.call (w_spec_FormatInt c.Epoch (by omega) (by omega)) rfl ledA ?_; conv=>arg 4;cbv)
  | (refine Sat.call (w_spec_FormatInt c.Primary (by omega) (by omega)) rfl ledA ?_; conv=>arg 4;cbv)
  | (refine Sat.call (w_spec_FormatServers c.Replicas hb.1) rfl ledA ?_; conv=>arg 4;cbv)
  | (refine Sat.call (w_spec_FormatServers c.Witnesses hb.2) rfl ledA ?_; conv=>arg 4;cbv)
  | (refine Sat.need (by (try dsimp only); simp only [ByteArray.size_append, s5]; omega) ?_; conv=>arg 4;cbv)
  | refine Sat.done ?_
 refine .str ?_
 rw [cfgT, if_pos hV]
--import Derived.Shelf.Strings.OnBuilder
theorem w_strings_Join (l : List ByteArray) (sep : ByteArray) (hb : l.length ≤ 1048576) (hz : (Lib.join (l.map (·.data.toList)) sep.data.toList).length ≤ 140737488355328) : Fn Pr n_strings_Join [.sl 1 encS (fun _ => l), .str (fun _ => sep)] (.str (fun _ => ⟨(Lib.join (l.map (·.data.toList)) sep.data.toList).toArray⟩)) := by
 refine ⟨cl_strings_Join, fun w vs F htb hsz hargs => ?_⟩
 have ha := hargs 0 _ rfl
 have hs := hargs 1 _ rfl
 have hsz2 : vs.size = 2 := hsz
 have hvs : vs = #[vs.getD 0 Go.undef, vs.getD 1 Go.undef] := by
  apply Array.ext_getElem?
  intro i
  cases i with
  | zero => rw [Array.getD_eq_getD_getElem?, Array.getElem?_eq_getElem (by omega)]; rfl
  | succ i =>
    cases i with
    | zero => rw [Array.getD_eq_getD_getElem? (i := 1), Array.getElem?_eq_getElem (by omega)]; rfl
    | succ i => rw [Array.getElem?_eq_none (by omega), Array.getElem?_eq_none (by simp)]
 have hs1 : vs.getD 1 Go.undef = .string sep := by
  generalize vs.getD 1 Go.undef = v at hs
  generalize F 1 = f1 at hs
  cases hs
  rfl
 rw [hs1] at hvs
 rw [hvs]
 generalize vs.getD 0 Go.undef = v at ha
 generalize F 0 = f0 at ha
 cases ha with
 | sl0 A h =>
   have h : l = [] := h
   subst h
   refine (Go.Proofs.Any.strings_Join_none layJoin layJoinX A 0 sep w).mono ?_
   rintro e w' ⟨rfl, rfl⟩
   exact ⟨_, [], rfl, .str _, List.nodup_nil, fun g hg => (by cases hg), Below.refl _ _⟩
 | @sl _ _ _ _ g off cap cs t fr u G hn hg hr hu hd =>
   have hblk : g < w.heap.size := (Array.getElem?_eq_some_iff.1 hg).1
   refine (Go.Proofs.Any.strings_Join layJoin layJoinX g off cap l sep w (fun j x hx => ?_) hblk (by omega) hn hz).mono ?_
   ·have h2 : Deep w (.str (fun _ => x)) (u j 0) (G j 0) := hd j x hx 0 (by omega)
    have h3 := hu j x hx 0 (by omega)
    have h4 : u j 0 = .string x := by
     generalize u j 0 = q at h2
     generalize G j 0 = q2 at h2
     cases h2
     rfl
    rw [cell_of hg]
    rw [h4] at h3
    rw [show off + j = off + j * 1 + 0 by omega]
    exact h3
   ·rintro e w' ⟨rfl, hB⟩
    exact ⟨_, [], rfl, .str _, List.nodup_nil, fun g hg => (by cases hg), hB⟩
--import Derived.Lib.Join
theorem join4 (a b c d s : List UInt8) : Lib.join [a, b, c, d] s = a ++ (s ++ (b ++ (s ++ (c ++ (s ++ d))))) := by
 rw [Lib.join_cons]
 simp [Lib.joinTail]
theorem join4b (a b c d : ByteArray) : (⟨(Lib.join ([a, b, c, d].map (·.data.toList)) (⟨#[32]⟩ : ByteArray).data.toList).toArray⟩ : ByteArray) = a ++ ⟨#[32]⟩ ++ b ++ ⟨#[32]⟩ ++ c ++ ⟨#[32]⟩ ++ d := by
 have e : [a, b, c, d].map (·.data.toList) = [a.data.toList, b.data.toList, c.data.toList, d.data.toList] := rfl
 rw [e, join4]
 refine bytes_ext ?_
 simp
theorem join4n (a b c d : ByteArray) : (Lib.join ([a, b, c, d].map (·.data.toList)) (⟨#[32]⟩ : ByteArray).data.toList).length = a.size + (1 + (b.size + (1 + (c.size + (1 + d.size))))) := by
 have e : [a, b, c, d].map (·.data.toList) = [a.data.toList, b.data.toList, c.data.toList, d.data.toList] := rfl
 rw [e, join4]
 simp only [List.length_append]
 rfl
theorem w_impl_FormatConfig (c : GConfig) (hb : bConfig c) : Fn Pr n_impl_FormatConfig [aGConfig c] (.str (fun _ => cfgT c)) := by
 refine k_impl_FormatConfig.fn (by kernel_rfl) ?_
 conv=>arg 4;cbv
 refine Sat.callb (w_impl_IsValidConfig c hb) rfl ledA (fun hV => ?_) (fun hV => ?_) <;> (conv=>arg 4;cbv)
 rotate_left
 ·refine Sat.done (.str ?_)
  rw [cfgT, if_neg (by rw [hV]; exact Bool.false_ne_true)]
 have h1 := (validC_spec hV).1
 have h2 := validC_prim hV
 have s1 := sI_size (n := c.Epoch) (by omega) (by omega)
 have s2 := sI_size (n := c.Primary) (by omega) (by omega)
 have s3 := srvT_size (l := c.Replicas)
 have s4 := srvT_size (l := c.Witnesses)
 have ej := join4b (sI c.Epoch) (sI c.Primary) (srvT c.Replicas) (srvT c.Witnesses)
 have hz := join4n (sI c.Epoch) (sI c.Primary) (srvT c.Replicas) (srvT c.Witnesses)
 repeat' first
  | (refine Sat.call (w_impl_FormatInt c.Epoch (by omega) (by omega)) rfl ledA ?_; conv=>arg 4;cbv)
  | (refine Sat.call (w_impl_FormatInt c.Primary (by omega) (by omega)) rfl ledA ?_; conv=>arg 4;cbv)
  | (refine Sat.call (w_impl_FormatServers c.Replicas hb.1) rfl ledA ?_; conv=>arg 4;cbv)
  | (refine Sat.call (w_impl_FormatServers c.Witnesses hb.2) rfl ledA ?_; conv=>arg 4;cbv)
  | (refine Sat.call (w_strings_Join [sI c.Epoch, sI c.Primary, srvT c.Replicas, srvT c.Witnesses] ⟨#[32]⟩ (by simp) (by omega)) rfl ledA ?_; conv=>arg 4;cbv)
  | refine Sat.done ?_
 refine .str (ej.trans ?_)
 rw [cfgT, if_pos hV]
--import Derived.Lib.ItoaNum
def isD (b : UInt8) : Bool := decide (48 ≤ b.toNat ∧ b.toNat ≤ 57)
theorem isD_iff {b : UInt8} : isD b = true ↔ 48 ≤ b.toNat ∧ b.toNat ≤ 57 := by
 rw [isD, decide_eq_true_iff]
def dv (l : List UInt8) : Nat := l.foldl (fun n b => 10 * n + (b.toNat - 48)) 0
theorem dv_snoc (l : List UInt8) (b : UInt8) : dv (l ++ [b]) = 10 * dv l + (b.toNat - 48) := by
 simp [dv, List.foldl_append]
theorem dig_nat {d : Nat} (h : d < 10) : (UInt8.ofNat (48 + d)).toNat = 48 + d := by
 rw [UInt8.toNat_ofNat']
 omega
theorem dv_dec : ∀ u : Nat, dv (Lib.decDigits u) = u := by
 intro u
 induction u using Nat.strongRecOn with
 | _ u ih =>
   by_cases h : u < 10
   ·rw [Lib.decDigits_one h]
    show 10 * 0 + ((UInt8.ofNat (48 + u)).toNat - 48) = u
    rw [dig_nat h]
    omega
   ·rw [decDig_big h, dv_snoc, ih (u / 10) (by omega), dig_nat (Nat.mod_lt _ (by decide))]
    omega
theorem dec_isD : ∀ (u : Nat) (b : UInt8), b ∈ Lib.decDigits u → isD b = true := by
 intro u
 induction u using Nat.strongRecOn with
 | _ u ih =>
   intro b hb
   by_cases h : u < 10
   ·rw [Lib.decDigits_one h, List.mem_singleton] at hb
    subst hb
    rw [isD_iff, dig_nat h]
    omega
   ·rw [decDig_big h, List.mem_append, List.mem_singleton] at hb
    rcases hb with hb | rfl
    ·exact ih (u / 10) (by omega) b hb
    ·rw [isD_iff, dig_nat (Nat.mod_lt _ (by decide))]
     have := Nat.mod_lt u (y := 10) (by decide)
     omega
theorem dv_lt_k : ∀ (k : Nat) (l : List UInt8), l.length = k → (∀ b ∈ l, isD b = true) → dv l < 10 ^ k := by
 intro k
 induction k with
 | zero =>
   intro l hl _
   rw [List.eq_nil_of_length_eq_zero hl]
   decide
 | succ k ih =>
   intro l hl h
   have hne : l ≠ [] := by intro e; subst e; simp at hl
   have e := List.dropLast_concat_getLast hne
   rw [← e] at h ⊢
   have h1 := ih l.dropLast (by rw [List.length_dropLast]; omega) (fun c hc => h c (List.mem_append_left _ hc))
   have h2 := isD_iff.1 (h (l.getLast hne) (List.mem_append_right _ (List.mem_singleton.2 rfl)))
   rw [dv_snoc, Nat.pow_succ]
   omega
theorem dv_lt (l : List UInt8) (h : ∀ b ∈ l, isD b = true) : dv l < 10 ^ l.length := dv_lt_k _ l rfl h
theorem dv_lt_of {l : List UInt8} {k : Nat} (h : ∀ b ∈ l, isD b = true) (hk : l.length ≤ k) : dv l < 10 ^ k :=
 Nat.lt_of_lt_of_le (dv_lt l h) (Nat.pow_le_pow_right (by decide) hk)
def pT (s : ByteArray) : List UInt8 := if s.data.toList.head? = some 45 then s.data.toList.tail else s.data.toList
def pS (s : ByteArray) : Int := if s.data.toList.head? = some 45 then -1 else 1
def pV (s : ByteArray) : Int := pS s * (dv (pT s) : Int)
def pI (s : ByteArray) : Int × Bool := if 1 ≤ (pT s).length ∧ (pT s).length ≤ 9 ∧ (pT s).all isD = true ∧ sI (pV s) = s then (pV s, true) else (0, false)
theorem sI_form {s : ByteArray} {n : Int} (h : sI n = s) : pT s = Lib.decDigits n.natAbs ∧ (n < 0 → s.data.toList.head? = some 45) ∧ (0 ≤ n → s.data.toList.head? ≠ some 45) := by
 have e := sI_list n
 rw [h, Lib.itoa] at e
 by_cases h0 : n < 0
 ·rw [if_pos h0] at e
  have hh : s.data.toList.head? = some 45 := by rw [e]; rfl
  refine ⟨?_, fun _ => hh, fun h1 => by omega⟩
  rw [pT, if_pos hh, e]
  show Lib.decDigits _ = _
  congr 1
 ·rw [if_neg h0] at e
  have hh : s.data.toList.head? ≠ some 45 := by
   rw [e]
   intro hc
   have hm := dec_isD n.toNat 45 (List.mem_of_mem_head? (by rw [hc]; rfl))
   rw [isD_iff] at hm
   exact absurd hm.1 (by decide)
  refine ⟨?_, fun h1 => absurd h1 h0, fun _ => hh⟩
  rw [pT, if_neg hh, e]
  congr 1
  omega
theorem filter_pT {s : ByteArray} (h : (pT s).all isD = true) : s.data.toList.filter isD = pT s := by
 unfold pT at h ⊢
 split at h
 ·rename_i hh
  rw [if_pos hh]
  cases e : s.data.toList with
  | nil => rfl
  | cons b r =>
    rw [e] at hh h
    have : b = 45 := by simpa using hh
    subst this
    rw [List.filter_cons_of_neg (by decide)]
    show _ = r
    exact List.filter_eq_self.2 (fun x hx => List.all_eq_true.1 h x hx)
 ·rename_i hh
  rw [if_neg hh]
  exact List.filter_eq_self.2 (fun x hx => List.all_eq_true.1 h x hx)
theorem pT_len (s : ByteArray) : (pT s).length ≤ s.size ∧ s.size ≤ (pT s).length + 1 := by
 have e : s.data.toList.length = s.size := rfl
 unfold pT
 split
 ·rw [List.length_tail]; omega
 ·omega
theorem pI_spec (s : ByteArray) : (if (s.data.toList.filter isD).length ≤ 9 ∧ s.size ≤ 10 ∧ sI (pS s * (dv (s.data.toList.filter isD) : Int)) = s then (pS s * (dv (s.data.toList.filter isD) : Int), true) else (0, false)) = pI s := by
 unfold pI
 by_cases h : (s.data.toList.filter isD).length ≤ 9 ∧ s.size ≤ 10 ∧ sI (pS s * (dv (s.data.toList.filter isD) : Int)) = s
 ·rw [if_pos h]
  obtain ⟨h1, h2, h3⟩ := h
  obtain ⟨f1, _, _⟩ := sI_form h3
  have ha : (pT s).all isD = true := List.all_eq_true.2 (fun b hb => dec_isD _ b (by rw [← f1]; exact hb))
  have hf := filter_pT ha
  have hl : 1 ≤ (pT s).length := by
   rw [f1, Lib.decDigits_length]
   exact Lib.nDigits_pos _
  rw [hf] at h1 h3 ⊢
  rw [if_pos ⟨hl, h1, ha, h3⟩]
  rfl
 ·rw [if_neg h]
  by_cases h' : 1 ≤ (pT s).length ∧ (pT s).length ≤ 9 ∧ (pT s).all isD = true ∧ sI (pV s) = s
  ·exfalso
   obtain ⟨g1, g2, g3, g4⟩ := h'
   have hf := filter_pT g3
   have := pT_len s
   refine h ⟨by rw [hf]; exact g2, by omega, ?_⟩
   rw [hf]
   exact g4
  ·rw [if_neg h']
theorem below_grown {w : World} {q : Nat} {os : Array Obj} : Below w.heap.size w (Go.Sort.grow (w.drewN q) os) :=
 ⟨rfl, rfl, rfl, by simp [Go.Sort.grow], fun i hi => by
  show ((w.drewN q).heap ++ os)[i]? = _
  rw [Array.getElem?_append_left (by show i < w.heap.size; omega)]
  rfl⟩
--import Derived.Shelf.Strconv.Itoa3
theorem w_strconv_ItoaG (n : Int) (h0 : -9223372036854775808 ≤ n) (h1 : n ≤ 9223372036854775807) : Fn Pr n_strconv_Itoa [.int .i64 (fun _ => n)] (.str (fun _ => sI n)) := by
 refine ⟨cl_strconv_Itoa, fun w vs F htb hsz hargs => ?_⟩
 have ha := hargs 0 _ rfl
 have hsz1 : vs.size = 1 := hsz
 have hvs : vs = #[.int .i64 n] := by
  apply Array.ext_getElem?
  intro i
  cases i with
  | zero =>
    rw [Array.getD_eq_getD_getElem?, Array.getElem?_eq_getElem (by omega)] at ha
    rw [Array.getElem?_eq_getElem (by omega)]
    generalize vs[0] = v at ha
    generalize F 0 = f1 at ha
    cases ha
    rfl
  | succ i => rw [Array.getElem?_eq_none (by omega), Array.getElem?_eq_none (by simp)]
 rw [hvs]
 refine (Go.Proofs.Any.strconv_Itoa layItoa n h0 h1 w (htb.1 _ tab_here)).mono ?_
 rintro e w' ⟨rfl, k, os, rfl⟩
 exact ⟨_, [], rfl, .str _, List.nodup_nil, fun g hg => (by cases hg), below_grown⟩
--import Derived.Shelf.Strings.Split
theorem w_strings_Split (s sep : ByteArray) (hs : s.size < 4294967281) (h1 : 1 ≤ sep.size) : Fn Pr n_strings_Split [.str (fun _ => s), .str (fun _ => sep)] (.sl 1 encS (fun _ => Lib.splitB sep 0 (Lib.countB s sep) s)) := by
 refine ⟨cl_strings_Split, fun w vs F htb hsz hargs => ?_⟩
 have ha := hargs 0 _ rfl
 have hb := hargs 1 _ rfl
 have hsz2 : vs.size = 2 := hsz
 have hs0 : vs.getD 0 Go.undef = .string s := by
  generalize vs.getD 0 Go.undef = v at ha
  generalize F 0 = f1 at ha
  cases ha
  rfl
 have hs1 : vs.getD 1 Go.undef = .string sep := by
  generalize vs.getD 1 Go.undef = v at hb
  generalize F 1 = f1 at hb
  cases hb
  rfl
 have hvs : vs = #[.string s, .string sep] := by
  rw [← hs0, ← hs1]
  apply Array.ext_getElem?
  intro i
  cases i with
  | zero => rw [Array.getD_eq_getD_getElem?, Array.getElem?_eq_getElem (by omega)]; rfl
  | succ i =>
    cases i with
    | zero => rw [Array.getD_eq_getD_getElem? (i := 1), Array.getElem?_eq_getElem (by omega)]; rfl
    | succ i => rw [Array.getElem?_eq_none (by omega), Array.getElem?_eq_none (by simp)]
 rw [hvs]
 obtain ⟨m, hm⟩ := htb.2 _ len_here
 refine (Go.Proofs.Any.strings_Split laySplit (by kernel_rfl) s sep m w hs hm h1).mono ?_
 have hlen := Lib.splitB_all sep h1 0 _ s rfl
 generalize Lib.splitB sep 0 (Lib.countB s sep) s = l at hlen
 rw [← hlen]
 rintro e w' ⟨rfl, rfl⟩
 generalize laySplitRen.t 9 = ty
 have hg : (w.alloc (.cells (l.map Value.string).toArray ty)).heap[w.heap.size]? = some (.cells (l.map Value.string).toArray ty (0, 0)) := Array.getElem?_push_size
 have hd : Deep (w.alloc (.cells (l.map Value.string).toArray ty)) (.sl 1 encS (fun _ => l)) (.slice (some ⟨w.heap.size, 0, none⟩) l.length l.length) (w.heap.size :: (List.range l.length).flatMap fun i => (List.range 1).flatMap (fun _ => [])) := by
  refine Deep.sl (xs := fun _ => l) (fun i _ => .string (l.getD i ByteArray.empty)) (fun _ _ => []) (Nat.le_refl _) hg (by simp) (fun i x hx j hj => ?_) (fun i x hx j hj => ?_)
  ·have hx : l[i]? = some x := hx
   have : j = 0 := by omega
   subst this
   simp [hx]
  ·have hx : l[i]? = some x := hx
   have e : l.getD i ByteArray.empty = x := by simp [hx]
   show Deep _ (.str (fun _ => x)) (.string (l.getD i ByteArray.empty)) []
   rw [e]
   exact .str _
 have hfp : (w.heap.size :: (List.range l.length).flatMap fun i => (List.range 1).flatMap (fun _ => ([] : List Nat))) = [w.heap.size] := by
  congr 1
  exact List.flatMap_eq_nil_iff.2 (fun i _ => rfl)
 rw [hfp] at hd
 refine ⟨_, _, rfl, hd, by simp, fun g hgm => ?_, Below.alloc (Below.refl _ _) (Nat.le_refl _) _⟩
 rw [List.mem_singleton] at hgm
 subst hgm
 exact ⟨Nat.le_refl _, _, _, hg⟩
theorem w_impl_FormatIntG (n : Int) (h0 : -9223372036854775808 ≤ n) (h1 : n ≤ 9223372036854775807) : Fn Pr n_impl_FormatInt [.int .i64 (fun _ => n)] (.str (fun _ => sI n)) := by
 refine k_impl_FormatInt.fn (by kernel_rfl) ?_
 conv=>arg 4;cbv
 repeat' first
  | (refine Sat.cmp (fun h => ?_) (fun h => ?_) <;> simp only [Cmp.holds] at h <;> (conv=>arg 4;cbv))
  | (refine Sat.call (w_strconv_ItoaG n h0 h1) rfl ledA ?_; conv=>arg 4;cbv)
  | (refine Sat.need ndA ?_; conv=>arg 4;cbv)
  | (refine Sat.idxk (by assumption) ?_; conv=>arg 4;cbv) | (refine Sat.idx ndA (fun v_ hv_ => ?_); conv=>arg 4;cbv)
  | (refine Sat.ari64 ndA ndA ?_; conv=>arg 4;cbv)
  | (refine Sat.pop ?_; conv=>arg 4;cbv)
  | refine Sat.done ?_
 all_goals exact .same _
theorem dig_step {u m : Nat} {s : ByteArray} {x : Int} (hm0 : m ≠ 0) (hs1 : m ≠ 0 → Lib.decDigits m ++ s.data.toList = Lib.decDigits u) (hx : x = ((m % 10 : Nat) : Int)) :
 (m / 10 ≠ 0 → Lib.decDigits (m / 10) ++ (strOfNums [48 + x] ++ s).data.toList = Lib.decDigits u) ∧ (m / 10 = 0 → (strOfNums [48 + x] ++ s).data.toList = Lib.decDigits u) := by
 have e : (strOfNums [48 + x] ++ s).data.toList = UInt8.ofNat (48 + m % 10) :: s.data.toList := by
  rw [hx, strOf_one]
  have : (48 + ((m % 10 : Nat) : Int)).toNat = 48 + m % 10 := by omega
  rw [this]
  simp
 rw [e]
 refine ⟨fun h2 => ?_, fun h2 => ?_⟩
 ·rw [← hs1 hm0, decDig_big (u := m) (by omega)]
  simp
 ·have hm10 : m < 10 := by omega
  rw [← hs1 hm0, Lib.decDigits_one hm10, Nat.mod_eq_of_lt hm10]
  simp
theorem sI_neg {n : Int} (h : n < 0) : (sI n).data.toList = 45 :: Lib.decDigits n.natAbs := by
 rw [sI_list, Lib.itoa, if_pos h]
theorem tmod_neg10 {x : Int} (h : x ≤ 0) : Int.tmod x 10 = -((x.natAbs % 10 : Nat) : Int) := by
 obtain ⟨m, rfl⟩ : ∃ m : Nat, x = -(m : Int) := ⟨x.natAbs, by omega⟩
 rw [Int.neg_tmod, Int.natAbs_neg]; rfl
theorem tdiv_neg10 {x : Int} (h : x ≤ 0) : Int.tdiv x 10 = -((x.natAbs / 10 : Nat) : Int) := by
 obtain ⟨m, rfl⟩ : ∃ m : Nat, x = -(m : Int) := ⟨x.natAbs, by omega⟩
 rw [Int.neg_tdiv, Int.natAbs_neg]; rfl
theorem w_spec_FormatIntN (n : Int) (h0 : n < 0) (h1 : -9223372036854775807 ≤ n) : Fn Pr n_spec_FormatInt [.int .i64 (fun _ => n)] (.str (fun _ => sI n)) := by
 refine k_spec_FormatInt.fn (by kernel_rfl) ?_
 conv=>arg 4;cbv
 refine Sat.cmp (fun h => ?_) (fun h => ?_) <;> simp only [Cmp.holds] at h <;> (conv=>arg 4;cbv)
 ·exfalso; omega
 refine Sat.cmp (fun h => ?_) (fun h => ?_) <;> simp only [Cmp.holds] at h
 rotate_left
 ·exfalso; omega
 conv=>arg 4;cbv
 refine Sat.loopP (ι := Int × ByteArray) (fun i => [(0, .int .i64 (fun _ => i.1)), (3, .str (fun _ => i.2))]) (fun i => []) (fun i => n ≤ i.1 ∧ i.1 ≤ 0 ∧ (i.1.natAbs ≠ 0 → Lib.decDigits i.1.natAbs ++ i.2.data.toList = Lib.decDigits n.natAbs) ∧ (i.1.natAbs = 0 → i.2.data.toList = Lib.decDigits n.natAbs)) (fun i => i.1.natAbs) (n, ⟨#[]⟩) ?_ ⟨Int.le_refl _, by simp only; omega, fun _ => by simp, fun h => by exfalso; simp only at h; omega⟩ (fun i hi => ?_)
 ·exact lesA
 obtain ⟨x, s⟩ := i
 obtain ⟨hm, hx0, hs1, hs2⟩ := hi
 simp only at hm hx0 hs1 hs2
 have hd := tmod_neg10 hx0
 have hq := tdiv_neg10 hx0
 obtain ⟨m, hmx⟩ : ∃ m : Nat, m = x.natAbs := ⟨_, rfl⟩
 rw [← hmx] at hs1 hs2 hd hq
 have hlen : s.size + 2 ≤ 9223372036854775807 := by
  have e2 := nDig_le n.natAbs
  by_cases hm0 : m = 0
  ·have e := congrArg List.length (hs2 hm0)
   rw [Lib.decDigits_length] at e
   have e4 : s.data.toList.length = s.size := rfl
   omega
  ·have e := congrArg List.length (hs1 hm0)
   have e3 := Lib.nDigits_pos m
   rw [List.length_append, Lib.decDigits_length, Lib.decDigits_length] at e
   have e4 : s.data.toList.length = s.size := rfl
   omega
 conv=>arg 4;cbv
 refine Sat.cmp (fun h => ?_) (fun h => ?_) <;> simp only [Cmp.holds] at h <;> (conv=>arg 4;cbv)
 ·refine Sat.pop ?_
  conv=>arg 4;cbv
  refine Sat.need (by
   show (⟨#[45]⟩ : ByteArray).size + s.size ≤ _
   have : (⟨#[45]⟩ : ByteArray).size = 1 := rfl
   omega) ?_
  conv=>arg 4;cbv
  refine Sat.done (.str ?_)
  refine bytes_ext ?_
  rw [sI_neg h0, ← hs2 (by (try dsimp only); (try simp only [ncast] at *); omega)]
  simp
 have hm0 : m ≠ 0 := by (try dsimp only); (try simp only [ncast] at *); omega
 refine Sat.need (by decide) ?_
 conv=>arg 4;cbv
 refine Sat.cmp (fun h => ?_) (fun h => ?_) <;> simp only [Cmp.holds] at h <;> (conv=>arg 4;cbv)
 ·refine Sat.ari64 (by (try dsimp only); (try simp only [ncast] at *); omega) (by (try dsimp only); (try simp only [ncast] at *); omega) ?_
  conv=>arg 4;cbv
  refine Sat.ari64 (by (try dsimp only); (try simp only [ncast] at *); omega) (by (try dsimp only); (try simp only [ncast] at *); omega) ?_
  conv=>arg 4;cbv
  refine Sat.ari8 (by (try dsimp only); (try simp only [ncast] at *); omega) (by (try dsimp only); (try simp only [ncast] at *); omega) ?_
  conv=>arg 4;cbv
  refine Sat.same ?_
  conv=>arg 4;cbv
  refine Sat.need (by
   show (strOfNums [48 + (0 - Int.tmod x 10)]).size + s.size ≤ _
   rw [strOfNums_size]
   simp only [List.length_cons, List.length_nil]
   omega) ?_
  conv=>arg 4;cbv
  refine Sat.need (by decide) ?_
  conv=>arg 4;cbv
  refine Sat.ari64 (by (try dsimp only); (try simp only [ncast] at *); omega) (by (try dsimp only); (try simp only [ncast] at *); omega) ?_
  conv=>arg 4;cbv
  refine Sat.next (Int.tdiv x 10, strOfNums [48 + (0 - Int.tmod x 10)] ++ s) ?_ ?_ (by (try dsimp only); (try simp only [ncast] at *); omega)
  ·exact lesA
  ·have := dig_step (x := 0 - Int.tmod x 10) hm0 hs1 (by omega)
   have e5 : (Int.tdiv x 10).natAbs = m / 10 := by omega
   exact ⟨by (try dsimp only); omega, by (try dsimp only); omega, by (try dsimp only); rw [e5]; exact this.1, by (try dsimp only); rw [e5]; exact this.2⟩
 ·refine Sat.ari64 (by (try dsimp only); (try simp only [ncast] at *); omega) (by (try dsimp only); (try simp only [ncast] at *); omega) ?_
  conv=>arg 4;cbv
  refine Sat.ari8 (by (try dsimp only); (try simp only [ncast] at *); omega) (by (try dsimp only); (try simp only [ncast] at *); omega) ?_
  conv=>arg 4;cbv
  refine Sat.same ?_
  conv=>arg 4;cbv
  refine Sat.need (by
   show (strOfNums [48 + Int.tmod x 10]).size + s.size ≤ _
   rw [strOfNums_size]
   simp only [List.length_cons, List.length_nil]
   omega) ?_
  conv=>arg 4;cbv
  refine Sat.need (by decide) ?_
  conv=>arg 4;cbv
  refine Sat.ari64 (by (try dsimp only); (try simp only [ncast] at *); omega) (by (try dsimp only); (try simp only [ncast] at *); omega) ?_
  conv=>arg 4;cbv
  refine Sat.next (Int.tdiv x 10, strOfNums [48 + Int.tmod x 10] ++ s) ?_ ?_ (by (try dsimp only); (try simp only [ncast] at *); omega)
  ·exact lesA
  ·have := dig_step (x := Int.tmod x 10) hm0 hs1 (by (try dsimp only); (try simp only [ncast] at *); omega)
   have e5 : (Int.tdiv x 10).natAbs = m / 10 := by omega
   exact ⟨by (try dsimp only); omega, by (try dsimp only); omega, by (try dsimp only); rw [e5]; exact this.1, by (try dsimp only); rw [e5]; exact this.2⟩
theorem w_spec_FormatIntG (n : Int) (h0 : -9223372036854775807 ≤ n) (h1 : n ≤ 9223372036854775807) : Fn Pr n_spec_FormatInt [.int .i64 (fun _ => n)] (.str (fun _ => sI n)) := by
 by_cases h : n < 0
 ·exact w_spec_FormatIntN n h h0
 ·exact w_spec_FormatInt n (by omega) h1
theorem byte_at {s : ByteArray} {i : Nat} (h : i < s.size) : s.data.toList[i]? = some (s.get! i) := by
 have h' : i < s.data.size := h
 show s.data.toList[i]? = some (s.data[i]!)
 rw [Array.getElem?_toList, Array.getElem?_eq_getElem h', getElem!_pos s.data i h']
theorem head_at {s : ByteArray} (h : 0 < s.size) : s.data.toList.head? = some (s.get! 0) := by
 rw [← byte_at h, List.head?_eq_getElem?]
theorem head_none {s : ByteArray} (h : s.size = 0) : s.data.toList.head? = none := by
 have : s.data.toList = [] := List.eq_nil_of_length_eq_zero h
 rw [this]; rfl
theorem take_snoc {l : List UInt8} {i : Nat} {b : UInt8} (h : l[i]? = some b) : l.take (i + 1) = l.take i ++ [b] := by rw [List.take_add_one, h]; rfl
theorem byte_45 {b : UInt8} (h : (b.toNat : Int) = 45) : b = 45 := by
 apply UInt8.toNat_inj.1
 show b.toNat = 45
 omega
theorem byte_n45 {b : UInt8} (h : ¬ (b.toNat : Int) = 45) : b ≠ 45 := fun e => h (by rw [e]; rfl)
theorem pI_no {s : ByteArray} (h : ¬ (1 ≤ (pT s).length ∧ (pT s).length ≤ 9 ∧ (pT s).all isD = true ∧ sI (pV s) = s)) : pI s = (0, false) := if_neg h
theorem pI_yes {s : ByteArray} (h : 1 ≤ (pT s).length ∧ (pT s).length ≤ 9 ∧ (pT s).all isD = true ∧ sI (pV s) = s) : pI s = (pV s, true) := if_pos h
theorem pI_low {s : ByteArray} {i : Nat} {b : UInt8} (h : (pT s)[i]? = some b) (hb : b.toNat < 48 ∨ 57 < b.toNat) : pI s = (0, false) := pI_no (fun ⟨_, _, ha, _⟩ => by
 have := isD_iff.1 (List.all_eq_true.1 ha b (List.mem_of_getElem? h))
 omega)
theorem extract_tl (s : ByteArray) : (s.extract 1 s.size).data.toList = s.data.toList.tail := by
 have h : (s.extract 1 s.size).data.toList = s.data.toList.drop 1 := by
  rw [ByteArray.data_extract, Array.toList_extract, List.extract_eq_take_drop]
  exact List.take_of_length_le (by rw [List.length_drop]; show s.data.toList.length - 1 ≤ s.size - 1; exact Nat.le_refl _)
 rw [h, List.drop_one]
theorem w_impl_ParseInt (s : ByteArray) (hs : s.size ≤ 4294967280) : Fn Pr n_impl_ParseInt [.str (fun _ => s)] (.tup [.int .i64 (fun _ => (pI s).1), .bo (pI s).2]) := by
 refine k_impl_ParseInt.fn (by kernel_rfl) ?_
 have led_no : pI s = (0, false) → LeD (.tup [.int .i64 (fun _ => 0), .bo false]) (.tup [.int .i64 (fun _ => (pI s).1), .bo (pI s).2]) := fun e => by rw [e]; exact .same _
 conv=>arg 4;cbv
 refine Sat.cmp (fun h => ?_) (fun h => ?_) <;> simp only [Cmp.holds] at h
 rotate_left
 ·have h0 : s.size = 0 := by exact arA
  conv=>arg 4;cbv
  refine Sat.callb (w_impl_within (s.size : Int) 1 9) rfl ledA (fun hA => ?_) (fun hA => ?_)
  ·exfalso
   have := of_decide_eq_true hA
   exact arA
  ·conv=>arg 4;cbv
   refine Sat.done (led_no (pI_no (fun ⟨h1, _⟩ => ?_)))
   have := (pT_len s).1
   omega
 have hs0 : 0 < s.size := by exact arA
 have hhd := head_at hs0
 conv=>arg 4;cbv
 refine Sat.need (by (try dsimp only); exact arA) ?_
 conv=>arg 4;cbv
 refine Sat.cmp (fun h => ?_) (fun h => ?_) <;> simp only [Cmp.holds] at h
 ·have h45 : s.get! 0 = 45 := byte_45 h
  have hh : s.data.toList.head? = some 45 := by rw [hhd, h45]
  have hT : (s.extract (Int.toNat 1) s.size).data.toList = pT s := by
   show (s.extract 1 s.size).data.toList = _
   rw [extract_tl, pT, if_pos hh]
  have hS : pS s = -1 := if_pos hh
  have hTl : (s.extract (Int.toNat 1) s.size).size = (pT s).length := by rw [← hT]; rfl
  conv=>arg 4;cbv
  refine Sat.need (by (try dsimp only); exact arA) ?_
  conv=>arg 4;cbv
  refine Sat.callb (w_impl_within ((s.extract (Int.toNat 1) s.size).size : Int) 1 9) rfl ledA (fun hA => ?_) (fun hA => ?_)
  rotate_left
  ·conv=>arg 4;cbv
   refine Sat.done (led_no (pI_no (fun ⟨h1, h2, _⟩ => ?_)))
   have := of_decide_eq_false hA
   exact arA
  have hA := of_decide_eq_true hA
  have hA1 : 1 ≤ (pT s).length ∧ (pT s).length ≤ 9 := by exact arA
  conv=>arg 4;cbv
  refine Sat.loopP (ι := Nat) (fun i => [(6, .int .i64 (fun _ => (dv ((pT s).take i) : Int))), (25, .int .i64 (fun _ => (i : Int)))]) (fun i => []) (fun i => i ≤ (pT s).length ∧ ∀ b ∈ (pT s).take i, isD b = true) (fun i => (pT s).length - i) 0 ?_ ⟨Nat.zero_le _, fun b hb => by simp at hb⟩ (fun i hi => ?_)
  ·refine les_of ?_ ?_ rfl
   iterate 2 (focus repeat' (first | exact trivial | refine And.intro ?_ ?_ | exact levA | refine lev_cons ?_ ?_ | refine LeV.agg rfl ?_ | exact Nat.le_of_ble_eq_true rfl | exact Or.inl ⟨_, rfl, .row rfl⟩ | refine Or.inl ⟨_, rfl, .row ?_⟩ | refine Or.inl ⟨_, rfl, .lit rfl ?_⟩ | exact Or.inr ⟨rfl, rfl⟩ | (exact .int (by simp [dv]))))
  obtain ⟨hi, hD⟩ := hi
  have hdv := dv_lt_of (k := 9) hD (by rw [List.length_take]; omega)
  conv=>arg 4;cbv
  refine Sat.cmp (fun h5 => ?_) (fun h5 => ?_) <;> simp only [Cmp.holds] at h5
  ·have hi2 : i < (s.extract (Int.toNat 1) s.size).size := by exact arA
   have hb : (pT s)[i]? = some ((s.extract (Int.toNat 1) s.size).get! (Int.toNat (i : Int))) := by rw [← hT]; exact byte_at hi2
   have h256 : ((s.extract (Int.toNat 1) s.size).get! (Int.toNat (i : Int))).toNat < 256 := UInt8.toNat_lt _
   conv=>arg 4;cbv
   refine Sat.need (by (try dsimp only); exact arA) ?_
   conv=>arg 4;cbv
   refine Sat.cmp (fun h6 => ?_) (fun h6 => ?_) <;> simp only [Cmp.holds] at h6
   ·conv=>arg 4;cbv
    refine Sat.pop ?_
    conv=>arg 4;cbv
    refine Sat.done (led_no (pI_low hb (.inl ?_)))
    exact arA
   conv=>arg 4;cbv
   refine Sat.need (by (try dsimp only); exact arA) ?_
   conv=>arg 4;cbv
   refine Sat.cmp (fun h7 => ?_) (fun h7 => ?_) <;> simp only [Cmp.holds] at h7
   ·conv=>arg 4;cbv
    refine Sat.pop ?_
    conv=>arg 4;cbv
    refine Sat.done (led_no (pI_low hb (.inr ?_)))
    exact arA
   have htk := take_snoc hb
   have hdg : isD ((s.extract (Int.toNat 1) s.size).get! (Int.toNat (i : Int))) = true := isD_iff.2 (by exact arA)
   have hdn : dv ((pT s).take (i + 1)) = 10 * dv ((pT s).take i) + (((s.extract (Int.toNat 1) s.size).get! (Int.toNat (i : Int))).toNat - 48) := by rw [htk, dv_snoc]
   conv=>arg 4;cbv
   refine Sat.ari64 (by (try dsimp only); exact arA) (by (try dsimp only); exact arA) ?_
   conv=>arg 4;cbv
   refine Sat.need (by (try dsimp only); exact arA) ?_
   conv=>arg 4;cbv
   refine Sat.ari8 (by (try dsimp only); exact arA) (by (try dsimp only); exact arA) ?_
   conv=>arg 4;cbv
   refine Sat.ari64 (by (try dsimp only); exact arA) (by (try dsimp only); exact arA) ?_
   conv=>arg 4;cbv
   refine Sat.ari64 (by (try dsimp only); exact arA) (by (try dsimp only); exact arA) ?_
   conv=>arg 4;cbv
   refine Sat.ari64 (by (try dsimp only); exact arA) (by (try dsimp only); exact arA) ?_
   conv=>arg 4;cbv
   refine Sat.next (i + 1) ?_ ?_ (by (try dsimp only); exact arA)
   ·refine les_of ?_ ?_ rfl
    iterate 2 (focus repeat' (first | exact trivial | refine And.intro ?_ ?_ | exact levA | refine lev_cons ?_ ?_ | refine LeV.agg rfl ?_ | exact Nat.le_of_ble_eq_true rfl | exact Or.inl ⟨_, rfl, .row rfl⟩ | refine Or.inl ⟨_, rfl, .row ?_⟩ | refine Or.inl ⟨_, rfl, .lit rfl ?_⟩ | exact Or.inr ⟨rfl, rfl⟩ | (exact .int (by exact arA))))
   ·refine ⟨by exact arA, fun b hbm => ?_⟩
    rw [htk, List.mem_append, List.mem_singleton] at hbm
    rcases hbm with hbm | rfl
    ·exact hD b hbm
    ·exact hdg
  ·have hie : i = (pT s).length := by exact arA
   rw [hie, List.take_length] at hD hdv
   have hall : (pT s).all isD = true := List.all_eq_true.2 hD
   have hV : pV s = (-1) * (dv (pT s) : Int) := by rw [pV, hS]
   conv=>arg 4;cbv
   refine Sat.pop ?_
   conv=>arg 4;cbv
   rw [hie, List.take_length]
   refine Sat.ari64 (by (try dsimp only); exact arA) (by (try dsimp only); exact arA) ?_
   conv=>arg 4;cbv
   refine Sat.call (w_impl_FormatIntG ((-1) * (dv (pT s) : Int)) (by omega) (by omega)) rfl ledA ?_
   conv=>arg 4;cbv
   refine Sat.test (fun h8 => ?_) (fun h8 => ?_)
   ·conv=>arg 4;cbv
    have h8 := of_decide_eq_true h8
    refine Sat.ari64 (by (try dsimp only); exact arA) (by (try dsimp only); exact arA) ?_
    conv=>arg 4;cbv
    refine Sat.done ?_
    rw [pI_yes ⟨by omega, by omega, hall, by rw [hV]; exact h8⟩, hV]
    exact .same _
   ·conv=>arg 4;cbv
    have h8 := of_decide_eq_false h8
    refine Sat.done (led_no (pI_no (fun ⟨_, _, _, h4⟩ => h8 ?_)))
    rw [hV] at h4
    exact h4
 ·have h45 : s.get! 0 ≠ 45 := byte_n45 h
  have hh : ¬ s.data.toList.head? = some 45 := by rw [hhd]; intro e; exact h45 (Option.some.inj e)
  have hT : s.data.toList = pT s := by rw [pT, if_neg hh]
  have hS : pS s = 1 := if_neg hh
  have hTl : (s).size = (pT s).length := by rw [← hT]; rfl
  conv=>arg 4;cbv
  refine Sat.callb (w_impl_within ((s).size : Int) 1 9) rfl ledA (fun hA => ?_) (fun hA => ?_)
  rotate_left
  ·conv=>arg 4;cbv
   refine Sat.done (led_no (pI_no (fun ⟨h1, h2, _⟩ => ?_)))
   have := of_decide_eq_false hA
   exact arA
  have hA := of_decide_eq_true hA
  have hA1 : 1 ≤ (pT s).length ∧ (pT s).length ≤ 9 := by exact arA
  conv=>arg 4;cbv
  refine Sat.loopP (ι := Nat) (fun i => [(6, .int .i64 (fun _ => (dv ((pT s).take i) : Int))), (25, .int .i64 (fun _ => (i : Int)))]) (fun i => []) (fun i => i ≤ (pT s).length ∧ ∀ b ∈ (pT s).take i, isD b = true) (fun i => (pT s).length - i) 0 ?_ ⟨Nat.zero_le _, fun b hb => by simp at hb⟩ (fun i hi => ?_)
  ·refine les_of ?_ ?_ rfl
   iterate 2 (focus repeat' (first | exact trivial | refine And.intro ?_ ?_ | exact levA | refine lev_cons ?_ ?_ | refine LeV.agg rfl ?_ | exact Nat.le_of_ble_eq_true rfl | exact Or.inl ⟨_, rfl, .row rfl⟩ | refine Or.inl ⟨_, rfl, .row ?_⟩ | refine Or.inl ⟨_, rfl, .lit rfl ?_⟩ | exact Or.inr ⟨rfl, rfl⟩ | (exact .int (by simp [dv]))))
  obtain ⟨hi, hD⟩ := hi
  have hdv := dv_lt_of (k := 9) hD (by rw [List.length_take]; omega)
  conv=>arg 4;cbv
  refine Sat.cmp (fun h5 => ?_) (fun h5 => ?_) <;> simp only [Cmp.holds] at h5
  ·have hi2 : i < (s).size := by exact arA
   have hb : (pT s)[i]? = some ((s).get! (Int.toNat (i : Int))) := by rw [← hT]; exact byte_at hi2
   have h256 : ((s).get! (Int.toNat (i : Int))).toNat < 256 := UInt8.toNat_lt _
   conv=>arg 4;cbv
   refine Sat.need (by (try dsimp only); exact arA) ?_
   conv=>arg 4;cbv
   refine Sat.cmp (fun h6 => ?_) (fun h6 => ?_) <;> simp only [Cmp.holds] at h6
   ·conv=>arg 4;cbv
    refine Sat.pop ?_
    conv=>arg 4;cbv
    refine Sat.done (led_no (pI_low hb (.inl ?_)))
    exact arA
   conv=>arg 4;cbv
   refine Sat.need (by (try dsimp only); exact arA) ?_
   conv=>arg 4;cbv
   refine Sat.cmp (fun h7 => ?_) (fun h7 => ?_) <;> simp only [Cmp.holds] at h7
   ·conv=>arg 4;cbv
    refine Sat.pop ?_
    conv=>arg 4;cbv
    refine Sat.done (led_no (pI_low hb (.inr ?_)))
    exact arA
   have htk := take_snoc hb
   have hdg : isD ((s).get! (Int.toNat (i : Int))) = true := isD_iff.2 (by exact arA)
   have hdn : dv ((pT s).take (i + 1)) = 10 * dv ((pT s).take i) + (((s).get! (Int.toNat (i : Int))).toNat - 48) := by rw [htk, dv_snoc]
   conv=>arg 4;cbv
   refine Sat.ari64 (by (try dsimp only); exact arA) (by (try dsimp only); exact arA) ?_
   conv=>arg 4;cbv
   refine Sat.need (by (try dsimp only); exact arA) ?_
   conv=>arg 4;cbv
   refine Sat.ari8 (by (try dsimp only); exact arA) (by (try dsimp only); exact arA) ?_
   conv=>arg 4;cbv
   refine Sat.ari64 (by (try dsimp only); exact arA) (by (try dsimp only); exact arA) ?_
   conv=>arg 4;cbv
   refine Sat.ari64 (by (try dsimp only); exact arA) (by (try dsimp only); exact arA) ?_
   conv=>arg 4;cbv
   refine Sat.ari64 (by (try dsimp only); exact arA) (by (try dsimp only); exact arA) ?_
   conv=>arg 4;cbv
   refine Sat.next (i + 1) ?_ ?_ (by (try dsimp only); exact arA)
   ·refine les_of ?_ ?_ rfl
    iterate 2 (focus repeat' (first | exact trivial | refine And.intro ?_ ?_ | exact levA | refine lev_cons ?_ ?_ | refine LeV.agg rfl ?_ | exact Nat.le_of_ble_eq_true rfl | exact Or.inl ⟨_, rfl, .row rfl⟩ | refine Or.inl ⟨_, rfl, .row ?_⟩ | refine Or.inl ⟨_, rfl, .lit rfl ?_⟩ | exact Or.inr ⟨rfl, rfl⟩ | (exact .int (by exact arA))))
   ·refine ⟨by exact arA, fun b hbm => ?_⟩
    rw [htk, List.mem_append, List.mem_singleton] at hbm
    rcases hbm with hbm | rfl
    ·exact hD b hbm
    ·exact hdg
  ·have hie : i = (pT s).length := by exact arA
   rw [hie, List.take_length] at hD hdv
   have hall : (pT s).all isD = true := List.all_eq_true.2 hD
   have hV : pV s = 1 * (dv (pT s) : Int) := by rw [pV, hS]
   conv=>arg 4;cbv
   refine Sat.pop ?_
   conv=>arg 4;cbv
   rw [hie, List.take_length]
   refine Sat.ari64 (by (try dsimp only); exact arA) (by (try dsimp only); exact arA) ?_
   conv=>arg 4;cbv
   refine Sat.call (w_impl_FormatIntG (1 * (dv (pT s) : Int)) (by omega) (by omega)) rfl ledA ?_
   conv=>arg 4;cbv
   refine Sat.test (fun h8 => ?_) (fun h8 => ?_)
   ·conv=>arg 4;cbv
    have h8 := of_decide_eq_true h8
    refine Sat.ari64 (by (try dsimp only); exact arA) (by (try dsimp only); exact arA) ?_
    conv=>arg 4;cbv
    refine Sat.done ?_
    rw [pI_yes ⟨by omega, by omega, hall, by rw [hV]; exact h8⟩, hV]
    exact .same _
   ·conv=>arg 4;cbv
    have h8 := of_decide_eq_false h8
    refine Sat.done (led_no (pI_no (fun ⟨_, _, _, h4⟩ => h8 ?_)))
    rw [hV] at h4
    exact h4
--import Derived.Lib.SplitLaws
def pcs (c : UInt8) : List UInt8 → List UInt8 → List (List UInt8)
 | acc, [] => [acc]
 | acc, b :: r => if b = c then acc :: pcs c [] r else pcs c (acc ++ [b]) r
theorem pcs_len (c : UInt8) : ∀ (l acc : List UInt8), (pcs c acc l).length ≤ l.length + 1 ∧ 1 ≤ (pcs c acc l).length
 | [], acc => by simp [pcs]
 | b :: r, acc => by
   rw [pcs]
   split
   ·have := pcs_len c r []
    simp only [List.length_cons]
    omega
   ·have := pcs_len c r (acc ++ [b])
    simp only [List.length_cons]
    omega
theorem pcs_size (c : UInt8) : ∀ (l acc p : List UInt8), p ∈ pcs c acc l → p.length ≤ acc.length + l.length
 | [], acc, p, h => by
   rw [pcs, List.mem_singleton] at h
   subst h
   simp
 | b :: r, acc, p, h => by
   rw [pcs] at h
   split at h
   ·rw [List.mem_cons] at h
    rcases h with rfl | h
    ·omega
    ·have := pcs_size c r [] p h
     simp only [List.length_cons, List.length_nil] at *
     omega
   ·have := pcs_size c r (acc ++ [b]) p h
    simp only [List.length_append, List.length_cons, List.length_nil] at *
    omega
theorem indexByte_acc (c : UInt8) (r : List UInt8) : ∀ acc : List UInt8, (∀ b ∈ acc, b ≠ c) → Lib.indexByte (acc ++ c :: r) c = acc.length
 | [], _ => by simp [Lib.indexByte]
 | b :: acc, h => by
   have h1 := indexByte_acc c r acc (fun x hx => h x (List.mem_cons_of_mem _ hx))
   have h2 : b ≠ c := h b (List.mem_cons_self ..)
   rw [List.cons_append, Lib.indexByte, h1]
   simp [h2]
theorem splitK_pcs (c : UInt8) : ∀ (l acc : List UInt8), (∀ b ∈ acc, b ≠ c) → Lib.splitK [c] 0 (l.count c) (acc ++ l) = pcs c acc l
 | [], acc, _ => by simp [Lib.splitK, pcs]
 | b :: r, acc, h => by
   rw [pcs]
   split
   ·rename_i e
    subst e
    have hi : Lib.index (acc ++ b :: r) [b] = acc.length := by rw [Lib.index_one, indexByte_acc b r acc h]
    rw [List.count_cons_self, Lib.splitK, hi, if_neg (by simp)]
    have e1 : ((acc.length : Nat) : Int).toNat = acc.length := by omega
    rw [e1, Nat.add_zero, List.take_left]
    have e2 : (acc ++ b :: r).drop (acc.length + [b].length) = r := by
     rw [← List.drop_drop, List.drop_left]
     rfl
    rw [e2]
    have := splitK_pcs b r [] (fun x hx => by cases hx)
    rw [List.nil_append] at this
    rw [this]
   ·rename_i e
    rw [List.count_cons_of_ne (by simpa using e)]
    have := splitK_pcs c r (acc ++ [b]) (fun x hx => by
     rw [List.mem_append, List.mem_singleton] at hx
     rcases hx with hx | rfl
     ·exact h x hx
     ·exact e)
    rw [← this]
    simp
def cutB (c : UInt8) (s : ByteArray) : List ByteArray := (pcs c [] s.data.toList).map (fun l => ⟨l.toArray⟩)
theorem cutB_data (c : UInt8) (s : ByteArray) : (cutB c s).map (fun x => x.data.toList) = pcs c [] s.data.toList := by
 rw [cutB, List.map_map]
 exact (List.map_congr_left (fun x _ => by simp)).trans (List.map_id _)
theorem data_inj : ∀ {a b : List ByteArray}, a.map (fun x => x.data.toList) = b.map (fun x => x.data.toList) → a = b
 | [], [], _ => rfl
 | [], b :: bs, h => by simp at h
 | a :: us, [], h => by simp at h
 | a :: us, b :: bs, h => by
   rw [List.map_cons, List.map_cons, List.cons.injEq] at h
   rw [bytes_ext h.1, data_inj h.2]
theorem split_cutB (c : UInt8) (s : ByteArray) : Lib.splitB ⟨#[c]⟩ 0 (Lib.countB s ⟨#[c]⟩) s = cutB c s := by
 refine data_inj ?_
 rw [cutB_data]
 have h := Lib.splitB_data ⟨#[c]⟩ 0 (Lib.countB s ⟨#[c]⟩) s
 rw [h]
 have e : Lib.countB s ⟨#[c]⟩ = s.data.toList.count c := Lib.count_one c _
 rw [e]
 have := splitK_pcs c s.data.toList [] (fun x hx => by cases hx)
 rw [List.nil_append] at this
 exact this
theorem cutB_len (c : UInt8) (s : ByteArray) : (cutB c s).length ≤ s.size + 1 ∧ 1 ≤ (cutB c s).length := by
 rw [cutB, List.length_map]
 exact pcs_len c s.data.toList []
theorem cutB_size {c : UInt8} {s x : ByteArray} (h : x ∈ cutB c s) : x.size ≤ s.size := by
 rw [cutB, List.mem_map] at h
 obtain ⟨p, hp, rfl⟩ := h
 have := pcs_size c _ _ p hp
 simp only [List.length_nil, Nat.zero_add] at this
 exact this
theorem ext_list (s : ByteArray) (a b : Nat) : (s.extract a b).data.toList = (s.data.toList.take b).drop a := by
 rw [ByteArray.data_extract, Array.toList_extract, List.extract_eq_take_drop, List.drop_take]
theorem get_drop {l : List UInt8} {i : Nat} {b : UInt8} (h : l[i]? = some b) : l.drop i = b :: l.drop (i + 1) := by
 obtain ⟨hi, rfl⟩ := List.getElem?_eq_some_iff.1 h
 exact List.drop_eq_getElem_cons hi
def CutAt (c : UInt8) (s : ByteArray) (i from_ : Nat) (out : List ByteArray) : Prop := from_ ≤ i ∧ i ≤ s.size ∧ out.length ≤ i ∧ out.map (fun x => x.data.toList) ++ pcs c ((s.data.toList.take i).drop from_) (s.data.toList.drop i) = pcs c [] s.data.toList
theorem CutAt.zero (c : UInt8) (s : ByteArray) : CutAt c s 0 0 [] := ⟨Nat.le_refl _, Nat.zero_le _, Nat.le_refl _, by simp⟩
theorem CutAt.hit {c : UInt8} {s : ByteArray} {i from_ : Nat} {out : List ByteArray} (h : CutAt c s i from_ out) (hb : s.data.toList[i]? = some c) : CutAt c s (i + 1) (i + 1) (out ++ [s.extract from_ i]) := by
 obtain ⟨h1, h2, h3, h4⟩ := h
 have hi : i < s.size := (List.getElem?_eq_some_iff.1 hb).1
 refine ⟨Nat.le_refl _, hi, by simp; omega, ?_⟩
 rw [get_drop hb, pcs, if_pos rfl] at h4
 rw [← h4, List.map_append, List.append_assoc]
 have e : (s.data.toList.take (i + 1)).drop (i + 1) = [] := List.drop_eq_nil_of_le (by rw [List.length_take]; omega)
 rw [e]
 simp only [List.map_cons, List.map_nil, ext_list, List.singleton_append]
theorem CutAt.miss {c b : UInt8} {s : ByteArray} {i from_ : Nat} {out : List ByteArray} (h : CutAt c s i from_ out) (hb : s.data.toList[i]? = some b) (hne : b ≠ c) : CutAt c s (i + 1) from_ out := by
 obtain ⟨h1, h2, h3, h4⟩ := h
 have hi : i < s.size := (List.getElem?_eq_some_iff.1 hb).1
 refine ⟨by omega, hi, by omega, ?_⟩
 rw [get_drop hb, pcs, if_neg hne] at h4
 rw [← h4]
 have e : (s.data.toList.take (i + 1)).drop from_ = (s.data.toList.take i).drop from_ ++ [b] := by
  rw [List.take_add_one, hb, List.drop_append_of_le_length (by
   have e4 : s.data.toList.length = s.size := rfl
   rw [List.length_take]; omega)]
  rfl
 rw [e]
theorem CutAt.fin {c : UInt8} {s : ByteArray} {from_ : Nat} {out : List ByteArray} (h : CutAt c s s.size from_ out) : out ++ [s.extract from_ s.size] = cutB c s := by
 obtain ⟨h1, h2, h3, h4⟩ := h
 refine data_inj ?_
 have e4 : s.data.toList.length = s.size := rfl
 have e5 : s.data.toList.drop s.size = [] := List.drop_eq_nil_of_le (by omega)
 rw [cutB_data, ← h4, e5, pcs, List.map_append]
 simp only [List.map_cons, List.map_nil, ext_list]
--import Derived.Shelf.Strings.Split
theorem w_strings_SplitC (c : UInt8) (s : ByteArray) (hs : s.size < 4294967281) : Fn Pr n_strings_Split [.str (fun _ => s), .str (fun _ => ⟨#[c]⟩)] (.sl 1 encS (fun _ => cutB c s)) := by
 have := w_strings_Split s ⟨#[c]⟩ hs (Nat.le_refl 1)
 rw [split_cutB] at this
 exact this
theorem tkdr {α : Type} (l : List α) : List.take l.length (List.drop 0 l) = l := by rw [List.drop_zero, List.take_length]
theorem led_one {X Y : AV} (h : LeD X Y) : ∀ (i : Nat) (x y : AV), [X][i]? = some x → [Y][i]? = some y → LeD x y := led_cons h led_nil
def noneT : ByteArray := ⟨#[110, 111, 110, 101]⟩
def sv (s : ByteArray) : List Int := s.data.toList.map (fun b => (b.toNat : Int) - 48)
def pSrv (s : ByteArray) : List Int × Bool := if s = noneT then ([], true) else if s = ⟨#[]⟩ ∨ srvT (sv s) ≠ s then ([], false) else (sv s, true)
theorem sv_len (s : ByteArray) : (sv s).length = s.size := by rw [sv, List.length_map]; rfl
theorem sv_snoc {s : ByteArray} {i : Nat} {b : UInt8} (h : s.data.toList[i]? = some b) : (sv s).take (i + 1) = (sv s).take i ++ [(b.toNat : Int) - 48] := by
 rw [List.take_add_one, sv, List.getElem?_map, h]; rfl
theorem srvT_long {l : List Int} (h : 5 < l.length) : srvT l = ⟨#[]⟩ := by
 rw [srvT, if_neg (fun hA => by have := areServers_len hA; omega)]
theorem pSrv_none {s : ByteArray} (h : s = noneT) : pSrv s = ([], true) := if_pos h
theorem pSrv_bad {s : ByteArray} (h : s ≠ noneT) (h2 : s = ⟨#[]⟩ ∨ srvT (sv s) ≠ s) : pSrv s = ([], false) := by rw [pSrv, if_neg h, if_pos h2]
theorem pSrv_ok {s : ByteArray} (h : s ≠ noneT) (h1 : s ≠ ⟨#[]⟩) (h2 : srvT (sv s) = s) : pSrv s = (sv s, true) := by rw [pSrv, if_neg h, if_neg (fun hc => hc.elim h1 (fun hc => hc h2))]
theorem pSrv_len (s : ByteArray) : (pSrv s).1.length ≤ s.size := by
 unfold pSrv
 split
 ·exact Nat.zero_le _
 ·split
  ·exact Nat.zero_le _
  ·exact Nat.le_of_eq (sv_len s)
theorem size_of_ne {s : ByteArray} (h : s ≠ ⟨#[]⟩) : 1 ≤ s.size := by
 rcases Nat.eq_zero_or_pos s.size with e | e
 ·exact absurd (bytes_ext (a := s) (b := ⟨#[]⟩) (List.eq_nil_of_length_eq_zero e)) h
 ·exact e
theorem w_impl_ParseServers (s : ByteArray) (hs : s.size ≤ 1048576) : Fn Pr n_impl_ParseServers [.str (fun _ => s)] (.tup [.sl 1 (encI .i64) (fun _ => (pSrv s).1), .bo (pSrv s).2]) := by
 have hlen := sv_len s
 have hbv : bIntS (sv s) := by show (sv s).length * 8 ≤ 140737488351232; omega
 refine k_impl_ParseServers.fn (by kernel_rfl) ?_
 conv=>arg 4;cbv
 refine Sat.test (fun h => ?_) (fun h => ?_)
 ·have h := of_decide_eq_true h
  conv=>arg 4;cbv
  refine Sat.done ?_
  rw [pSrv_none h]
  exact .tup rfl (led_cons (.emp rfl) (led_cons (.same _) led_nil))
 have hne : s ≠ noneT := of_decide_eq_false h
 conv=>arg 4;cbv
 refine Sat.loopP (ι := Nat) (fun i => [(4, .ref 32 (fun _ => 0) (fun _ => ((sv s).take i).length)), (12, .int .i64 (fun _ => (i : Int)))]) (fun i => [(32, .row 1 (encI .i64) (fun _ => (sv s).take i) false)]) (fun i => i ≤ s.size) (fun i => s.size - i) 0 ?_ (Nat.zero_le _) (fun i hi => ?_)
 ·refine les_of ?_ ?_ rfl
  iterate 2 (focus repeat' (first | exact trivial | refine And.intro ?_ ?_ | exact levA | refine lev_cons ?_ ?_ | refine LeV.agg rfl ?_ | exact Nat.le_of_ble_eq_true rfl | exact Or.inl ⟨_, rfl, .row rfl⟩ | refine Or.inl ⟨_, rfl, .row ?_⟩ | refine Or.inl ⟨_, rfl, .lit rfl ?_⟩ | exact Or.inr ⟨rfl, rfl⟩ | (first | exact .empref (fun h => nomatch h) rfl rfl rfl | rfl)))
 have htl : ((sv s).take i).length = i := by rw [List.length_take]; omega
 conv=>arg 4;cbv
 refine Sat.cmp (fun h5 => ?_) (fun h5 => ?_) <;> simp only [Cmp.holds] at h5
 ·have hi2 : i < s.size := by exact arA
  have hb : s.data.toList[i]? = some (s.get! (Int.toNat (i : Int))) := byte_at hi2
  have h256 : (s.get! (Int.toNat (i : Int))).toNat < 256 := UInt8.toNat_lt _
  have hsn := sv_snoc hb
  conv=>arg 4;cbv
  refine Sat.need (by (try dsimp only); exact arA) ?_
  conv=>arg 4;cbv
  refine Sat.ari64 (by (try dsimp only); exact arA) (by (try dsimp only); exact arA) ?_
  conv=>arg 4;cbv
  refine Sat.ari64 (by (try dsimp only); exact arA) (by (try dsimp only); exact arA) ?_
  conv=>arg 4;cbv
  refine Sat.need ⟨rfl, fun y _ j _ => rfl, (by (try dsimp only); exact arA)⟩ ?_
  conv=>arg 4;cbv
  refine Sat.same ?_
  conv=>arg 4;cbv
  refine Sat.ari64 (by (try dsimp only); exact arA) (by (try dsimp only); exact arA) ?_
  conv=>arg 4;cbv
  refine Sat.next (i + 1) ?_ (by exact arA) (by (try dsimp only); exact arA)
  have e7 : (sv s).take (i + 1) = List.take ((sv s).take i).length ((sv s).take i) ++ List.take 1 (List.drop 0 [((s.get! (Int.toNat (i : Int))).toNat : Int) - 48]) := by
   rw [List.take_length, hsn]; rfl
  refine les_of ?_ ?_ rfl
  iterate 2 (focus repeat' (first | exact trivial | refine And.intro ?_ ?_ | exact levA | refine lev_cons ?_ ?_ | refine LeV.agg rfl ?_ | exact Nat.le_of_ble_eq_true rfl | exact Or.inl ⟨_, rfl, .row rfl⟩ | refine Or.inl ⟨_, rfl, .row ?_⟩ | refine Or.inl ⟨_, rfl, .lit rfl ?_⟩ | exact Or.inr ⟨rfl, rfl⟩ | (first | exact .ref (fun h => nomatch h) (fun h => nomatch h) rfl (by (try dsimp only); rw [hsn]; simp) | exact e7.symm)))
 have hie : i = s.size := by exact arA
 have hta : (sv s).take i = sv s := by rw [hie, ← hlen]; exact List.take_length
 conv=>arg 4;cbv
 refine Sat.pop ?_
 conv=>arg 4;cbv
 refine Sat.test (fun h => ?_) (fun h => ?_)
 ·have h := of_decide_eq_true h
  conv=>arg 4;cbv
  refine Sat.done ?_
  rw [pSrv_bad hne (.inl h)]
  exact .tup rfl (led_cons (.nil rfl) (led_cons (.same _) led_nil))
 have hne0 : s ≠ ⟨#[]⟩ := of_decide_eq_false h
 have hm : List.take ((sv s).take i).length (List.drop 0 ((sv s).take i)) = sv s := by rw [List.drop_zero, List.take_length, hta]
 conv=>arg 4;cbv
 refine Sat.call (w_impl_FormatServers (sv s) hbv) rfl (fun i x y hx hy => by
  cases i with
  | zero =>
    rw [List.getElem?_cons_zero, Option.some.injEq] at hx hy
    subst hx hy
    exact .sl hm
  | succ i => simp at hx) ?_
 conv=>arg 4;cbv
 refine Sat.test (fun h => ?_) (fun h => ?_)
 ·have h := of_decide_eq_true h
  conv=>arg 4;cbv
  refine Sat.done ?_
  rw [pSrv_ok hne hne0 h]
  exact .tup rfl (led_cons (.sl hm) (led_cons (.same _) led_nil))
 ·have h := of_decide_eq_false h
  conv=>arg 4;cbv
  refine Sat.done ?_
  rw [pSrv_bad hne (.inr h)]
  exact .tup rfl (led_cons (.nil rfl) (led_cons (.same _) led_nil))
def pNum (s : ByteArray) : Int := if (pI s).2 = true then (pI s).1 else -1
def pNum3 (s : ByteArray) : Int := if (pI s).2 = true ∧ ¬ (pI s).1 < 0 then (pI s).1 else -1
theorem pI_no1 {s : ByteArray} {n : Int} (h : pI s = (n, false)) : pNum s = -1 ∧ pNum3 s = -1 := by
 constructor
 ·rw [pNum, h, if_neg (fun e => by cases e)]
 ·rw [pNum3, h, if_neg (fun e => by cases e.1)]
theorem pI_yes1 {s : ByteArray} {n : Int} (h : pI s = (n, true)) : pNum s = n ∧ pNum3 s = if n < 0 then -1 else n := by
 constructor
 ·rw [pNum, h, if_pos rfl]
 ·rw [pNum3, h]
  by_cases h0 : n < 0
  ·rw [if_pos h0, if_neg (fun e => e.2 h0)]
  ·rw [if_neg h0, if_pos ⟨rfl, h0⟩]
theorem pNum_rng (s : ByteArray) : -1000000000 ≤ pNum s ∧ pNum s ≤ 1000000000 := by
 by_cases h2 : 1 ≤ (pT s).length ∧ (pT s).length ≤ 9 ∧ (pT s).all isD = true ∧ sI (pV s) = s
 ·have := dv_lt_of (k := 9) (l := pT s) (fun b hb => List.all_eq_true.1 h2.2.2.1 b hb) h2.2.1
  rw [(pI_yes1 (pI_yes h2)).1]
  simp only [pV, pS]
  split <;> omega
 ·rw [(pI_no1 (pI_no h2)).1]
  omega
theorem pNum_eq (s : ByteArray) : pNum3 s = if pNum s < 0 then -1 else pNum s := by
 unfold pNum3 pNum
 by_cases h : (pI s).2 = true
 ·by_cases h0 : (pI s).1 < 0
  ·rw [if_neg (fun e => e.2 h0), if_pos h, if_pos h0]
  ·rw [if_pos ⟨h, h0⟩, if_pos h, if_neg h0]
 ·rw [if_neg (fun e => h e.1), if_neg h, if_pos (by decide)]
theorem w_impl_number (s : ByteArray) (hs : s.size ≤ 4294967280) : Fn Pr n_impl_number [.str (fun _ => s)] (.int .i64 (fun _ => pNum s)) := by
 have W := w_impl_ParseInt s hs
 obtain ⟨n, b, hp⟩ : ∃ n b, pI s = (n, b) := ⟨_, _, rfl⟩
 rw [hp] at W
 cases b with
 | false =>
   rw [(pI_no1 hp).1]
   refine k_impl_number.fn (by kernel_rfl) ?_
   conv=>arg 4;cbv
   refine Sat.call W rfl ledA ?_
   conv=>arg 4;cbv
   exact Sat.done (.same _)
 | true =>
   rw [(pI_yes1 hp).1]
   refine k_impl_number.fn (by kernel_rfl) ?_
   conv=>arg 4;cbv
   refine Sat.call W rfl ledA ?_
   conv=>arg 4;cbv
   exact Sat.done (.same _)
def zeroC : GConfig := ⟨0, 0, [], []⟩
def cfg4 (num : ByteArray → Int) (a b c d : ByteArray) : GConfig := ⟨num a, num b, (pSrv c).1, (pSrv d).1⟩
def pC (s : ByteArray) : GConfig × Bool := match cutB 32 s with
 | [a, b, c, d] => if cfgT (cfg4 pNum a b c d) = s then (cfg4 pNum a b c d, true) else (zeroC, false)
 | _ => (zeroC, false)
theorem four {α : Type} {l : List α} (h : l.length = 4) : ∃ a b c d, l = [a, b, c, d] := by
 match l, h with
 | [a, b, c, d], _ => exact ⟨a, b, c, d, rfl⟩
theorem pC_no4 {s : ByteArray} (h : (cutB 32 s).length ≠ 4) : pC s = (zeroC, false) := by
 unfold pC
 split
 ·rename_i e
  rw [e] at h
  exact absurd rfl h
 ·rfl
theorem pC_4 {s a b c d : ByteArray} (h : cutB 32 s = [a, b, c, d]) : pC s = if cfgT (cfg4 pNum a b c d) = s then (cfg4 pNum a b c d, true) else (zeroC, false) := by
 unfold pC
 rw [h]
theorem cfgT_pos {x : GConfig} {s : ByteArray} (h : cfgT x = s) (hs : 1 ≤ s.size) : validC x = true := by
 unfold cfgT at h
 split at h
 ·assumption
 ·rw [← h] at hs
  exact absurd hs (by decide)
theorem cut4_size {s a b c d : ByteArray} (h : cutB 32 s = [a, b, c, d]) : 1 ≤ s.size := by
 have := (cutB_len 32 s).1
 rw [h] at this
 simp only [List.length_cons, List.length_nil] at this
 omega
theorem pC_4' {s a b c d : ByteArray} (h : cutB 32 s = [a, b, c, d]) : pC s = if cfgT (cfg4 pNum3 a b c d) = s then (cfg4 pNum3 a b c d, true) else (zeroC, false) := by
 rw [pC_4 h]
 have hs := cut4_size h
 by_cases h0 : pNum a < 0 ∨ pNum b < 0
 ·have n1 : ¬ cfgT (cfg4 pNum a b c d) = s := fun e => by
   have hv := cfgT_pos e hs
   have e1 := (validC_spec hv).1
   have e2 := validC_prim hv
   simp only [cfg4] at e1 e2
   omega
  have n2 : ¬ cfgT (cfg4 pNum3 a b c d) = s := fun e => by
   have hv := cfgT_pos e hs
   have e1 := (validC_spec hv).1
   have e2 := validC_prim hv
   simp only [cfg4, pNum_eq] at e1 e2
   rcases h0 with h0 | h0
   ·rw [if_pos h0] at e1
    omega
   ·rw [if_pos h0] at e2
    omega
  rw [if_neg n1, if_neg n2]
 ·have e : cfg4 pNum3 a b c d = cfg4 pNum a b c d := by
   simp only [cfg4, pNum_eq]
   rw [if_neg (fun h => h0 (.inl h)), if_neg (fun h => h0 (.inr h))]
  rw [e]
theorem cfg4_b {num : ByteArray → Int} {s a b c d : ByteArray} (h : cutB 32 s = [a, b, c, d]) (hs : s.size ≤ 1048576) : bConfig (cfg4 num a b c d) := by
 have h1 := cutB_size (c := 32) (s := s) (x := c) (by rw [h]; simp)
 have h2 := cutB_size (c := 32) (s := s) (x := d) (by rw [h]; simp)
 have h3 := pSrv_len c
 have h4 := pSrv_len d
 exact ⟨by show (pSrv c).1.length * 8 ≤ 140737488351232; omega, by show (pSrv d).1.length * 8 ≤ 140737488351232; omega⟩
theorem led_cfg4 (num : ByteArray → Int) (a b c d : ByteArray) : LeD (.agg [.int .i64 (fun _ => num a), .int .i64 (fun _ => num b), .sl 1 (encI .i64) (fun _ => List.take (pSrv c).1.length (List.drop 0 (pSrv c).1)), .sl 1 (encI .i64) (fun _ => List.take (pSrv d).1.length (List.drop 0 (pSrv d).1))]) (aGConfig (cfg4 num a b c d)) :=
 .agg rfl (led_cons (.same _) (led_cons (.same _) (led_cons (.sl (tkdr _)) (led_cons (.sl (tkdr _)) led_nil))))
theorem led_zeroC : LeD (.agg [.int .i64 (fun _ => 0), .int .i64 (fun _ => 0), .nil, .nil]) (aGConfig zeroC) :=
 .agg rfl (led_cons (.same _) (led_cons (.same _) (led_cons (.nil rfl) (led_cons (.nil rfl) led_nil))))
theorem pC_b (s : ByteArray) (hs : s.size ≤ 1048576) : bConfig (pC s).1 := by
 unfold pC
 split
 ·rename_i h
  split
  ·exact cfg4_b h hs
  ·exact ⟨(by decide : 0 * 8 ≤ 140737488351232), (by decide : 0 * 8 ≤ 140737488351232)⟩
 ·exact ⟨(by decide : 0 * 8 ≤ 140737488351232), (by decide : 0 * 8 ≤ 140737488351232)⟩
theorem w_impl_ParseConfig (s : ByteArray) (hs : s.size ≤ 1048576) : Fn Pr n_impl_ParseConfig [.str (fun _ => s)] (.tup [aGConfig (pC s).1, .bo (pC s).2]) := by
 refine k_impl_ParseConfig.fn (by kernel_rfl) ?_
 conv=>arg 4;cbv
 refine Sat.call (w_strings_SplitC 32 s (by omega)) rfl ledA ?_
 conv=>arg 4;cbv
 refine Sat.cmp (fun h => ?_) (fun h => ?_) <;> simp only [Cmp.holds] at h
 rotate_left
 ·have h4 : (cutB 32 s).length ≠ 4 := fun e => h (by rw [e]; rfl)
  conv=>arg 4;cbv
  refine Sat.done ?_
  rw [pC_no4 h4]
  exact .tup rfl (led_cons led_zeroC (led_cons (.same _) led_nil))
 have h4 : (cutB 32 s).length = 4 := by exact arA
 obtain ⟨a, b, c, d, h4e⟩ := four h4
 have ha := cutB_size (c := 32) (s := s) (x := a) (by rw [h4e]; simp)
 have hb := cutB_size (c := 32) (s := s) (x := b) (by rw [h4e]; simp)
 have hc := cutB_size (c := 32) (s := s) (x := c) (by rw [h4e]; simp)
 have hd := cutB_size (c := 32) (s := s) (x := d) (by rw [h4e]; simp)
 have hcb := cfg4_b (num := pNum) h4e hs
 conv=>arg 4;cbv
 refine Sat.need (by (try dsimp only); exact arA) ?_
 conv=>arg 4;cbv
 refine Sat.idx (by rw [h4e]; exact (by decide : 2 < 4)) (fun v hv => ?_)
 obtain rfl : v = c := by rw [h4e] at hv; exact (Option.some.inj hv).symm
 conv=>arg 4;cbv
 refine Sat.call (w_impl_ParseServers v (by omega)) rfl ledA ?_
 conv=>arg 4;cbv
 refine Sat.need (by (try dsimp only); exact arA) ?_
 conv=>arg 4;cbv
 refine Sat.idx (by rw [h4e]; exact (by decide : 3 < 4)) (fun v1 hv1 => ?_)
 obtain rfl : v1 = d := by rw [h4e] at hv1; exact (Option.some.inj hv1).symm
 conv=>arg 4;cbv
 refine Sat.call (w_impl_ParseServers v1 (by omega)) rfl ledA ?_
 conv=>arg 4;cbv
 refine Sat.need (by (try dsimp only); exact arA) ?_
 conv=>arg 4;cbv
 refine Sat.idx (by rw [h4e]; exact (by decide : 0 < 4)) (fun v2 hv2 => ?_)
 obtain rfl : v2 = a := by rw [h4e] at hv2; exact (Option.some.inj hv2).symm
 conv=>arg 4;cbv
 refine Sat.call (w_impl_number v2 (by omega)) rfl ledA ?_
 conv=>arg 4;cbv
 refine Sat.need (by (try dsimp only); exact arA) ?_
 conv=>arg 4;cbv
 refine Sat.idx (by rw [h4e]; exact (by decide : 1 < 4)) (fun v3 hv3 => ?_)
 obtain rfl : v3 = b := by rw [h4e] at hv3; exact (Option.some.inj hv3).symm
 conv=>arg 4;cbv
 refine Sat.call (w_impl_number v3 (by omega)) rfl ledA ?_
 conv=>arg 4;cbv
 refine Sat.call (w_impl_FormatConfig (cfg4 pNum v2 v3 v v1) hcb) rfl (led_one (led_cfg4 pNum v2 v3 v v1)) ?_
 conv=>arg 4;cbv
 refine Sat.test (fun h => ?_) (fun h => ?_)
 ·have h : cfgT (cfg4 pNum v2 v3 v v1) = s := of_decide_eq_true h
  conv=>arg 4;cbv
  refine Sat.done ?_
  rw [pC_4 h4e, if_pos h]
  exact .tup rfl (led_cons (led_cfg4 pNum v2 v3 v v1) (led_cons (.same _) led_nil))
 ·have h : ¬ cfgT (cfg4 pNum v2 v3 v v1) = s := of_decide_eq_false h
  conv=>arg 4;cbv
  refine Sat.done ?_
  rw [pC_4 h4e, if_neg h]
  exact .tup rfl (led_cons led_zeroC (led_cons (.same _) led_nil))
end Go.V.T