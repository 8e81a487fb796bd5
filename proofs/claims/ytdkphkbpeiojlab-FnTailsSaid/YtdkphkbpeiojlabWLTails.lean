/- Contracts of the functions that FnTails reaches: what each returns. Conditions: those that each theorem states. -/
import Derived.Test.YtdkphkbpeiojlabMLTails
namespace Go.V.T
open Go Go.V Go.RowKit
set_option maxRecDepth 100000
set_option linter.unusedVariables false
set_option linter.unusedSimpArgs false
@[ext] structure GOp where
  Client : Int
  Seq : Int
  Kind : Int
  Object : Int
  Old : Int
  Value : Int
  deriving DecidableEq
def eGOp (x : GOp) : Nat → AV
  | 0 => .int .i64 (fun _ => x.Client)
  | 1 => .int .i64 (fun _ => x.Seq)
  | 2 => .int .i64 (fun _ => x.Kind)
  | 3 => .int .i64 (fun _ => x.Object)
  | 4 => .int .i64 (fun _ => x.Old)
  | 5 => .int .i64 (fun _ => x.Value)
  | _ => .any
abbrev cGOp (x : GOp) : List AV := [.int .i64 (fun _ => x.Client), .int .i64 (fun _ => x.Seq), .int .i64 (fun _ => x.Kind), .int .i64 (fun _ => x.Object), .int .i64 (fun _ => x.Old), .int .i64 (fun _ => x.Value)]
abbrev aGOp (x : GOp) : AV := .agg [.int .i64 (fun _ => x.Client), .int .i64 (fun _ => x.Seq), .int .i64 (fun _ => x.Kind), .int .i64 (fun _ => x.Object), .int .i64 (fun _ => x.Old), .int .i64 (fun _ => x.Value)]
@[ext] structure GEntry where
  Epoch : Int
  Op : GOp
  deriving DecidableEq
def eGEntry (x : GEntry) : Nat → AV
  | 0 => .int .i64 (fun _ => x.Epoch)
  | 1 => .int .i64 (fun _ => x.Op.Client)
  | 2 => .int .i64 (fun _ => x.Op.Seq)
  | 3 => .int .i64 (fun _ => x.Op.Kind)
  | 4 => .int .i64 (fun _ => x.Op.Object)
  | 5 => .int .i64 (fun _ => x.Op.Old)
  | 6 => .int .i64 (fun _ => x.Op.Value)
  | _ => .any
abbrev cGEntry (x : GEntry) : List AV := [.int .i64 (fun _ => x.Epoch), .int .i64 (fun _ => x.Op.Client), .int .i64 (fun _ => x.Op.Seq), .int .i64 (fun _ => x.Op.Kind), .int .i64 (fun _ => x.Op.Object), .int .i64 (fun _ => x.Op.Old), .int .i64 (fun _ => x.Op.Value)]
abbrev aGEntry (x : GEntry) : AV := .agg [.int .i64 (fun _ => x.Epoch), .int .i64 (fun _ => x.Op.Client), .int .i64 (fun _ => x.Op.Seq), .int .i64 (fun _ => x.Op.Kind), .int .i64 (fun _ => x.Op.Object), .int .i64 (fun _ => x.Op.Old), .int .i64 (fun _ => x.Op.Value)]

theorem w_spec_l1In (n a b : Int) : Fn Pr n_spec_l1In [.int .i64 (fun _ => n), .int .i64 (fun _ => a), .int .i64 (fun _ => b)] (.bo (decide (a ≤ n ∧ n ≤ b))) := by
  refine k_spec_l1In.fn (by kernel_rfl) ?_
  conv => arg 4; cbv
  repeat' first
    | (refine Sat.cmp (fun h => ?_) (fun h => ?_) <;> simp only [Cmp.holds] at h <;> (conv => arg 4; cbv))
    | (refine Sat.need ndA ?_; conv => arg 4; cbv)
    | (refine Sat.idxk (by assumption) ?_; conv => arg 4; cbv) | (refine Sat.idx ndA (fun v_ hv_ => ?_); conv => arg 4; cbv)
    | (refine Sat.ari64 ndA ndA ?_; conv => arg 4; cbv)
    | (refine Sat.pop ?_; conv => arg 4; cbv)
    | refine Sat.done ?_
  all_goals refine led_bo ?_ <;> simp <;> omega

theorem w_impl_within (n a b : Int) : Fn Pr n_impl_within [.int .i64 (fun _ => n), .int .i64 (fun _ => a), .int .i64 (fun _ => b)] (.bo (decide (a ≤ n ∧ n ≤ b))) := by
  refine k_impl_within.fn (by kernel_rfl) ?_
  conv => arg 4; cbv
  repeat' first
    | (refine Sat.cmp (fun h => ?_) (fun h => ?_) <;> simp only [Cmp.holds] at h <;> (conv => arg 4; cbv))
    | (refine Sat.need ndA ?_; conv => arg 4; cbv)
    | (refine Sat.idxk (by assumption) ?_; conv => arg 4; cbv) | (refine Sat.idx ndA (fun v_ hv_ => ?_); conv => arg 4; cbv)
    | (refine Sat.ari64 ndA ndA ?_; conv => arg 4; cbv)
    | (refine Sat.pop ?_; conv => arg 4; cbv)
    | refine Sat.done ?_
  all_goals refine led_bo ?_ <;> simp <;> omega

theorem take_ext {α : Type _} {l r : List α} {i : Nat} {x y : α} (hx : l[i]? = some x) (hy : r[i]? = some y) (h : l.take i = r.take i) (e : x = y) : l.take (i + 1) = r.take (i + 1) := by
  rw [List.take_add_one, List.take_add_one, hx, hy, h, e]
theorem ne_of_get {α : Type _} {l r : List α} {i : Nat} {x y : α} (hx : l[i]? = some x) (hy : r[i]? = some y) (h : ¬ x = y) : l ≠ r := fun e => h (by subst e; rw [hx] at hy; exact Option.some.inj hy)
theorem set_take {α : Type _} {l : List α} {i : Nat} {x z : α} (h : l[i]? = some x) : setAt (l.take i ++ List.replicate (l.length - i) z) i x = l.take (i + 1) ++ List.replicate (l.length - (i + 1)) z := by
  have hi := lt_of_get h
  have e : l.length - i = (l.length - (i + 1)) + 1 := by omega
  rw [setAt, e, List.replicate_succ, List.set_append_right _ _ (by simp; omega)]
  have : i - (l.take i).length = 0 := by simp; omega
  rw [this, List.set_cons_zero, List.take_add_one, h]
  simp
def szF (k : Nat) (n : Int) : Int := if n - k < 0 then -1 else n - k
theorem szF_rng {k : Nat} {n : Int} (hn : 0 ≤ n) : -1 ≤ szF k n ∧ szF k n ≤ n := by unfold szF; split <;> omega
theorem szF_le {k : Nat} {n : Int} (h : 0 ≤ szF k n) : (k : Int) ≤ n := by unfold szF at h; split at h <;> omega
def szL {α : Type} (f : α → Int → Int) : List α → Int → Int
  | [], n => n
  | x :: r, n => if f x n < 0 then -1 else szL f r (f x n)
theorem szL_rng {α : Type} {f : α → Int → Int} (hf : ∀ x n, 0 ≤ n → -1 ≤ f x n ∧ f x n ≤ n) : ∀ (l : List α) {n : Int}, 0 ≤ n → -1 ≤ szL f l n ∧ szL f l n ≤ n
  | [], n, h => by simp only [szL]; omega
  | x :: r, n, h => by
    rw [szL]
    have := hf x n h
    split
    · omega
    · have := szL_rng hf r (n := f x n) (by omega)
      omega
theorem drop_get {α : Type _} {l : List α} {i : Nat} {x : α} (h : l[i]? = some x) : l.drop i = x :: l.drop (i + 1) := by
  obtain ⟨hi, rfl⟩ := List.getElem?_eq_some_iff.1 h
  exact List.drop_eq_getElem_cons hi

def bEntryS (x : List GEntry) : Prop := x.length * 56 ≤ 140737488351232

theorem w_slices_Equal_implEntryimplEntry (x y : List GEntry) (hb : bEntryS x) : Fn Pr n_slices_Equal_implEntryimplEntry [.sl 7 eGEntry (fun _ => x), .sl 7 eGEntry (fun _ => y)] (.bo (decide (x = y))) := by
  refine k_slices_Equal_implEntryimplEntry.fn (by kernel_rfl) ?_
  have h0 : x.length * 56 ≤ 140737488351232 := hb
  conv => arg 4; cbv
  refine Sat.cmp (fun hl => ?_) (fun hl => ?_) <;> simp only [Cmp.holds] at hl <;> (conv => arg 4; cbv)
  · refine Sat.loopP (ι := Nat) (fun i => [(13, .int .i64 (fun _ => (i : Int)))]) (fun i => []) (fun i => i ≤ x.length ∧ x.take i = y.take i) (fun i => x.length - i) 0 ?_ ⟨by omega, by simp⟩ (fun i hi => ?_)
    · exact lesA
    conv => arg 4; cbv
    repeat' first
      | (refine Sat.cmp (fun h => ?_) (fun h => ?_) <;> simp only [Cmp.holds] at h <;> (conv => arg 4; cbv))
      | (refine Sat.need ndA ?_; conv => arg 4; cbv)
      | (refine Sat.idxk (by assumption) ?_; conv => arg 4; cbv) | (refine Sat.idx ndA (fun v_ hv_ => ?_); conv => arg 4; cbv)
      | (refine Sat.ari64 ndA ndA ?_; conv => arg 4; cbv)
      | (refine Sat.pop ?_; conv => arg 4; cbv)
      | refine Sat.next (i + 1) ?_ ?_ (by (try dsimp only); exact arA)
      | refine Sat.done (led_bo (Eq.symm (decide_eq_false (ne_of_get (by assumption) (by assumption) (fun e => by subst e; first | contradiction | (simp_all; done))))))
      | refine Sat.done ?_
    · exact lesA
    · exact ⟨by exact arA, take_ext (by assumption) (by assumption) hi.2 (by first | assumption | (apply GEntry.ext <;> first | assumption | (apply GOp.ext <;> assumption)))⟩
    · refine led_bo ?_
      have e1 : i = x.length := by exact arA
      have e2 : x.length = y.length := by exact arA
      have := hi.2
      rw [e1, List.take_length, e2, List.take_length] at this
      simp [this]
  · refine Sat.done (led_bo ?_)
    have : x ≠ y := fun e => hl (by rw [e])
    simp [this]

def okOp (o : GOp) : Bool := decide ((0 ≤ o.Client ∧ o.Client ≤ 2) ∧ (1 ≤ o.Seq ∧ o.Seq ≤ 99) ∧ (0 ≤ o.Object ∧ o.Object ≤ 2) ∧ (0 ≤ o.Value ∧ o.Value ≤ 9) ∧ ((o.Kind = 1 ∧ o.Old = 0) ∨ (o.Kind = 2 ∧ 0 ≤ o.Old ∧ o.Old ≤ 9)))

theorem w_impl_IsValidOp (o : GOp) : Fn Pr n_impl_IsValidOp [aGOp o] (.bo (okOp o)) := by
  refine k_impl_IsValidOp.fn (by kernel_rfl) ?_
  conv => arg 4; cbv
  repeat' first
    | (refine Sat.cmp (fun h => ?_) (fun h => ?_) <;> simp only [Cmp.holds] at h <;> (conv => arg 4; cbv))
    | (refine Sat.callb (w_impl_within _ _ _) rfl ledA (fun h => ?_) (fun h => ?_) <;> (try simp only [decide_eq_true_eq, decide_eq_false_iff_not] at h) <;> (conv => arg 4; cbv))
    | (refine Sat.need ndA ?_; conv => arg 4; cbv)
    | (refine Sat.idxk (by assumption) ?_; conv => arg 4; cbv) | (refine Sat.idx ndA (fun v_ hv_ => ?_); conv => arg 4; cbv)
    | (refine Sat.ari64 ndA ndA ?_; conv => arg 4; cbv)
    | (refine Sat.pop ?_; conv => arg 4; cbv)
    | refine Sat.done ?_
  all_goals refine led_bo ?_
  all_goals (simp only [okOp]; first | (refine (decide_eq_true ?_).symm; omega) | (refine (decide_eq_false ?_).symm; omega))

theorem w_spec_IsValidOp (o : GOp) : Fn Pr n_spec_IsValidOp [aGOp o] (.bo (okOp o)) := by
  refine k_spec_IsValidOp.fn (by kernel_rfl) ?_
  conv => arg 4; cbv
  repeat' first
    | (refine Sat.cmp (fun h => ?_) (fun h => ?_) <;> simp only [Cmp.holds] at h <;> (conv => arg 4; cbv))
    | (refine Sat.callb (w_spec_l1In _ _ _) rfl ledA (fun h => ?_) (fun h => ?_) <;> (try simp only [decide_eq_true_eq, decide_eq_false_iff_not] at h) <;> (conv => arg 4; cbv))
    | (refine Sat.need ndA ?_; conv => arg 4; cbv)
    | (refine Sat.idxk (by assumption) ?_; conv => arg 4; cbv) | (refine Sat.idx ndA (fun v_ hv_ => ?_); conv => arg 4; cbv)
    | (refine Sat.ari64 ndA ndA ?_; conv => arg 4; cbv)
    | (refine Sat.pop ?_; conv => arg 4; cbv)
    | refine Sat.done ?_
  all_goals refine led_bo ?_
  all_goals (simp only [okOp]; first | (refine (decide_eq_true ?_).symm; omega) | (refine (decide_eq_false ?_).symm; omega))

def okLogFrom (p : Int) : List GEntry → Bool
  | [] => true
  | e :: r => decide (1 ≤ e.Epoch ∧ e.Epoch ≤ 20) && okOp e.Op && decide (p ≤ e.Epoch) && okLogFrom e.Epoch r
def isLog (l : List GEntry) : Bool := okLogFrom 0 l && decide (l.length ≤ 16)
/-- The epoch ahead of place i. -/
def prevE (l : List GEntry) : Nat → Int
  | 0 => 0
  | i + 1 => match l[i]? with | some e => e.Epoch | none => 0
theorem prevE_get {l : List GEntry} {i : Nat} {e : GEntry} (h : l[i]? = some e) : prevE l (i + 1) = e.Epoch := by simp [prevE, h]
theorem okLog_step {l : List GEntry} {i : Nat} {e : GEntry} {b : Bool} (hb : b = okLogFrom (prevE l i) (l.drop i)) (h : l[i]? = some e) (h1 : 1 ≤ e.Epoch ∧ e.Epoch ≤ 20) (h2 : okOp e.Op = true) (h3 : prevE l i ≤ e.Epoch) : b = okLogFrom (prevE l (i + 1)) (l.drop (i + 1)) := by
  rw [hb, drop_get h, okLogFrom, prevE_get h, h2, decide_eq_true h1, decide_eq_true h3]
  simp
theorem okLog_bad {l : List GEntry} {i : Nat} {e : GEntry} {b : Bool} (hb : b = okLogFrom (prevE l i) (l.drop i)) (h : l[i]? = some e) (hn : ¬ ((1 ≤ e.Epoch ∧ e.Epoch ≤ 20) ∧ okOp e.Op = true ∧ prevE l i ≤ e.Epoch)) : b = false := by
  rw [hb, drop_get h, okLogFrom]
  cases e1 : okOp e.Op with
  | false => simp
  | true =>
    by_cases h1 : 1 ≤ e.Epoch ∧ e.Epoch ≤ 20
    · by_cases h3 : prevE l i ≤ e.Epoch
      · exact absurd ⟨h1, e1, h3⟩ hn
      · rw [decide_eq_false h3]; simp
    · rw [decide_eq_false h1]; simp
theorem okLog_end {l : List GEntry} {i : Nat} {b : Bool} (hb : b = okLogFrom (prevE l i) (l.drop i)) (h : i = l.length) : b = true := by
  rw [hb, h, List.drop_length, okLogFrom]
theorem prevE_zero {l : List GEntry} {i : Nat} (h : i = 0) : prevE l i = 0 := by subst h; rfl
theorem prevE_pos {l : List GEntry} {i j : Nat} {e : GEntry} (h : l[j]? = some e) (hj : i = j + 1) : prevE l i = e.Epoch := by subst hj; exact prevE_get h

theorem w_spec_IsLog (l : List GEntry) (hb : bEntryS l) : Fn Pr n_spec_IsLog [.sl 7 eGEntry (fun _ => l)] (.bo (isLog l)) := by
  refine k_spec_IsLog.fn (by kernel_rfl) ?_
  have h0 : l.length * 56 ≤ 140737488351232 := hb
  conv => arg 4; cbv
  refine Sat.loopP (ι := Nat) (fun i => [(3, .int .i64 (fun _ => (i : Int)))]) (fun i => []) (fun i => i ≤ l.length ∧ okLogFrom 0 l = okLogFrom (prevE l i) (l.drop i)) (fun i => l.length - i) 0 ?_ ⟨by omega, by simp [prevE]⟩ (fun i hi => ?_)
  · exact lesA
  conv => arg 4; cbv
  repeat' first
    | (refine Sat.cmp (fun h => ?_) (fun h => ?_) <;> simp only [Cmp.holds] at h <;> (conv => arg 4; cbv))
    | (refine Sat.need ndA ?_; conv => arg 4; cbv)
    | (refine Sat.idxk (by assumption) ?_; conv => arg 4; cbv) | (refine Sat.idx ndA (fun v_ hv_ => ?_); conv => arg 4; cbv)
    | (refine Sat.callb (w_spec_l1In _ _ _) rfl ledA (fun h => ?_) (fun h => ?_) <;> (try simp only [decide_eq_true_eq, decide_eq_false_iff_not] at h) <;> (conv => arg 4; cbv))
    | (refine Sat.callb (w_spec_IsValidOp (GEntry.Op _)) rfl ledA (fun h => ?_) (fun h => ?_) <;> (conv => arg 4; cbv))
    | (refine Sat.ari64 ndA ndA ?_; conv => arg 4; cbv)
    | (refine Sat.pop ?_; conv => arg 4; cbv)
    | refine Sat.next (i + 1) ?_ ?_ (by (try dsimp only); exact arA)
    | refine Sat.done ?_
  · refine led_bo ?_
    rw [isLog, okLog_bad (i := i) hi.2 (by assumption) (fun q => by have := prevE_pos (l := l) (i := i) hv_ (by exact arA); omega)]; rfl
  · exact lesA
  · have := prevE_pos (l := l) (i := i) hv_ (by exact arA)
    exact ⟨by exact arA, okLog_step hi.2 (by assumption) (by assumption) (by assumption) (by omega)⟩
  · exact lesA
  · have := prevE_zero (l := l) (i := i) (by exact arA)
    exact ⟨by exact arA, okLog_step hi.2 (by assumption) (by assumption) (by assumption) (by omega)⟩
  · refine led_bo ?_
    rw [isLog, okLog_bad (i := i) hi.2 (by assumption) (fun q => by simp_all)]; rfl
  · refine led_bo ?_
    rw [isLog, okLog_bad (i := i) hi.2 (by assumption) (fun q => h q.1)]; rfl
  all_goals
    refine led_bo ?_
    rw [isLog, okLog_end hi.2 (by exact arA), Bool.true_and]
    simp only [ncast] at h
  · exact (decide_eq_true (by omega)).symm
  · exact (decide_eq_false (by omega)).symm

theorem w_impl_IsLog (l : List GEntry) (hb : bEntryS l) : Fn Pr n_impl_IsLog [.sl 7 eGEntry (fun _ => l)] (.bo (isLog l)) := by
  refine k_impl_IsLog.fn (by kernel_rfl) ?_
  have h0 : l.length * 56 ≤ 140737488351232 := hb
  conv => arg 4; cbv
  refine Sat.loopP (ι := Nat) (fun i => [(7, .int .i64 (fun _ => (i : Int)))]) (fun i => []) (fun i => i ≤ l.length ∧ okLogFrom 0 l = okLogFrom (prevE l i) (l.drop i)) (fun i => l.length - i) 0 ?_ ⟨by omega, by simp [prevE]⟩ (fun i hi => ?_)
  · exact lesA
  conv => arg 4; cbv
  repeat' first
    | (refine Sat.cmp (fun h => ?_) (fun h => ?_) <;> simp only [Cmp.holds] at h <;> (conv => arg 4; cbv))
    | (refine Sat.need ndA ?_; conv => arg 4; cbv)
    | (refine Sat.idxk (by assumption) ?_; conv => arg 4; cbv) | (refine Sat.idx ndA (fun v_ hv_ => ?_); conv => arg 4; cbv)
    | (refine Sat.callb (w_impl_within _ _ _) rfl ledA (fun h => ?_) (fun h => ?_) <;> (try simp only [decide_eq_true_eq, decide_eq_false_iff_not] at h) <;> (conv => arg 4; cbv))
    | (refine Sat.callb (w_impl_IsValidOp (GEntry.Op _)) rfl ledA (fun h => ?_) (fun h => ?_) <;> (conv => arg 4; cbv))
    | (refine Sat.ari64 ndA ndA ?_; conv => arg 4; cbv)
    | (refine Sat.pop ?_; conv => arg 4; cbv)
    | refine Sat.next (i + 1) ?_ ?_ (by (try dsimp only); exact arA)
    | refine Sat.done ?_
  · refine led_bo ?_
    rw [isLog, okLog_bad (i := i) hi.2 (by assumption) (fun q => by have := prevE_pos (l := l) (i := i) hv_ (by exact arA); omega)]; rfl
  · exact lesA
  · have := prevE_pos (l := l) (i := i) hv_ (by exact arA)
    exact ⟨by exact arA, okLog_step hi.2 (by assumption) (by assumption) (by assumption) (by omega)⟩
  · refine led_bo ?_
    rw [isLog, okLog_bad (i := i) hi.2 (by assumption) (fun q => by have := q.2.1; simp_all)]; rfl
  · exact lesA
  · have := prevE_zero (l := l) (i := i) (by exact arA)
    exact ⟨by exact arA, okLog_step hi.2 (by assumption) (by assumption) (by assumption) (by omega)⟩
  · refine led_bo ?_
    rw [isLog, okLog_bad (i := i) hi.2 (by assumption) (fun q => by have := q.2.1; simp_all)]; rfl
  · refine led_bo ?_
    rw [isLog, okLog_bad (i := i) hi.2 (by assumption) (fun q => h q.1)]; rfl
  all_goals
    refine led_bo ?_
    rw [isLog, okLog_end hi.2 (by exact arA), Bool.true_and]
    simp only [ncast] at h
  · exact (decide_eq_true (by omega)).symm
  · exact (decide_eq_false (by omega)).symm

def isTail (f : Int) (l : List GEntry) : Bool := isLog l && decide (l.length ≤ 3) && decide (0 ≤ f ∧ f ≤ 16 - l.length) && decide (f = 0 ∨ l.length = 3)

theorem w_impl_isTail (f : Int) (l : List GEntry) (hb : bEntryS l) : Fn Pr n_impl_isTail [.int .i64 (fun _ => f), .sl 7 eGEntry (fun _ => l)] (.bo (isTail f l)) := by
  refine k_impl_isTail.fn (by kernel_rfl) ?_
  have h0 : l.length * 56 ≤ 140737488351232 := hb
  conv => arg 4; cbv
  repeat' first
    | (refine Sat.cmp (fun h => ?_) (fun h => ?_) <;> simp only [Cmp.holds] at h <;> (conv => arg 4; cbv))
    | (refine Sat.callb (w_impl_IsLog l hb) rfl ledA (fun h => ?_) (fun h => ?_) <;> (try simp only [decide_eq_true_eq, decide_eq_false_iff_not] at h) <;> (conv => arg 4; cbv))
    | (refine Sat.callb (w_impl_within _ _ _) rfl ledA (fun h => ?_) (fun h => ?_) <;> (try simp only [decide_eq_true_eq, decide_eq_false_iff_not] at h) <;> (conv => arg 4; cbv))
    | (refine Sat.need ndA ?_; conv => arg 4; cbv)
    | (refine Sat.idxk (by assumption) ?_; conv => arg 4; cbv) | (refine Sat.idx ndA (fun v_ hv_ => ?_); conv => arg 4; cbv)
    | (refine Sat.ari64 ndA ndA ?_; conv => arg 4; cbv)
    | (refine Sat.pop ?_; conv => arg 4; cbv)
    | refine Sat.done ?_
  all_goals refine led_bo ?_
  all_goals try simp only [ncast] at *
  all_goals simp_all [isTail]
  all_goals omega

theorem w_spec_l15Good (f : Int) (l : List GEntry) (hb : bEntryS l) : Fn Pr n_spec_l15Good [.int .i64 (fun _ => f), .sl 7 eGEntry (fun _ => l)] (.bo (isTail f l)) := by
  refine k_spec_l15Good.fn (by kernel_rfl) ?_
  have h0 : l.length * 56 ≤ 140737488351232 := hb
  conv => arg 4; cbv
  repeat' first
    | (refine Sat.cmp (fun h => ?_) (fun h => ?_) <;> simp only [Cmp.holds] at h <;> (conv => arg 4; cbv))
    | (refine Sat.callb (w_spec_IsLog l hb) rfl ledA (fun h => ?_) (fun h => ?_) <;> (try simp only [decide_eq_true_eq, decide_eq_false_iff_not] at h) <;> (conv => arg 4; cbv))
    | (refine Sat.callb (w_spec_l1In _ _ _) rfl ledA (fun h => ?_) (fun h => ?_) <;> (try simp only [decide_eq_true_eq, decide_eq_false_iff_not] at h) <;> (conv => arg 4; cbv))
    | (refine Sat.need ndA ?_; conv => arg 4; cbv)
    | (refine Sat.idxk (by assumption) ?_; conv => arg 4; cbv) | (refine Sat.idx ndA (fun v_ hv_ => ?_); conv => arg 4; cbv)
    | (refine Sat.ari64 ndA ndA ?_; conv => arg 4; cbv)
    | (refine Sat.pop ?_; conv => arg 4; cbv)
    | refine Sat.done ?_
  all_goals refine led_bo ?_
  all_goals try simp only [ncast] at *
  all_goals simp_all [isTail]
  all_goals omega

def tailCovers (f : Int) (l : List GEntry) (n : Int) : Bool := isTail f l && decide (f ≤ n ∧ n ≤ f + l.length)
theorem isTail_rng {f : Int} {l : List GEntry} (h : isTail f l = true) : 0 ≤ f ∧ f ≤ 16 ∧ l.length ≤ 3 := by simp [isTail] at h; omega

theorem w_impl_TailCovers (f : Int) (l : List GEntry) (n : Int) (hb : bEntryS l) : Fn Pr n_impl_TailCovers [.int .i64 (fun _ => f), .sl 7 eGEntry (fun _ => l), .int .i64 (fun _ => n)] (.bo (tailCovers f l n)) := by
  refine k_impl_TailCovers.fn (by kernel_rfl) ?_
  have h0 : l.length * 56 ≤ 140737488351232 := hb
  conv => arg 4; cbv
  repeat' first
    | (refine Sat.cmp (fun h => ?_) (fun h => ?_) <;> simp only [Cmp.holds] at h <;> (conv => arg 4; cbv))
    | (refine Sat.callb (w_impl_isTail f l hb) rfl ledA (fun h => ?_) (fun h => ?_) <;> (try simp only [decide_eq_true_eq, decide_eq_false_iff_not] at h) <;> (conv => arg 4; cbv))
    | (refine Sat.callb (w_impl_within _ _ _) rfl ledA (fun h => ?_) (fun h => ?_) <;> (try simp only [decide_eq_true_eq, decide_eq_false_iff_not] at h) <;> (conv => arg 4; cbv))
    | (refine Sat.ari64 (by have := isTail_rng (by assumption); (try dsimp only); exact arA) (by have := isTail_rng (by assumption); (try dsimp only); exact arA) ?_; conv => arg 4; cbv)
    | (refine Sat.need ndA ?_; conv => arg 4; cbv)
    | (refine Sat.idxk (by assumption) ?_; conv => arg 4; cbv) | (refine Sat.idx ndA (fun v_ hv_ => ?_); conv => arg 4; cbv)
    | (refine Sat.ari64 ndA ndA ?_; conv => arg 4; cbv)
    | (refine Sat.pop ?_; conv => arg 4; cbv)
    | refine Sat.done ?_
  all_goals refine led_bo ?_
  all_goals try simp only [ncast] at *
  all_goals simp_all [tailCovers]
  all_goals (intros; omega)

def fOp (x : GOp) : Prop := (Lit.int .i64 x.Client).wf = true ∧ (Lit.int .i64 x.Seq).wf = true ∧ (Lit.int .i64 x.Kind).wf = true ∧ (Lit.int .i64 x.Object).wf = true ∧ (Lit.int .i64 x.Old).wf = true ∧ (Lit.int .i64 x.Value).wf = true
def fEntryS (l : List GEntry) : Prop := (l.length ≤ maxLen ∧ l.length * 56 ≤ 140737488351232 ∧ ∀ y ∈ l, ((Lit.int .i64 y.Epoch).wf = true ∧ fOp y.Op))

/-- How many entries at the begin are alike. -/
def cpre : List GEntry → List GEntry → Nat
  | a :: r, b :: q => if a = b then cpre r q + 1 else 0
  | _, _ => 0
theorem cpre_le : ∀ (a b : List GEntry), cpre a b ≤ a.length ∧ cpre a b ≤ b.length
  | [], b => by simp [cpre]
  | a :: r, [] => by simp [cpre]
  | a :: r, b :: q => by
    have := cpre_le r q
    rw [cpre]
    split <;> simp <;> omega
theorem cpre_all : ∀ {a b : List GEntry}, a.length = b.length → (cpre a b = a.length ↔ a = b)
  | [], b, h => by
    cases b with
    | nil => simp [cpre]
    | cons => simp at h
  | a :: r, [], h => by simp at h
  | a :: r, b :: q, h => by
    have := cpre_all (a := r) (b := q) (by simpa using h)
    rw [cpre]
    split
    · rename_i e; subst e; simp [this]
    · rename_i e; simp [e]
theorem cpre_step {a b : List GEntry} {i k : Nat} {x y : GEntry} (h : k = i + cpre (a.drop i) (b.drop i)) (hx : a[i]? = some x) (hy : b[i]? = some y) (e : x = y) : k = i + 1 + cpre (a.drop (i + 1)) (b.drop (i + 1)) := by
  rw [h, drop_get hx, drop_get hy, cpre, if_pos e]; omega
theorem cpre_stop {a b : List GEntry} {i k : Nat} {x y : GEntry} (h : k = i + cpre (a.drop i) (b.drop i)) (hx : a[i]? = some x) (hy : b[i]? = some y) (e : ¬ x = y) : k = i := by
  rw [h, drop_get hx, drop_get hy, cpre, if_neg e]; omega
theorem cpre_end {a b : List GEntry} {i k : Nat} (h : k = i + cpre (a.drop i) (b.drop i)) (hl : a.length ≤ i ∨ b.length ≤ i) : k = i := by
  have := cpre_le (a.drop i) (b.drop i)
  simp only [List.length_drop] at this
  omega
theorem cpre_iff {a b : List GEntry} : a = b ↔ ((a.length : Int) = (b.length : Int) ∧ cpre a b = a.length) := by
  constructor
  · intro h
    exact ⟨by rw [h], (cpre_all (by rw [h])).2 h⟩
  · intro h
    exact (cpre_all (by omega)).1 h.2

theorem w_spec_CommonPrefix (x y : List GEntry) (hb : bEntryS x) (hy : bEntryS y) : Fn Pr n_spec_CommonPrefix [.sl 7 eGEntry (fun _ => x), .sl 7 eGEntry (fun _ => y)] (.int .i64 (fun _ => (cpre x y : Int))) := by
  refine k_spec_CommonPrefix.fn (by kernel_rfl) ?_
  have h0 : x.length * 56 ≤ 140737488351232 := hb
  have h1 : y.length * 56 ≤ 140737488351232 := hy
  conv => arg 4; cbv
  refine Sat.loopP (ι := Nat) (fun i => [(5, .int .i64 (fun _ => (i : Int)))]) (fun i => []) (fun i => (i ≤ x.length ∧ i ≤ y.length) ∧ cpre x y = i + cpre (x.drop i) (y.drop i)) (fun i => x.length - i) 0 ?_ ⟨by omega, by simp⟩ (fun i hi => ?_)
  · exact lesA
  conv => arg 4; cbv
  repeat' first
    | (refine Sat.cmp (fun h => ?_) (fun h => ?_) <;> simp only [Cmp.holds] at h <;> (conv => arg 4; cbv))
    | (refine Sat.need ndA ?_; conv => arg 4; cbv)
    | (refine Sat.idxk (by assumption) ?_; conv => arg 4; cbv) | (refine Sat.idx ndA (fun v_ hv_ => ?_); conv => arg 4; cbv)
    | (refine Sat.ari64 ndA ndA ?_; conv => arg 4; cbv)
    | (refine Sat.pop ?_; conv => arg 4; cbv)
    | refine Sat.next (i + 1) ?_ ?_ (by (try dsimp only); exact arA)
    | refine Sat.done (.int (congrArg Int.ofNat (cpre_stop hi.2 (by assumption) (by assumption) (fun e => by subst e; first | contradiction | (simp_all; done))).symm))
    | refine Sat.done (.int (congrArg Int.ofNat (cpre_end hi.2 (by exact arA)).symm))
  · exact lesA
  · exact ⟨by exact arA, cpre_step hi.2 (by assumption) (by assumption) (by first | assumption | (apply GEntry.ext <;> first | assumption | (apply GOp.ext <;> assumption)))⟩

theorem flat_GEntry (y : GEntry) (j : Nat) (hj : j < 7) : flat (eGEntry y j) = true := by
  match j, hj with
  | 0, _ | 1, _ | 2, _ | 3, _ | 4, _ | 5, _ | 6, _ => rfl
  | j + 7, h => omega

theorem w_slices_Clone_implEntryimplEntry (l : List GEntry) (hb : bEntryS l) : Fn Pr n_slices_Clone_implEntryimplEntry [.sl 7 eGEntry (fun _ => l)] (.sl 7 eGEntry (fun _ => l)) := by
  refine k_slices_Clone_implEntryimplEntry.fn (by kernel_rfl) ?_
  have h0 : l.length * 56 ≤ 140737488351232 := hb
  conv => arg 4; cbv
  repeat' first
    | (refine Sat.cmp (fun h => ?_) (fun h => ?_) <;> simp only [Cmp.holds] at h <;> (conv => arg 4; cbv))
    | (refine Sat.need ⟨fun y _ => flat_GEntry y, by exact arA⟩ ?_; conv => arg 4; cbv)
    | (refine Sat.may (fun h => ?_) ?_ <;> (conv => arg 4; cbv))
    | (refine Sat.need ndA ?_; conv => arg 4; cbv)
    | (refine Sat.idxk (by assumption) ?_; conv => arg 4; cbv) | (refine Sat.idx ndA (fun v_ hv_ => ?_); conv => arg 4; cbv)
    | (refine Sat.ari64 ndA ndA ?_; conv => arg 4; cbv)
    | (refine Sat.pop ?_; conv => arg 4; cbv)
    | refine Sat.done ?_
  all_goals first | exact .nil (by assumption) | exact .sl (by simp)

theorem w_spec_l5Copy (l : List GEntry) (hb : bEntryS l) : Fn Pr n_spec_l5Copy [.sl 7 eGEntry (fun _ => l)] (.sl 7 eGEntry (fun _ => l)) := by
  refine k_spec_l5Copy.fn (by kernel_rfl) ?_
  have h0 : l.length * 56 ≤ 140737488351232 := hb
  conv => arg 4; cbv
  repeat' first
    | (refine Sat.cmp (fun h => ?_) (fun h => ?_) <;> simp only [Cmp.holds] at h <;> (conv => arg 4; cbv))
    | (refine Sat.need ⟨fun y _ => flat_GEntry y, by exact arA⟩ ?_; conv => arg 4; cbv)
    | (refine Sat.may (fun h => ?_) ?_ <;> (conv => arg 4; cbv))
    | (refine Sat.need ndA ?_; conv => arg 4; cbv)
    | (refine Sat.idxk (by assumption) ?_; conv => arg 4; cbv) | (refine Sat.idx ndA (fun v_ hv_ => ?_); conv => arg 4; cbv)
    | (refine Sat.ari64 ndA ndA ?_; conv => arg 4; cbv)
    | (refine Sat.pop ?_; conv => arg 4; cbv)
    | refine Sat.done ?_
  all_goals first | exact .nil (by assumption) | exact .sl (by simp)

theorem w_impl_AppendEntry (l : List GEntry) (e : GEntry) (b : Bool) (hl : l.length ≤ 2000000) (hq : isLog (l ++ [e]) = b) : Fn Pr n_impl_AppendEntry [.sl 7 eGEntry (fun _ => l), aGEntry e] (.tup [.sl 7 eGEntry (fun _ => bif b then l ++ [e] else l), .bo b]) := by
  have hb : bEntryS l := by show l.length * 56 ≤ _; omega
  have hb' : bEntryS (l ++ [e]) := by show (l ++ [e]).length * 56 ≤ _; simp; omega
  refine k_impl_AppendEntry.fn (by kernel_rfl) ?_
  conv => arg 4; cbv
  repeat' first
    | (refine Sat.cmp (fun h => ?_) (fun h => ?_) <;> simp only [Cmp.holds] at h <;> (conv => arg 4; cbv))
    | (refine Sat.call (w_slices_Clone_implEntryimplEntry l hb) rfl ledA ?_; conv => arg 4; cbv)
    | (refine Sat.callb (w_impl_IsLog (l ++ [e]) hb') rfl ledA (fun h => ?_) (fun h => ?_) <;> (try simp only [decide_eq_true_eq, decide_eq_false_iff_not] at h) <;> (conv => arg 4; cbv))
    | (refine Sat.need ⟨rfl, rfl, rfl, by exact arA⟩ ?_; conv => arg 4; cbv)
    | (refine Sat.typed e tcA ?_; conv => arg 4; cbv)
    | (refine Sat.need ndA ?_; conv => arg 4; cbv)
    | (refine Sat.idxk (by assumption) ?_; conv => arg 4; cbv) | (refine Sat.idx ndA (fun v_ hv_ => ?_); conv => arg 4; cbv)
    | (refine Sat.ari64 ndA ndA ?_; conv => arg 4; cbv)
    | (refine Sat.pop ?_; conv => arg 4; cbv)
    | refine Sat.done ?_
  all_goals refine .tup rfl (led_cons (.sl ?_) (led_cons (led_bo ?_) led_nil))
  all_goals simp_all

def cutF (l : List GEntry) : Int := if isLog l = true then max 0 ((l.length : Int) - 3) else 0
def cutL (l : List GEntry) : List GEntry := if isLog l = true then l.drop (l.length - 3) else []
theorem cutL_len (l : List GEntry) : (cutL l).length ≤ l.length := by unfold cutL; split <;> simp

theorem w_impl_CutTail (l : List GEntry) (hb : bEntryS l) : Fn Pr n_impl_CutTail [.sl 7 eGEntry (fun _ => l)] (.tup [.int .i64 (fun _ => cutF l), .sl 7 eGEntry (fun _ => cutL l)]) := by
  have h0 : l.length * 56 ≤ 140737488351232 := hb
  have hd : bEntryS (l.drop (max 0 ((l.length : Int) - 3)).toNat) := by show (l.drop _).length * 56 ≤ _; simp; omega
  refine k_impl_CutTail.fn (by kernel_rfl) ?_
  conv => arg 4; cbv
  repeat' first
    | (refine Sat.cmp (fun h => ?_) (fun h => ?_) <;> simp only [Cmp.holds] at h <;> (conv => arg 4; cbv))
    | (refine Sat.callb (w_impl_IsLog l hb) rfl ledA (fun h => ?_) (fun h => ?_) <;> (try simp only [decide_eq_true_eq, decide_eq_false_iff_not] at h) <;> (conv => arg 4; cbv))
    | (refine Sat.call (w_slices_Clone_implEntryimplEntry (l.drop (max 0 ((l.length : Int) - 3)).toNat) hd) rfl ledA ?_; conv => arg 4; cbv)
    | (refine Sat.need ndA ?_; conv => arg 4; cbv)
    | (refine Sat.idxk (by assumption) ?_; conv => arg 4; cbv) | (refine Sat.idx ndA (fun v_ hv_ => ?_); conv => arg 4; cbv)
    | (refine Sat.ari64 ndA ndA ?_; conv => arg 4; cbv)
    | (refine Sat.pop ?_; conv => arg 4; cbv)
    | refine Sat.done ?_
  all_goals refine .tup rfl (led_cons ?_ (led_cons ?_ led_nil))
  all_goals first | refine .int ?_ | refine .sl ?_ | refine .emp ?_
  all_goals simp_all [cutF, cutL]
  all_goals (simp only [ncast] at *; omega)

theorem w_spec_CutTail (l : List GEntry) (hb : bEntryS l) : Fn Pr n_spec_CutTail [.sl 7 eGEntry (fun _ => l)] (.tup [.int .i64 (fun _ => cutF l), .sl 7 eGEntry (fun _ => cutL l)]) := by
  have h0 : l.length * 56 ≤ 140737488351232 := hb
  have hd : bEntryS (l.drop (max 0 ((l.length : Int) - 3)).toNat) := by show (l.drop _).length * 56 ≤ _; simp; omega
  refine k_spec_CutTail.fn (by kernel_rfl) ?_
  conv => arg 4; cbv
  repeat' first
    | (refine Sat.cmp (fun h => ?_) (fun h => ?_) <;> simp only [Cmp.holds] at h <;> (conv => arg 4; cbv))
    | (refine Sat.callb (w_spec_IsLog l hb) rfl ledA (fun h => ?_) (fun h => ?_) <;> (try simp only [decide_eq_true_eq, decide_eq_false_iff_not] at h) <;> (conv => arg 4; cbv))
    | (refine Sat.call (w_spec_l5Copy (l.drop (max 0 ((l.length : Int) - 3)).toNat) hd) rfl ledA ?_; conv => arg 4; cbv)
    | (refine Sat.need ndA ?_; conv => arg 4; cbv)
    | (refine Sat.idxk (by assumption) ?_; conv => arg 4; cbv) | (refine Sat.idx ndA (fun v_ hv_ => ?_); conv => arg 4; cbv)
    | (refine Sat.ari64 ndA ndA ?_; conv => arg 4; cbv)
    | (refine Sat.pop ?_; conv => arg 4; cbv)
    | refine Sat.done ?_
  all_goals refine .tup rfl (led_cons ?_ (led_cons ?_ led_nil))
  all_goals first | refine .int ?_ | refine .sl ?_ | refine .emp ?_
  all_goals simp_all [cutF, cutL]
  all_goals (simp only [ncast] at *; omega)

theorem isLog_pre {l : List GEntry} {e : GEntry} (h : isLog (l ++ [e]) = true) : isLog l = true := by
  have key : ∀ (l : List GEntry) (p : Int), okLogFrom p (l ++ [e]) = true → okLogFrom p l = true := by
    intro l
    induction l with
    | nil => intro p _; rfl
    | cons x r ih =>
      intro p h
      simp only [List.cons_append, okLogFrom, Bool.and_eq_true] at h ⊢
      exact ⟨h.1, ih _ h.2⟩
  simp only [isLog, Bool.and_eq_true, decide_eq_true_eq, List.length_append, List.length_singleton] at h ⊢
  exact ⟨key l 0 h.1, by omega⟩

theorem w_spec_AppendEntry (l : List GEntry) (e : GEntry) (b : Bool) (hl : l.length ≤ 2000000) (hq : isLog (l ++ [e]) = b) : Fn Pr n_spec_AppendEntry [.sl 7 eGEntry (fun _ => l), aGEntry e] (.tup [.sl 7 eGEntry (fun _ => bif b then l ++ [e] else l), .bo b]) := by
  have hb : bEntryS l := by show l.length * 56 ≤ _; omega
  have hb' : bEntryS (l ++ [e]) := by show (l ++ [e]).length * 56 ≤ _; simp; omega
  have hp := isLog_pre (l := l) (e := e)
  refine k_spec_AppendEntry.fn (by kernel_rfl) ?_
  conv => arg 4; cbv
  repeat' first
    | (refine Sat.cmp (fun h => ?_) (fun h => ?_) <;> simp only [Cmp.holds] at h <;> (conv => arg 4; cbv))
    | (refine Sat.call (w_spec_l5Copy l hb) rfl ledA ?_; conv => arg 4; cbv)
    | (refine Sat.callb (w_spec_IsLog l hb) rfl ledA (fun h => ?_) (fun h => ?_) <;> (try simp only [decide_eq_true_eq, decide_eq_false_iff_not] at h) <;> (conv => arg 4; cbv))
    | (refine Sat.callb (w_spec_IsLog (l ++ [e]) hb') rfl ledA (fun h => ?_) (fun h => ?_) <;> (try simp only [decide_eq_true_eq, decide_eq_false_iff_not] at h) <;> (conv => arg 4; cbv))
    | (refine Sat.need ⟨rfl, rfl, rfl, by exact arA⟩ ?_; conv => arg 4; cbv)
    | (refine Sat.typed e tcA ?_; conv => arg 4; cbv)
    | (refine Sat.need ndA ?_; conv => arg 4; cbv)
    | (refine Sat.idxk (by assumption) ?_; conv => arg 4; cbv) | (refine Sat.idx ndA (fun v_ hv_ => ?_); conv => arg 4; cbv)
    | (refine Sat.ari64 ndA ndA ?_; conv => arg 4; cbv)
    | (refine Sat.pop ?_; conv => arg 4; cbv)
    | refine Sat.done ?_
  all_goals refine .tup rfl (led_cons (.sl ?_) (led_cons (led_bo ?_) led_nil))
  all_goals simp_all

theorem w_impl_AppendEntry_t (l : List GEntry) (e : GEntry) (hl : l.length ≤ 2000000) (hq : isLog (l ++ [e]) = true) : Fn Pr n_impl_AppendEntry [.sl 7 eGEntry (fun _ => l), aGEntry e] (.tup [.sl 7 eGEntry (fun _ => l ++ [e]), .bo true]) := w_impl_AppendEntry l e true hl hq
theorem w_impl_AppendEntry_f (l : List GEntry) (e : GEntry) (hl : l.length ≤ 2000000) (hq : isLog (l ++ [e]) = false) : Fn Pr n_impl_AppendEntry [.sl 7 eGEntry (fun _ => l), aGEntry e] (.tup [.sl 7 eGEntry (fun _ => l), .bo false]) := w_impl_AppendEntry l e false hl hq

theorem w_spec_AppendEntry_t (l : List GEntry) (e : GEntry) (hl : l.length ≤ 2000000) (hq : isLog (l ++ [e]) = true) : Fn Pr n_spec_AppendEntry [.sl 7 eGEntry (fun _ => l), aGEntry e] (.tup [.sl 7 eGEntry (fun _ => l ++ [e]), .bo true]) := w_spec_AppendEntry l e true hl hq
theorem w_spec_AppendEntry_f (l : List GEntry) (e : GEntry) (hl : l.length ≤ 2000000) (hq : isLog (l ++ [e]) = false) : Fn Pr n_spec_AppendEntry [.sl 7 eGEntry (fun _ => l), aGEntry e] (.tup [.sl 7 eGEntry (fun _ => l), .bo false]) := w_spec_AppendEntry l e false hl hq

def pushOk (f : Int) (l : List GEntry) (e : GEntry) : Bool := isTail f l && isLog (l ++ [e]) && decide (f + ((l.length : Int) + 1) ≤ 16)
def pushF (b : Bool) (f : Int) (l : List GEntry) : Int := if b = true ∧ 3 < (l.length : Int) + 1 then f + 1 else f
def pushL (b : Bool) (l : List GEntry) (e : GEntry) : List GEntry := if b = true then (if 3 < (l.length : Int) + 1 then (l ++ [e]).drop 1 else l ++ [e]) else l

theorem w_impl_PushTail (f : Int) (l : List GEntry) (e : GEntry) (b : Bool) (hl : l.length ≤ 2000000) (hq : pushOk f l e = b) : Fn Pr n_impl_PushTail [.int .i64 (fun _ => f), .sl 7 eGEntry (fun _ => l), aGEntry e] (.tup [.int .i64 (fun _ => pushF b f l), .sl 7 eGEntry (fun _ => pushL b l e), .bo b]) := by
  have hb : bEntryS l := by show l.length * 56 ≤ _; omega
  cases hi : isLog (l ++ [e])
  all_goals refine k_impl_PushTail.fn (by kernel_rfl) ?_
  all_goals (conv => arg 4; cbv)
  repeat' first
    | (refine Sat.cmp (fun h => ?_) (fun h => ?_) <;> simp only [Cmp.holds] at h <;> (conv => arg 4; cbv))
    | (refine Sat.call (w_impl_AppendEntry_t l e hl hi) rfl ledA ?_; conv => arg 4; cbv)
    | (refine Sat.call (w_impl_AppendEntry_f l e hl hi) rfl ledA ?_; conv => arg 4; cbv)
    | (refine Sat.callb (w_impl_isTail f l hb) rfl ledA (fun h => ?_) (fun h => ?_) <;> (try simp only [decide_eq_true_eq, decide_eq_false_iff_not] at h) <;> (conv => arg 4; cbv))
    | (refine Sat.call (w_slices_Clone_implEntryimplEntry l hb) rfl ledA ?_; conv => arg 4; cbv)
    | (refine Sat.ari64 (by have := isTail_rng (by assumption); (try dsimp only); exact arA) (by have := isTail_rng (by assumption); (try dsimp only); exact arA) ?_; conv => arg 4; cbv)
    | (refine Sat.need ndA ?_; conv => arg 4; cbv)
    | (refine Sat.idxk (by assumption) ?_; conv => arg 4; cbv) | (refine Sat.idx ndA (fun v_ hv_ => ?_); conv => arg 4; cbv)
    | (refine Sat.ari64 ndA ndA ?_; conv => arg 4; cbv)
    | (refine Sat.pop ?_; conv => arg 4; cbv)
    | refine Sat.done ?_
  all_goals refine .tup rfl (led_cons (.int ?_) (led_cons (.sl ?_) (led_cons (led_bo ?_) led_nil)))
  all_goals (try simp only [ncast, cond_true, cond_false, List.length_append, List.length_singleton] at *)
  all_goals first | (subst hq; simp_all [pushOk, pushF, pushL]; done) | (subst hq; simp_all [pushOk, pushF, pushL]; omega) | (subst hq; simp_all [pushOk, pushF, pushL]; intros; omega) | (subst hq; simp_all [pushOk, pushF, pushL]; rw [if_neg (by omega)])

theorem w_spec_PushTail (f : Int) (l : List GEntry) (e : GEntry) (b : Bool) (hl : l.length ≤ 2000000) (hq : pushOk f l e = b) : Fn Pr n_spec_PushTail [.int .i64 (fun _ => f), .sl 7 eGEntry (fun _ => l), aGEntry e] (.tup [.int .i64 (fun _ => pushF b f l), .sl 7 eGEntry (fun _ => pushL b l e), .bo b]) := by
  have hb : bEntryS l := by show l.length * 56 ≤ _; omega
  have hd : bEntryS ((l ++ [e]).drop 1) := by show ((l ++ [e]).drop 1).length * 56 ≤ _; simp; omega
  cases hi : isLog (l ++ [e])
  all_goals refine k_spec_PushTail.fn (by kernel_rfl) ?_
  all_goals (conv => arg 4; cbv)
  repeat' first
    | (refine Sat.cmp (fun h => ?_) (fun h => ?_) <;> simp only [Cmp.holds] at h <;> (conv => arg 4; cbv))
    | (refine Sat.call (w_spec_AppendEntry_t l e hl hi) rfl ledA ?_; conv => arg 4; cbv)
    | (refine Sat.call (w_spec_AppendEntry_f l e hl hi) rfl ledA ?_; conv => arg 4; cbv)
    | (refine Sat.callb (w_spec_l15Good f l hb) rfl ledA (fun h => ?_) (fun h => ?_) <;> (try simp only [decide_eq_true_eq, decide_eq_false_iff_not] at h) <;> (conv => arg 4; cbv))
    | (refine Sat.call (w_spec_l5Copy l hb) rfl ledA ?_; conv => arg 4; cbv)
    | (refine Sat.call (w_spec_l5Copy ((l ++ [e]).drop 1) hd) rfl ledA ?_; conv => arg 4; cbv)
    | (refine Sat.ari64 (by have := isTail_rng (by assumption); (try dsimp only); exact arA) (by have := isTail_rng (by assumption); (try dsimp only); exact arA) ?_; conv => arg 4; cbv)
    | (refine Sat.need ndA ?_; conv => arg 4; cbv)
    | (refine Sat.idxk (by assumption) ?_; conv => arg 4; cbv) | (refine Sat.idx ndA (fun v_ hv_ => ?_); conv => arg 4; cbv)
    | (refine Sat.ari64 ndA ndA ?_; conv => arg 4; cbv)
    | (refine Sat.pop ?_; conv => arg 4; cbv)
    | refine Sat.done ?_
  all_goals refine .tup rfl (led_cons (.int ?_) (led_cons (.sl ?_) (led_cons (led_bo ?_) led_nil)))
  all_goals (try simp only [ncast, cond_true, cond_false, List.length_append, List.length_singleton] at *)
  all_goals first | (subst hq; simp_all [pushOk, pushF, pushL]; done) | (subst hq; simp_all [pushOk, pushF, pushL]; omega) | (subst hq; simp_all [pushOk, pushF, pushL]; intros; omega) | (subst hq; simp_all [pushOk, pushF, pushL]; rw [if_neg (by omega)])

def fEntry (x : GEntry) : Prop := (Lit.int .i64 x.Epoch).wf = true ∧ fOp x.Op
theorem pushL_len {b : Bool} {l : List GEntry} {e : GEntry} : (pushL b l e).length ≤ l.length + 1 := by unfold pushL; split <;> (try split) <;> simp

theorem lsl2 {α : Type} {enc : α → Nat → AV} {a b : AV} {x y : α} (h : LeD a (enc x 0)) (h' : LeD b (enc y 0)) : LeD (.lsl [a, b]) (.sl 1 enc (fun _ => [x, y])) := .lsl1 rfl (fun i u v hu hv => by
  match i with
  | 0 => simp at hu hv; subst hu hv; exact h
  | 1 => simp at hu hv; subst hu hv; exact h'
  | i + 2 => simp at hu)

theorem w_slices_Grow_implEntryimplEntry (n : Int) (hn : 0 ≤ n ∧ n ≤ 2200000) : Fn Pr n_slices_Grow_implEntryimplEntry [.nil, .int .i64 (fun _ => n)] (.sl 7 eGEntry (fun _ => [])) := by
  refine k_slices_Grow_implEntryimplEntry.fn (by kernel_rfl) ?_
  conv => arg 4; cbv
  repeat' first
    | (refine Sat.cmp (fun h => ?_) (fun h => ?_) <;> simp only [Cmp.holds] at h <;> (conv => arg 4; cbv))
    | (refine Sat.typ eGEntry ⟨0, ⟨0, 0, 0, 0, 0, 0⟩⟩ tcA ?_; conv => arg 4; cbv)
    | (refine Sat.need ndA ?_; conv => arg 4; cbv)
    | (refine Sat.idxk (by assumption) ?_; conv => arg 4; cbv) | (refine Sat.idx ndA (fun v_ hv_ => ?_); conv => arg 4; cbv)
    | (refine Sat.ari64 ndA ndA ?_; conv => arg 4; cbv)
    | (refine Sat.pop ?_; conv => arg 4; cbv)
    | refine Sat.done ?_
  all_goals first | exact .nil rfl | exact .sl (by simp) | (exfalso; omega)

theorem flat_take_len {α : Type} : ∀ {ls : List (List α)} {i : Nat}, (ls.take i).flatten.length ≤ ls.flatten.length
  | [], i => by simp
  | l :: r, 0 => by simp
  | l :: r, i + 1 => by
    have := flat_take_len (ls := r) (i := i)
    simp only [List.take_succ_cons, List.flatten_cons, List.length_append]
    omega
theorem flat_take_succ {α : Type} {ls : List (List α)} {i : Nat} {l : List α} (h : ls[i]? = some l) : (ls.take (i + 1)).flatten = (ls.take i).flatten ++ l := by
  rw [List.take_add_one, h]
  simp

set_option maxHeartbeats 1000000 in
theorem w_slices_Concat_implEntryimplEntry (ls : List (List GEntry)) (h1 : ls.length ≤ 1000) (h3 : ls.flatten.length ≤ 2100000) : Fn Pr n_slices_Concat_implEntryimplEntry [.sl 1 (encL 7 eGEntry) (fun _ => ls)] (.sl 7 eGEntry (fun _ => ls.flatten)) := by
  have hf := fun i => flat_take_len (ls := ls) (i := i)
  refine k_slices_Concat_implEntryimplEntry.fn (by kernel_rfl) ?_
  conv => arg 4; cbv
  refine Sat.loopP (ι := Nat) (fun i => [(11, .int .i64 (fun _ => (i : Int))), (3, .int .i64 (fun _ => ((ls.take i).flatten.length : Int)))]) (fun i => []) (fun i => i ≤ ls.length) (fun i => ls.length - i) 0 ?_ (by omega) (fun i hi => ?_)
  · refine les_of ?_ ?_ rfl
    iterate 2 (focus repeat' (first | exact trivial | refine And.intro ?_ ?_ | exact levA | refine lev_cons ?_ ?_ | refine LeV.agg rfl ?_ | exact Nat.le_of_ble_eq_true rfl | exact Or.inl ⟨_, rfl, .row rfl⟩ | refine Or.inl ⟨_, rfl, .row ?_⟩ | refine Or.inl ⟨_, rfl, .lit rfl ?_⟩ | exact Or.inr ⟨rfl, rfl⟩ | (exact .int (by simp))))
  conv => arg 4; cbv
  repeat' first
    | (refine Sat.cmp (fun h => ?_) (fun h => ?_) <;> simp only [Cmp.holds] at h <;> (conv => arg 4; cbv))
    | (refine Sat.need ndA ?_; conv => arg 4; cbv)
    | (refine Sat.idxk (by assumption) ?_; conv => arg 4; cbv) | (refine Sat.idx ndA (fun v_ hv_ => ?_); conv => arg 4; cbv)
    | (refine Sat.ari64 (by have := hf i; have := hf (i + 1); have q := congrArg List.length (flat_take_succ (i := i) hv_); rw [List.length_append] at q; (try dsimp only); exact arA) (by have := hf i; have := hf (i + 1); have q := congrArg List.length (flat_take_succ (i := i) hv_); rw [List.length_append] at q; (try dsimp only); exact arA) ?_; conv => arg 4; cbv)
    | (refine Sat.ari64 ndA ndA ?_; conv => arg 4; cbv)
    | refine Sat.next (i + 1) ?_ ?_ (by (try dsimp only); exact arA)
    | (refine Sat.pop ?_; conv => arg 4; cbv)
  · exfalso; exact arA
  · refine les_of ?_ ?_ rfl
    iterate 2 (focus repeat' (first | exact trivial | refine And.intro ?_ ?_ | exact levA | refine lev_cons ?_ ?_ | refine LeV.agg rfl ?_ | exact Nat.le_of_ble_eq_true rfl | exact Or.inl ⟨_, rfl, .row rfl⟩ | refine Or.inl ⟨_, rfl, .row ?_⟩ | refine Or.inl ⟨_, rfl, .lit rfl ?_⟩ | exact Or.inr ⟨rfl, rfl⟩ | (exact .int (by have q := congrArg List.length (flat_take_succ (i := i) hv_); rw [List.length_append] at q; (try dsimp only); exact arA))))
  · exact arA
  have e1 : i = ls.length := by exact arA
  subst e1
  refine Sat.call (w_slices_Grow_implEntryimplEntry (((ls.take ls.length).flatten.length : Nat) : Int) (by have := hf ls.length; omega)) rfl ledA ?_
  conv => arg 4; cbv
  refine Sat.loopP (ι := Nat) (fun j => [(27, .int .i64 (fun _ => (j : Int))), (6, .ref 112 (fun _ => 0) (fun _ => (ls.take j).flatten.length))]) (fun j => [(112, .row 7 eGEntry (fun _ => (ls.take j).flatten) false)]) (fun j => j ≤ ls.length) (fun j => ls.length - j) 0 ?_ (by omega) (fun j hj => ?_)
  · refine les_of ?_ ?_ rfl
    iterate 2 (focus repeat' (first | exact trivial | refine And.intro ?_ ?_ | exact levA | refine lev_cons ?_ ?_ | refine LeV.agg rfl ?_ | exact Nat.le_of_ble_eq_true rfl | exact Or.inl ⟨_, rfl, .row rfl⟩ | refine Or.inl ⟨_, rfl, .row ?_⟩ | refine Or.inl ⟨_, rfl, .lit rfl ?_⟩ | exact Or.inr ⟨rfl, rfl⟩ | (first | exact .ref (fun h => nomatch h) (fun h => nomatch h) rfl rfl | (simp; done))))
  conv => arg 4; cbv
  repeat' first
    | (refine Sat.cmp (fun h => ?_) (fun h => ?_) <;> simp only [Cmp.holds] at h <;> (conv => arg 4; cbv))
    | (refine Sat.need ⟨rfl, fun y _ => flat_GEntry y, by have := hf j; have := hf (j + 1); have q := congrArg List.length (flat_take_succ (i := j) hv_); rw [List.length_append] at q; (try dsimp only); exact arA⟩ ?_; conv => arg 4; cbv)
    | (refine Sat.need ndA ?_; conv => arg 4; cbv)
    | (refine Sat.idxk (by assumption) ?_; conv => arg 4; cbv) | (refine Sat.idx ndA (fun v_ hv_ => ?_); conv => arg 4; cbv)
    | (refine Sat.same ?_; conv => arg 4; cbv)
    | (refine Sat.ari64 ndA ndA ?_; conv => arg 4; cbv)
    | refine Sat.next (j + 1) ?_ ?_ (by (try dsimp only); exact arA)
    | (refine Sat.pop ?_; conv => arg 4; cbv)
    | refine Sat.done ?_
  · have q := flat_take_succ (i := j) hv_
    refine les_of ?_ ?_ rfl
    iterate 2 (focus repeat' (first | exact trivial | refine And.intro ?_ ?_ | exact levA | refine lev_cons ?_ ?_ | refine LeV.agg rfl ?_ | exact Nat.le_of_ble_eq_true rfl | exact Or.inl ⟨_, rfl, .row rfl⟩ | refine Or.inl ⟨_, rfl, .row ?_⟩ | refine Or.inl ⟨_, rfl, .lit rfl ?_⟩ | exact Or.inr ⟨rfl, rfl⟩ | (first | exact .ref (fun h => nomatch h) (fun h => nomatch h) rfl (by rw [q, List.length_append]) | (rw [q]; simp; done))))
  · exact arA
  · refine .sl ?_
    have e1 : j = ls.length := by exact arA
    subst e1
    simp

theorem cpre_min : ∀ {a b : List GEntry}, cpre a b = min a.length b.length ↔ a.take (min a.length b.length) = b.take (min a.length b.length)
  | [], b => by simp [cpre]
  | a :: r, [] => by simp [cpre]
  | a :: r, b :: q => by
    have h := cpre_min (a := r) (b := q)
    have h2 := cpre_le r q
    have e : min (a :: r).length (b :: q).length = min r.length q.length + 1 := by simp only [List.length_cons]; omega
    rw [e, cpre, List.take_succ_cons, List.take_succ_cons, List.cons.injEq, ← h]
    by_cases ea : a = b
    · rw [if_pos ea]
      constructor
      · intro hh; exact ⟨ea, by omega⟩
      · intro hh; omega
    · rw [if_neg ea]
      constructor
      · intro hh; omega
      · intro hh; exact absurd hh.1 ea

def both (f : Int) (a l : List GEntry) : Nat := min (a.drop f.toNat).length l.length
def joinL (f : Int) (a l : List GEntry) : List GEntry := a ++ l.drop (both f a l)
def joinOk (f : Int) (a l : List GEntry) : Bool := isLog a && isTail f l && decide (f ≤ a.length) && decide (cpre (a.drop f.toNat) l = both f a l) && isLog (joinL f a l)
theorem joinL_len {f : Int} {a l : List GEntry} : (joinL f a l).length ≤ a.length + l.length := by unfold joinL; simp

theorem joinOk_iff {f : Int} {a l : List GEntry} : joinOk f a l = true ↔ isLog a = true ∧ isTail f l = true ∧ f ≤ a.length ∧ cpre (a.drop f.toNat) l = both f a l ∧ isLog (joinL f a l) = true := by
  simp only [joinOk, Bool.and_eq_true, decide_eq_true_eq]
  constructor
  · rintro ⟨⟨⟨⟨h1, h2⟩, h3⟩, h4⟩, h5⟩; exact ⟨h1, h2, h3, h4, h5⟩
  · rintro ⟨h1, h2, h3, h4, h5⟩; exact ⟨⟨⟨⟨h1, h2⟩, h3⟩, h4⟩, h5⟩
theorem both_int {f : Int} {a l : List GEntry} (h1 : 0 ≤ f) (h2 : f ≤ a.length) : (min (l.length : Int) (a.length - f)).toNat = both f a l := by simp only [both, List.length_drop]; omega
theorem both_eq {f : Int} {a l : List GEntry} : (a.drop f.toNat).take (both f a l) = l.take (both f a l) ↔ cpre (a.drop f.toNat) l = both f a l := by
  unfold both
  exact cpre_min.symm
/-- How the two ends are shown. -/
theorem join_led {f : Int} {a l : List GEntry} {x : AV} {b : Bool} (hb : b = joinOk f a l) (h : LeD x (.sl 7 eGEntry (fun _ => if b = true then joinL f a l else []))) : LeD (.tup [x, .bo b]) (.tup [.sl 7 eGEntry (fun _ => if joinOk f a l = true then joinL f a l else []), .bo (joinOk f a l)]) := by
  subst hb
  exact .tup rfl (led_cons h (led_cons (.same _) led_nil))

set_option maxHeartbeats 1000000 in
theorem w_impl_JoinTail (a : List GEntry) (f : Int) (l : List GEntry) (ha : a.length ≤ 1048576) (hl : l.length ≤ 1048576) : Fn Pr n_impl_JoinTail [.sl 7 eGEntry (fun _ => a), .int .i64 (fun _ => f), .sl 7 eGEntry (fun _ => l)] (.tup [.sl 7 eGEntry (fun _ => if joinOk f a l = true then joinL f a l else []), .bo (joinOk f a l)]) := by
  have hba : bEntryS a := by show a.length * 56 ≤ _; omega
  have hbl : bEntryS l := by show l.length * 56 ≤ _; omega
  have hj := joinL_len (f := f) (a := a) (l := l)
  have hbj : bEntryS (joinL f a l) := by show (joinL f a l).length * 56 ≤ _; omega
  have hbx : bEntryS ((a.drop f.toNat).take (both f a l)) := by show ((a.drop f.toNat).take (both f a l)).length * 56 ≤ _; simp; omega
  have hfl : [a, l.drop (both f a l)].flatten = joinL f a l := by simp [joinL]
  have HC := w_slices_Concat_implEntryimplEntry [a, l.drop (both f a l)] (by simp) (by rw [hfl]; omega)
  rw [hfl] at HC
  have hq := both_int (f := f) (a := a) (l := l)
  have hbe := both_eq (f := f) (a := a) (l := l)
  have hbl2 : both f a l ≤ l.length := by unfold both; omega
  refine k_impl_JoinTail.fn (by kernel_rfl) ?_
  conv => arg 4; cbv
  repeat' first
    | (refine Sat.cmp (fun h => ?_) (fun h => ?_) <;> simp only [Cmp.holds] at h <;> (conv => arg 4; cbv))
    | (refine Sat.callb (w_impl_IsLog a hba) rfl ledA (fun h => ?_) (fun h => ?_) <;> (try simp only [decide_eq_true_eq, decide_eq_false_iff_not] at h) <;> (conv => arg 4; cbv))
    | (refine Sat.callb (w_impl_isTail f l hbl) rfl ledA (fun h => ?_) (fun h => ?_) <;> (try simp only [decide_eq_true_eq, decide_eq_false_iff_not] at h) <;> (conv => arg 4; cbv))
    | (refine Sat.callb (w_impl_IsLog (joinL f a l) hbj) rfl ledA (fun h => ?_) (fun h => ?_) <;> (try simp only [decide_eq_true_eq, decide_eq_false_iff_not] at h) <;> (conv => arg 4; cbv))
    | (refine Sat.need (by have := isTail_rng (by assumption); (try dsimp only); exact arA) ?_; conv => arg 4; cbv)
    | (refine Sat.ari64 (by have := isTail_rng (by assumption); (try dsimp only); exact arA) (by have := isTail_rng (by assumption); (try dsimp only); exact arA) ?_; conv => arg 4; cbv)
    | (refine Sat.call HC rfl (led_cons (lsl2 (.sl rfl) (.sl (by have := isTail_rng (by assumption); have q := hq this.1 (by exact arA); (try dsimp only); simp only [ncast] at *; rw [q]; simp))) led_nil) ?_; conv => arg 4; cbv)
    | (refine Sat.callb (w_slices_Equal_implEntryimplEntry ((a.drop f.toNat).take (both f a l)) (l.take (both f a l)) hbx) rfl (led_cons (.sl (by have := isTail_rng (by assumption); have q := hq this.1 (by exact arA); (try dsimp only); simp only [ncast] at *; congr 1; omega)) (led_cons (.sl (by have := isTail_rng (by assumption); have q := hq this.1 (by exact arA); (try dsimp only); simp only [ncast] at *; rw [q]; rfl)) led_nil)) (fun h => ?_) (fun h => ?_) <;> (try simp only [hbe, decide_eq_true_eq, decide_eq_false_iff_not] at h) <;> (conv => arg 4; cbv))
    | (refine Sat.need ndA ?_; conv => arg 4; cbv)
    | (refine Sat.idxk (by assumption) ?_; conv => arg 4; cbv) | (refine Sat.idx ndA (fun v_ hv_ => ?_); conv => arg 4; cbv)
    | (refine Sat.ari64 ndA ndA ?_; conv => arg 4; cbv)
    | (refine Sat.pop ?_; conv => arg 4; cbv)
    | refine Sat.done ?_
  all_goals refine join_led ?_ ?_
  all_goals first
    | exact .nil rfl
    | exact .sl (by simp)
    | (symm; rw [Bool.eq_false_iff]; intro hh; have := joinOk_iff.1 hh; (try simp only [ncast] at *); simp_all; done)
    | (symm; rw [Bool.eq_false_iff]; intro hh; have := joinOk_iff.1 hh; (try simp only [ncast] at *); omega)
    | (symm; exact joinOk_iff.2 ⟨by assumption, by assumption, by exact arA, by assumption, by assumption⟩)

set_option maxHeartbeats 1000000 in
theorem w_spec_JoinTail (a : List GEntry) (f : Int) (l : List GEntry) (ha : a.length ≤ 1048576) (hl : l.length ≤ 1048576) : Fn Pr n_spec_JoinTail [.sl 7 eGEntry (fun _ => a), .int .i64 (fun _ => f), .sl 7 eGEntry (fun _ => l)] (.tup [.sl 7 eGEntry (fun _ => if joinOk f a l = true then joinL f a l else []), .bo (joinOk f a l)]) := by
  have hba : bEntryS a := by show a.length * 56 ≤ _; omega
  have hbl : bEntryS l := by show l.length * 56 ≤ _; omega
  have hj := joinL_len (f := f) (a := a) (l := l)
  have hbj : bEntryS (joinL f a l) := by show (joinL f a l).length * 56 ≤ _; omega
  have hbx : bEntryS (a.drop f.toNat) := by show (a.drop f.toNat).length * 56 ≤ _; simp; omega
  have hq := both_int (f := f) (a := a) (l := l)
  have hcp := cpre_le (a.drop f.toNat) l
  have hbb : both f a l = min (a.length - f.toNat) l.length := by simp [both]
  have hjl : cpre (a.drop f.toNat) l = both f a l → a ++ l.drop (cpre (a.drop f.toNat) l) = joinL f a l := fun h => by rw [joinL, h]
  refine k_spec_JoinTail.fn (by kernel_rfl) ?_
  have hpx := joinOk_iff (f := f) (a := a) (l := l)
  have hbk : bEntryS (a ++ l.drop (cpre (a.drop f.toNat) l)) := by show (a ++ l.drop (cpre (a.drop f.toNat) l)).length * 56 ≤ _; simp; omega
  conv => arg 4; cbv
  repeat' first
    | (refine Sat.cmp (fun h => ?_) (fun h => ?_) <;> simp only [Cmp.holds] at h <;> (conv => arg 4; cbv))
    | (refine Sat.callb (w_spec_IsLog a hba) rfl ledA (fun h => ?_) (fun h => ?_) <;> (try simp only [decide_eq_true_eq, decide_eq_false_iff_not] at h) <;> (conv => arg 4; cbv))
    | (refine Sat.callb (w_spec_l15Good f l hbl) rfl ledA (fun h => ?_) (fun h => ?_) <;> (try simp only [decide_eq_true_eq, decide_eq_false_iff_not] at h) <;> (conv => arg 4; cbv))
    | (refine Sat.call (w_spec_l5Copy a hba) rfl ledA ?_; conv => arg 4; cbv)
    | (refine Sat.call (w_spec_CommonPrefix (a.drop f.toNat) l hbx hbl) rfl ledA ?_; conv => arg 4; cbv)
    | (refine Sat.callb (w_spec_IsLog (a ++ l.drop (cpre (a.drop f.toNat) l)) hbk) rfl ledA (fun h => ?_) (fun h => ?_) <;> (try simp only [decide_eq_true_eq, decide_eq_false_iff_not] at h) <;> (conv => arg 4; cbv))
    | (refine Sat.need (by have := isTail_rng (by assumption); (try dsimp only); exact arA) ?_; conv => arg 4; cbv)
    | (refine Sat.ari64 (by have := isTail_rng (by assumption); (try dsimp only); exact arA) (by have := isTail_rng (by assumption); (try dsimp only); exact arA) ?_; conv => arg 4; cbv)
    | (refine Sat.need ⟨rfl, fun y _ => flat_GEntry y, by (try dsimp only); simp only [List.length_take, List.length_drop]; exact arA⟩ ?_; conv => arg 4; cbv)
    | (refine Sat.same ?_; conv => arg 4; cbv)
    | (refine Sat.need ndA ?_; conv => arg 4; cbv)
    | (refine Sat.idxk (by assumption) ?_; conv => arg 4; cbv) | (refine Sat.idx ndA (fun v_ hv_ => ?_); conv => arg 4; cbv)
    | (refine Sat.ari64 ndA ndA ?_; conv => arg 4; cbv)
    | (refine Sat.pop ?_; conv => arg 4; cbv)
    | refine Sat.done ?_
  all_goals try refine join_led ?_ ?_
  all_goals first
    | exact .emp rfl
    | (symm; rw [Bool.eq_false_iff]; intro hh; have := joinOk_iff.1 hh; (try simp only [ncast] at *); simp_all; done)
    | (symm; rw [Bool.eq_false_iff]; intro hh; have := joinOk_iff.1 hh; (try simp only [ncast] at *); omega)
    | (have h5 := isTail_rng (f := f) (l := l) (by assumption)
       symm; rw [Bool.eq_false_iff]; intro hh; have := joinOk_iff.1 hh; (try simp only [ncast] at *); omega)
    | (have h5 := isTail_rng (f := f) (l := l) (by assumption)
       rw [List.length_drop] at hcp
       have e : cpre (a.drop f.toNat) l = both f a l := by (try simp only [ncast] at *); omega
       rw [hjl e] at *
       first
         | exact (joinOk_iff.2 ⟨by assumption, by assumption, by exact arA, e, by assumption⟩).symm
         | (symm; rw [Bool.eq_false_iff]; intro hh; have := joinOk_iff.1 hh; simp_all; done))
    | (have h5 := isTail_rng (f := f) (l := l) (by assumption)
       rw [List.length_drop] at hcp
       have e : cpre (a.drop f.toNat) l = both f a l := by (try simp only [ncast] at *); omega
       refine .sl ?_
       show _ = (if true = true then joinL f a l else [])
       rw [if_pos rfl, ← hjl e]
       simp)

theorem w_spec_l1New (code : List Int) (hc : code.length ≤ 1048576) : FnN Pr n_spec_l1New [.sl 1 (encI .u8) (fun _ => code)] (fun cs => ∃ i h : Int, (0 ≤ i ∧ i ≤ (code.length : Int)) ∧ cs = curA code i h) := by
  refine k_spec_l1New.fnn (by kernel_rfl) ?_
  conv => arg 4; cbv
  repeat' first
    | (refine Sat.ari64 ndA ndA ?_; conv => arg 4; cbv)
    | (refine Sat.cmp (fun h => ?_) (fun h => ?_) <;> simp only [Cmp.holds] at h <;> (conv => arg 4; cbv))
  refine Sat.loopP (ι := Nat × Int) (fun p => [(3, .int .i64 (fun _ => p.2)), (4, .int .i64 (fun _ => (p.1 : Int)))]) (fun p => []) (fun p => p.1 ≤ code.length) (fun p => code.length - p.1) (0, 10101 + (code.length : Int)) ?_ (by simp) (fun p hp => ?_)
  · exact lesA
  conv => arg 4; cbv
  repeat' first
    | (refine Sat.cmp (fun h => ?_) (fun h => ?_) <;> simp only [Cmp.holds] at h <;> (conv => arg 4; cbv))
    | (refine Sat.need ndA ?_; conv => arg 4; cbv)
    | (refine Sat.idxk (by assumption) ?_; conv => arg 4; cbv) | (refine Sat.idx ndA (fun v_ hv_ => ?_); conv => arg 4; cbv)
    | (refine Sat.ari64 ndA ndA ?_; conv => arg 4; cbv)
    | (refine Sat.pop ?_; conv => arg 4; cbv)
    | (refine Sat.ariw ?_; conv => arg 4; cbv)
  · generalize bitI BinOp.and IntKind.i64 _ _ = z
    refine Sat.next (p.1 + 1, z) ?_ (by exact arA) (by exact arA)
    exact lesA
  all_goals exact Sat.done ⟨curA code 0 p.2, ⟨0, p.2, ⟨by omega, by omega⟩, rfl⟩, .same _⟩

def isInt (lo hi : Int) : AV → Prop := fun r => ∃ v : Int, r = .int .i64 (fun _ => v) ∧ lo ≤ v ∧ v ≤ hi
theorem w_spec_l1Byte (code : List Int) (hc : code.length ≤ 1048576) (i h : Int) (hi : 0 ≤ i ∧ i ≤ (code.length : Int)) : FnP Pr n_spec_l1Byte [.ptr 0 0] [curA code i h] (Dr code (isInt 0 255)) := by
  refine k_spec_l1Byte.fnp (by kernel_rfl) ?_
  conv => arg 4; cbv
  repeat' first
    | (refine Sat.cmp (fun h => ?_) (fun h => ?_) <;> simp only [Cmp.holds] at h <;> (conv => arg 4; cbv))
    | (refine Sat.need ndA ?_; conv => arg 4; cbv)
    | (refine Sat.idxk (by assumption) ?_; conv => arg 4; cbv) | (refine Sat.idx ndA (fun v_ hv_ => ?_); conv => arg 4; cbv)
    | (refine Sat.ari64 ndA ndA ?_; conv => arg 4; cbv)
    | (refine Sat.pop ?_; conv => arg 4; cbv)
    | (refine Sat.ariw ?_; conv => arg 4; cbv)
  all_goals generalize hz : bitI BinOp.and IntKind.i64 _ _ = z
  all_goals have hb : 0 ≤ z ∧ z ≤ 255 := by rw [← hz]; exact and_le (m := 255) (by omega)
  · have hi2 : 0 ≤ i + 1 ∧ i + 1 ≤ (code.length : Int) := ⟨by omega, by (simp only [ncast] at *; omega)⟩
    exact Sat.done (dr_end (ret := .int .i64 (fun _ => z)) ⟨z, rfl, hb.1, hb.2⟩ (.int rfl) hi2 rfl)
  · exact Sat.done (dr_end (ret := .int .i64 (fun _ => z)) ⟨z, rfl, hb.1, hb.2⟩ (.int rfl) hi rfl)

theorem w_spec_l1Below (code : List Int) (hc : code.length ≤ 1048576) (n : Int) (i h : Int) (hi : 0 ≤ i ∧ i ≤ (code.length : Int)) : FnP Pr n_spec_l1Below [.ptr 0 0, .int .i64 (fun _ => n)] [curA code i h] (Dr code (isInt 0 (max 0 (n - 1)))) := by
  refine k_spec_l1Below.fnp (by kernel_rfl) ?_
  conv => arg 4; cbv
  repeat' first
    | (refine Sat.cmp (fun h => ?_) (fun h => ?_) <;> simp only [Cmp.holds] at h <;> (conv => arg 4; cbv))
    | (refine Sat.need ndA ?_; conv => arg 4; cbv)
    | (refine Sat.draw (w_spec_l1Byte code hc) (by (try dsimp only); omega) (fun ret i' h' hi' hR => ?_); obtain ⟨v, rfl, hv0, hv1⟩ := hR; conv => arg 4; cbv)
    | (refine Sat.ari64 ndA ndA ?_; conv => arg 4; cbv)
    | (refine Sat.pop ?_; conv => arg 4; cbv)
  · exact Sat.done (dr_end (ret := .int .i64 (fun _ => 0)) ⟨0, rfl, by omega, by omega⟩ (.int rfl) hi rfl)
  · have h1 := Int.tmod_nonneg n hv0
    have h2 := Int.tmod_lt_of_pos v (show 0 < n by omega)
    exact Sat.done (dr_end (ret := .int .i64 (fun _ => v.tmod n)) ⟨_, rfl, by omega, by omega⟩ (.int rfl) hi' rfl)
  · rename_i i1 k1 hi1 v1 a1 b1 i2 k2 hi2 v2 a2 b2 i3 k3 hi3 v3 a3 b3
    have h1 := Int.tmod_nonneg n (show 0 ≤ v1 * 16777216 + v2 * 65536 + v3 * 256 + v by omega)
    have h2 := Int.tmod_lt_of_pos (v1 * 16777216 + v2 * 65536 + v3 * 256 + v) (show 0 < n by omega)
    exact Sat.done (dr_end (ret := .int .i64 (fun _ => (v1 * 16777216 + v2 * 65536 + v3 * 256 + v).tmod n)) ⟨_, rfl, by omega, by omega⟩ (.int rfl) hi' rfl)

def isB : AV → Prop := fun r => ∃ b : Bool, r = .bo b
theorem w_spec_l1Once (code : List Int) (hc : code.length ≤ 1048576) (n : Int) (i h : Int) (hi : 0 ≤ i ∧ i ≤ (code.length : Int)) : FnP Pr n_spec_l1Once [.ptr 0 0, .int .i64 (fun _ => n)] [curA code i h] (Dr code isB) := by
  refine k_spec_l1Once.fnp (by kernel_rfl) ?_
  conv => arg 4; cbv
  repeat' first
    | (refine Sat.cmp (fun h => ?_) (fun h => ?_) <;> simp only [Cmp.holds] at h <;> (conv => arg 4; cbv))
    | (refine Sat.need ndA ?_; conv => arg 4; cbv)
    | (refine Sat.draw (w_spec_l1Below code hc n) (by (try dsimp only); omega) (fun ret i' h' hi' hR => ?_); obtain ⟨v, rfl, hv0, hv1⟩ := hR; conv => arg 4; cbv)
    | (refine Sat.ari64 ndA ndA ?_; conv => arg 4; cbv)
    | (refine Sat.pop ?_; conv => arg 4; cbv)
  · exact Sat.done (dr_end (ret := .bo true) ⟨_, rfl⟩ (.same _) hi' rfl)
  · exact Sat.done (dr_end (ret := .bo false) ⟨_, rfl⟩ (.same _) hi' rfl)

def isAny : AV → Prop := fun r => ∃ v : Int, r = .int .i64 (fun _ => v)
theorem w_spec_l1PickInt (code : List Int) (hc : code.length ≤ 1048576) (l : List Int) (hl : 1 ≤ l.length) (hm : l.length ≤ 1000000) (i h : Int) (hi : 0 ≤ i ∧ i ≤ (code.length : Int)) : FnP Pr n_spec_l1PickInt [.ptr 0 0, .sl 1 (encI .i64) (fun _ => l)] [curA code i h] (Dr code isAny) := by
  refine k_spec_l1PickInt.fnp (by kernel_rfl) ?_
  conv => arg 4; cbv
  repeat' first
    | (refine Sat.cmp (fun h => ?_) (fun h => ?_) <;> simp only [Cmp.holds] at h <;> (conv => arg 4; cbv))
    | (refine Sat.need ndA ?_; conv => arg 4; cbv)
    | (refine Sat.draw (w_spec_l1Below code hc (l.length : Int)) (by (try dsimp only); omega) (fun ret i' h' hi' hR => ?_); obtain ⟨v, rfl, hv0, hv1⟩ := hR; conv => arg 4; cbv)
    | (refine Sat.idxk (by assumption) ?_; conv => arg 4; cbv) | (refine Sat.idx ndA (fun v_ hv_ => ?_); conv => arg 4; cbv)
    | (refine Sat.ari64 ndA ndA ?_; conv => arg 4; cbv)
    | (refine Sat.pop ?_; conv => arg 4; cbv)
  exact Sat.done (dr_end (ret := .int .i64 (fun _ => v_)) ⟨_, rfl⟩ (.int rfl) hi' rfl)

theorem w_laws_big (code : List Int) (hb : code.length * 1 ≤ 140737488351232) : Fn Pr n_laws_big [.sl 1 (encI .u8) (fun _ => code)] (.bo (decide ((1048576 : Int) < code.length))) := by
  refine k_laws_big.fn (by kernel_rfl) ?_
  conv => arg 4; cbv
  repeat' first
    | (refine Sat.cmp (fun h => ?_) (fun h => ?_) <;> simp only [Cmp.holds] at h <;> (conv => arg 4; cbv))
    | (refine Sat.need ndA ?_; conv => arg 4; cbv)
    | (refine Sat.idxk (by assumption) ?_; conv => arg 4; cbv) | (refine Sat.idx ndA (fun v_ hv_ => ?_); conv => arg 4; cbv)
    | (refine Sat.ari64 ndA ndA ?_; conv => arg 4; cbv)
    | (refine Sat.pop ?_; conv => arg 4; cbv)
    | refine Sat.done ?_
  all_goals refine led_bo ?_
  all_goals (simp only [ncast] at *; simp; omega)

def isOp : AV → Prop := fun r => ∃ o : GOp, r = aGOp o
theorem w_spec_l3Op (code : List Int) (hc : code.length ≤ 1048576) (i h : Int) (hi : 0 ≤ i ∧ i ≤ (code.length : Int)) : FnP Pr n_spec_l3Op [.ptr 0 0] [curA code i h] (Dr code isOp) := by
  refine k_spec_l3Op.fnp (by kernel_rfl) ?_
  conv => arg 4; cbv
  refine Sat.draw (w_spec_l1Below code hc _) hi (fun ret ia ha hia hR => ?_)
  obtain ⟨va, rfl, va0, va1⟩ := hR
  conv => arg 4; cbv
  refine Sat.draw (w_spec_l1Below code hc _) hia (fun ret ib hb hib hR => ?_)
  obtain ⟨vb, rfl, vb0, vb1⟩ := hR
  conv => arg 4; cbv
  (refine Sat.ari64 ndA ndA ?_; conv => arg 4; cbv)
  refine Sat.draw (w_spec_l1Below code hc _) hib (fun ret ic hc hic hR => ?_)
  obtain ⟨vc, rfl, vc0, vc1⟩ := hR
  conv => arg 4; cbv
  refine Sat.draw (w_spec_l1Below code (by assumption) _) hic (fun ret id hd hid hR => ?_)
  obtain ⟨vd, rfl, vd0, vd1⟩ := hR
  conv => arg 4; cbv
  refine Sat.draw (w_spec_l1Once code (by assumption) 3) hid (fun ret ie he hie hR => ?_)
  obtain ⟨b, rfl⟩ := hR
  cases b <;> (conv => arg 4; cbv)
  · exact Sat.done (dr_end (ret := aGOp ⟨va, 1 + vb, 1, vc, 0, vd⟩) ⟨_, rfl⟩ (.same _) hie rfl)
  refine Sat.draw (w_spec_l1PickInt code (by assumption) [0, 0, 1, 5, 9] (by decide) (by decide)) hie (fun ret ig hg hig hR => ?_)
  obtain ⟨u, rfl⟩ := hR
  conv => arg 4; cbv
  exact Sat.done (dr_end (ret := aGOp ⟨va, 1 + vb, 2, vc, u, vd⟩) ⟨_, rfl⟩ (.same _) hig rfl)

theorem w_spec_l3Any (code : List Int) (hc : code.length ≤ 1048576) (i h : Int) (hi : 0 ≤ i ∧ i ≤ (code.length : Int)) : FnP Pr n_spec_l3Any [.ptr 0 0] [curA code i h] (Dr code isOp) := by
  refine k_spec_l3Any.fnp (by kernel_rfl) ?_
  conv => arg 4; cbv
  refine Sat.draw (w_spec_l3Op code hc) hi (fun ret ia ha hia hR => ?_)
  obtain ⟨o, rfl⟩ := hR
  conv => arg 4; cbv
  refine Sat.draw (w_spec_l1Below code hc _) hia (fun ret ib hb hib hR => ?_)
  obtain ⟨vb, rfl, vb0, vb1⟩ := hR
  conv => arg 4; cbv
  repeat' first
    | (refine Sat.cmp (fun h => ?_) (fun h => ?_) <;> simp only [Cmp.holds] at h <;> (conv => arg 4; cbv))
    | (refine Sat.draw (w_spec_l1Below code hc 4) hib (fun ret ic hc hic hR => ?_); obtain ⟨u, rfl, u0, u1⟩ := hR; conv => arg 4; cbv)
    | (refine Sat.draw (w_spec_l1PickInt code hc [-1, 2, 3] (by decide) (by decide)) hib (fun ret ic hc hic hR => ?_); obtain ⟨u, rfl⟩ := hR; conv => arg 4; cbv)
    | (refine Sat.draw (w_spec_l1PickInt code hc [0, 99, 100] (by decide) (by decide)) hib (fun ret ic hc hic hR => ?_); obtain ⟨u, rfl⟩ := hR; conv => arg 4; cbv)
    | (refine Sat.draw (w_spec_l1PickInt code hc [-1, 3] (by decide) (by decide)) hib (fun ret ic hc hic hR => ?_); obtain ⟨u, rfl⟩ := hR; conv => arg 4; cbv)
    | (refine Sat.draw (w_spec_l1PickInt code hc [-1, 9, 10] (by decide) (by decide)) hib (fun ret ic hc hic hR => ?_); obtain ⟨u, rfl⟩ := hR; conv => arg 4; cbv)
    | (refine Sat.draw (w_spec_l1PickInt code hc [-1, 0, 9, 10] (by decide) (by decide)) hib (fun ret ic hc hic hR => ?_); obtain ⟨u, rfl⟩ := hR; conv => arg 4; cbv)
  all_goals first
    | exact Sat.done (dr_end (ret := aGOp o) ⟨_, rfl⟩ (.same _) hib rfl)
    | exact Sat.done (dr_end (ret := aGOp { o with Client := u }) ⟨_, rfl⟩ (.same _) hic rfl)
    | exact Sat.done (dr_end (ret := aGOp { o with Seq := u }) ⟨_, rfl⟩ (.same _) hic rfl)
    | exact Sat.done (dr_end (ret := aGOp { o with Kind := u }) ⟨_, rfl⟩ (.same _) hic rfl)
    | exact Sat.done (dr_end (ret := aGOp { o with Object := u }) ⟨_, rfl⟩ (.same _) hic rfl)
    | exact Sat.done (dr_end (ret := aGOp { o with Value := u }) ⟨_, rfl⟩ (.same _) hic rfl)
    | exact Sat.done (dr_end (ret := aGOp { o with Old := u }) ⟨_, rfl⟩ (.same _) hic rfl)

/-- Entries, at most n. -/
def isEs (n : Nat) : AV → Prop := fun r => ∃ l : List GEntry, r = .sl 7 eGEntry (fun _ => l) ∧ l.length ≤ n
theorem w_spec_l5Log (code : List Int) (hc : code.length ≤ 1048576) (i h : Int) (hi : 0 ≤ i ∧ i ≤ (code.length : Int)) : FnP Pr n_spec_l5Log [.ptr 0 0] [curA code i h] (Dr code (isEs 6)) := by
  refine k_spec_l5Log.fnp (by kernel_rfl) ?_
  conv => arg 4; cbv
  refine Sat.draw (w_spec_l1Below code hc _) hi (fun ret ia ha hia hR => ?_)
  obtain ⟨n, rfl, n0, n1⟩ := hR
  conv => arg 4; cbv
  refine Sat.loopP (ι := List GEntry × Int × Int × Int × Int) (fun p => [(3, .ref 64 (fun _ => 0) (fun _ => p.1.length)), (4, .int .i64 (fun _ => p.2.1)), (5, .int .i64 (fun _ => p.2.2.1))]) (fun p => [(0, .lit 99 [.sl 1 (encI .u8) (fun _ => code), .int .i64 (fun _ => p.2.2.2.1), .int .i64 (fun _ => p.2.2.2.2)]), (64, .row 7 eGEntry (fun _ => p.1) false)]) (fun p => (p.1.length : Int) + p.2.2.1 ≤ 6 ∧ 0 ≤ p.2.2.1 ∧ (1 ≤ p.2.1 ∧ p.2.1 ≤ 1 + p.1.length) ∧ 0 ≤ p.2.2.2.1 ∧ p.2.2.2.1 ≤ (code.length : Int)) (fun p => p.2.2.1.toNat) ([], 1, n, ia, ha) ?_ (by simp; omega) (fun p hp => ?_)
  · refine les_of ?_ ?_ rfl
    iterate 2 (focus repeat' (first | exact trivial | refine And.intro ?_ ?_ | exact levA | refine lev_cons ?_ ?_ | refine LeV.agg rfl ?_ | exact Nat.le_of_ble_eq_true rfl | exact Or.inl ⟨_, rfl, .row rfl⟩ | refine Or.inl ⟨_, rfl, .row ?_⟩ | refine Or.inl ⟨_, rfl, .lit rfl ?_⟩ | exact Or.inr ⟨rfl, rfl⟩ | (first | exact .empref (fun h => nomatch h) rfl rfl rfl | rfl)))
  conv => arg 4; cbv
  repeat' first
    | (refine Sat.cmp (fun h => ?_) (fun h => ?_) <;> simp only [Cmp.holds] at h <;> (conv => arg 4; cbv))
    | (refine Sat.need ndA ?_; conv => arg 4; cbv)
    | (refine Sat.draw (w_spec_l1Once code hc 3) hp.2.2.2 (fun ret ib hb hib hR => ?_); obtain ⟨b, rfl⟩ := hR; cases b <;> (conv => arg 4; cbv))
    | (refine Sat.draw (w_spec_l3Op code hc) (by assumption) (fun ret ic hd hic hR => ?_); obtain ⟨o, rfl⟩ := hR; conv => arg 4; cbv)
    | (refine Sat.typed (⟨p.2.1, o⟩ : GEntry) tcA ?_; conv => arg 4; cbv)
    | (refine Sat.typed (⟨p.2.1 + 1, o⟩ : GEntry) tcA ?_; conv => arg 4; cbv)
    | (refine Sat.idxk (by assumption) ?_; conv => arg 4; cbv) | (refine Sat.idx ndA (fun v_ hv_ => ?_); conv => arg 4; cbv)
    | (refine Sat.ari64 ndA ndA ?_; conv => arg 4; cbv)
    | (refine Sat.pop ?_; conv => arg 4; cbv)
    | (exact Sat.done (dr_end (ret := .sl 7 eGEntry (fun _ => p.1)) ⟨_, rfl, by omega⟩ (.sl (by simp)) hp.2.2.2 rfl))
  · refine Sat.next (p.1 ++ [⟨p.2.1, o⟩], p.2.1, p.2.2.1 - 1, ic, hd) ?_ ⟨by (try dsimp only); simp; omega, by (try dsimp only); omega, by (try dsimp only); simp; omega, hic⟩ (by (try dsimp only); omega)
    refine les_of ?_ ?_ rfl
    iterate 2 (focus repeat' (first | exact trivial | refine And.intro ?_ ?_ | exact levA | refine lev_cons ?_ ?_ | refine LeV.agg rfl ?_ | exact Nat.le_of_ble_eq_true rfl | exact Or.inl ⟨_, rfl, .row rfl⟩ | refine Or.inl ⟨_, rfl, .row ?_⟩ | refine Or.inl ⟨_, rfl, .lit rfl ?_⟩ | exact Or.inr ⟨rfl, rfl⟩ | (first | exact .ref (fun h => nomatch h) (fun h => nomatch h) rfl (by simp) | (simp; done))))
  · refine Sat.next (p.1 ++ [⟨p.2.1 + 1, o⟩], p.2.1 + 1, p.2.2.1 - 1, ic, hd) ?_ ⟨by (try dsimp only); simp; omega, by (try dsimp only); omega, by (try dsimp only); simp; omega, hic⟩ (by (try dsimp only); omega)
    refine les_of ?_ ?_ rfl
    iterate 2 (focus repeat' (first | exact trivial | refine And.intro ?_ ?_ | exact levA | refine lev_cons ?_ ?_ | refine LeV.agg rfl ?_ | exact Nat.le_of_ble_eq_true rfl | exact Or.inl ⟨_, rfl, .row rfl⟩ | refine Or.inl ⟨_, rfl, .row ?_⟩ | refine Or.inl ⟨_, rfl, .lit rfl ?_⟩ | exact Or.inr ⟨rfl, rfl⟩ | (first | exact .ref (fun h => nomatch h) (fun h => nomatch h) rfl (by simp) | (simp; done))))

theorem w_spec_l5Any (code : List Int) (hc : code.length ≤ 1048576) (i h : Int) (hi : 0 ≤ i ∧ i ≤ (code.length : Int)) : FnP Pr n_spec_l5Any [.ptr 0 0] [curA code i h] (Dr code (isEs 17)) := by
  refine k_spec_l5Any.fnp (by kernel_rfl) ?_
  conv => arg 4; cbv
  refine Sat.draw (w_spec_l5Log code hc) hi (fun ret ia ha hia hR => ?_)
  obtain ⟨l, rfl, hl⟩ := hR
  conv => arg 4; cbv
  refine Sat.draw (w_spec_l1Below code hc _) hia (fun ret ib hb hib hR => ?_)
  obtain ⟨n, rfl, n0, n1⟩ := hR
  conv => arg 4; cbv
  refine Sat.cmp (fun hz => ?_) (fun hz => ?_) <;> (conv => arg 4; cbv)
  · refine Sat.draw (w_spec_l1PickInt code hc [0, 1, 20, 21] (by decide) (by decide)) hib (fun ret ic hc2 hic hR => ?_)
    obtain ⟨u, rfl⟩ := hR
    conv => arg 4; cbv
    refine Sat.draw (w_spec_l3Any code hc) hic (fun ret id hd hid hR => ?_)
    obtain ⟨o, rfl⟩ := hR
    conv => arg 4; cbv
    repeat' first
      | (refine Sat.need ndA ?_; conv => arg 4; cbv)
      | (refine Sat.typed (⟨u, o⟩ : GEntry) tcA ?_; conv => arg 4; cbv)
    exact Sat.done (dr_end (ret := .sl 7 eGEntry (fun _ => l ++ [⟨u, o⟩])) ⟨_, rfl, by simp; omega⟩ (.sl (by simp)) hid rfl)
  refine Sat.cmp (fun hz => ?_) (fun hz => ?_) <;> (conv => arg 4; cbv)
  · refine Sat.loopP (ι := List GEntry × Int × Int) (fun p => [(3, .ref 33 (fun _ => 0) (fun _ => p.1.length)), (20, .any)]) (fun p => [(0, .lit 99 [.sl 1 (encI .u8) (fun _ => code), .int .i64 (fun _ => p.2.1), .int .i64 (fun _ => p.2.2)]), (33, .row 7 eGEntry (fun _ => p.1) false)]) (fun p => p.1.length ≤ 17 ∧ 0 ≤ p.2.1 ∧ p.2.1 ≤ (code.length : Int)) (fun p => 17 - p.1.length) (l, ib, hb) ?_ (by (try dsimp only); omega) (fun p hp => ?_)
    · exact lesA
    conv => arg 4; cbv
    repeat' first
      | (refine Sat.cmp (fun h => ?_) (fun h => ?_) <;> simp only [Cmp.holds] at h <;> (conv => arg 4; cbv))
      | (refine Sat.need ndA ?_; conv => arg 4; cbv)
      | (refine Sat.draw (w_spec_l3Op code hc) hp.2 (fun ret ic hd hic hR => ?_); obtain ⟨o, rfl⟩ := hR; conv => arg 4; cbv)
      | (refine Sat.typed (⟨20, o⟩ : GEntry) tcA ?_; conv => arg 4; cbv)
      | (refine Sat.pop ?_; conv => arg 4; cbv)
      | refine Sat.next (p.1 ++ [⟨20, o⟩], ic, hd) ?_ ⟨by (try dsimp only); simp; exact arA, hic⟩ (by (try dsimp only); simp; exact arA)
      | (exact Sat.done (dr_end (ret := .sl 7 eGEntry (fun _ => p.1)) ⟨_, rfl, hp.1⟩ (.sl (by simp)) hp.2 rfl))
    refine les_of ?_ ?_ rfl
    iterate 2 (focus repeat' (first | exact trivial | refine And.intro ?_ ?_ | exact levA | refine lev_cons ?_ ?_ | refine LeV.agg rfl ?_ | exact Nat.le_of_ble_eq_true rfl | exact Or.inl ⟨_, rfl, .row rfl⟩ | refine Or.inl ⟨_, rfl, .row ?_⟩ | refine Or.inl ⟨_, rfl, .lit rfl ?_⟩ | exact Or.inr ⟨rfl, rfl⟩ | (first | exact .ref (fun h => nomatch h) (fun h => nomatch h) rfl (by simp) | (simp; done))))
  · exact Sat.done (dr_end (ret := .sl 7 eGEntry (fun _ => l)) ⟨_, rfl, by omega⟩ (.sl (by simp)) hib rfl)

def isTl : AV → Prop := fun r => ∃ (l : List GEntry) (f : Int) (t : List GEntry), r = .tup [.sl 7 eGEntry (fun _ => l), .int .i64 (fun _ => f), .sl 7 eGEntry (fun _ => t)] ∧ l.length ≤ 6 ∧ t.length ≤ 17
theorem led_tl {l t : List GEntry} {f : Int} {x y : AV} (hx : LeD x (.sl 7 eGEntry (fun _ => l))) (hy : LeD y (.sl 7 eGEntry (fun _ => t))) : LeD (.tup [x, .int .i64 (fun _ => f), y]) (.tup [.sl 7 eGEntry (fun _ => l), .int .i64 (fun _ => f), .sl 7 eGEntry (fun _ => t)]) := .tup rfl (led_cons hx (led_cons (.same _) (led_cons hy led_nil)))
theorem w_spec_l15Tail (code : List Int) (hc : code.length ≤ 1048576) (i h : Int) (hi : 0 ≤ i ∧ i ≤ (code.length : Int)) : FnP Pr n_spec_l15Tail [.ptr 0 0] [curA code i h] (Dr code isTl) := by
  refine k_spec_l15Tail.fnp (by kernel_rfl) ?_
  conv => arg 4; cbv
  refine Sat.draw (w_spec_l5Log code hc) hi (fun ret ia ha hia hR => ?_)
  obtain ⟨l, rfl, hl⟩ := hR
  conv => arg 4; cbv
  refine Sat.call (w_spec_CutTail l (by unfold bEntryS; omega)) rfl ledA ?_
  conv => arg 4; cbv
  refine Sat.draw (w_spec_l1Below code hc _) hia (fun ret ib hb hib hR => ?_)
  obtain ⟨n, rfl, n0, n1⟩ := hR
  conv => arg 4; cbv
  have hcl := cutL_len l
  repeat' first
    | (refine Sat.cmp (fun h => ?_) (fun h => ?_) <;> simp only [Cmp.holds] at h <;> (conv => arg 4; cbv))
    | (refine Sat.draw (w_spec_l1PickInt code hc [-1, 0, 1, 14, 9223372036854775807] (by decide) (by decide)) hib (fun ret ic hd hic hR => ?_); obtain ⟨u, rfl⟩ := hR; conv => arg 4; cbv)
    | (refine Sat.draw (w_spec_l5Any code hc) hib (fun ret ic hd hic hR => ?_); obtain ⟨t, rfl, ht⟩ := hR; conv => arg 4; cbv)
  all_goals first
    | exact Sat.done (dr_end (ret := .tup [.sl 7 eGEntry (fun _ => l), .int .i64 (fun _ => cutF l), .sl 7 eGEntry (fun _ => t)]) ⟨_, _, _, rfl, hl, ht⟩ (led_tl (.sl (by simp)) (.sl (by simp))) hic rfl)
    | exact Sat.done (dr_end (ret := .tup [.sl 7 eGEntry (fun _ => l), .int .i64 (fun _ => u), .sl 7 eGEntry (fun _ => cutL l)]) ⟨_, _, _, rfl, hl, by omega⟩ (led_tl (.sl (by simp)) (.sl (by simp))) hic rfl)
    | exact Sat.done (dr_end (ret := .tup [.sl 7 eGEntry (fun _ => l), .int .i64 (fun _ => cutF l), .sl 7 eGEntry (fun _ => cutL l)]) ⟨_, _, _, rfl, hl, by omega⟩ (led_tl (.sl (by simp)) (.sl (by simp))) hib rfl)

theorem w_spec_DrawCutTail (code : List Int) (hc : code.length ≤ 1048576) : FnP Pr n_spec_DrawCutTail [.sl 1 (encI .u8) (fun _ => code)] [] (fun ret outs => outs = [] ∧ ∃ l : List GEntry, ret = .sl 7 eGEntry (fun _ => l) ∧ l.length ≤ 17) := by
  refine k_spec_DrawCutTail.fnq (by kernel_rfl) ?_
  conv => arg 4; cbv
  refine Sat.newv (w_spec_l1New code hc) (fun cs hcs => ?_)
  obtain ⟨i, h, hi, rfl⟩ := hcs
  conv => arg 4; cbv
  refine Sat.draw (w_spec_l5Any code hc) hi (fun ret ia ha hia hR => ?_)
  obtain ⟨l, rfl, hl⟩ := hR
  conv => arg 4; cbv
  exact Sat.done ⟨.sl 7 eGEntry (fun _ => l), ⟨rfl, l, rfl, hl⟩, .sl (by simp)⟩

theorem w_spec_DrawJoinTail (code : List Int) (hc : code.length ≤ 1048576) : FnP Pr n_spec_DrawJoinTail [.sl 1 (encI .u8) (fun _ => code)] [] (fun ret outs => outs = [] ∧ ∃ (l : List GEntry) (f : Int) (t : List GEntry), ret = .tup [.sl 7 eGEntry (fun _ => l), .int .i64 (fun _ => f), .sl 7 eGEntry (fun _ => t)] ∧ l.length ≤ 17 ∧ t.length ≤ 17) := by
  refine k_spec_DrawJoinTail.fnq (by kernel_rfl) ?_
  conv => arg 4; cbv
  refine Sat.newv (w_spec_l1New code hc) (fun cs hcs => ?_)
  obtain ⟨i, h, hi, rfl⟩ := hcs
  conv => arg 4; cbv
  refine Sat.draw (w_spec_l15Tail code hc) hi (fun ret ia ha hia hR => ?_)
  obtain ⟨l, f, t, rfl, hl, ht⟩ := hR
  conv => arg 4; cbv
  refine Sat.draw (w_spec_l1Below code hc _) hia (fun ret ib hb hib hR => ?_)
  obtain ⟨n, rfl, n0, n1⟩ := hR
  conv => arg 4; cbv
  repeat' first
    | (refine Sat.cmp (fun h => ?_) (fun h => ?_) <;> simp only [Cmp.holds] at h <;> (conv => arg 4; cbv))
    | (refine Sat.need ndA ?_; conv => arg 4; cbv)
    | (refine Sat.ari64 ndA ndA ?_; conv => arg 4; cbv)
    | (refine Sat.draw (w_spec_l5Any code hc) hib (fun ret ic hd hic hR => ?_); obtain ⟨q, rfl, hq⟩ := hR; conv => arg 4; cbv)
    | (refine Sat.draw (w_spec_l1Below code hc ((l.length : Int) + 1)) hib (fun ret ic hd hic hR => ?_); obtain ⟨k, rfl, k0, k1⟩ := hR; conv => arg 4; cbv)
    | (refine Sat.call (w_spec_l5Copy (l.take k.toNat) (by unfold bEntryS; simp; omega)) rfl ledA ?_; conv => arg 4; cbv)
  all_goals first
    | exact Sat.done ⟨.tup [.sl 7 eGEntry (fun _ => q), .int .i64 (fun _ => f), .sl 7 eGEntry (fun _ => t)], ⟨rfl, _, _, _, rfl, hq, ht⟩, led_tl (.sl (by simp)) (.sl (by simp))⟩
    | exact Sat.done ⟨.tup [.sl 7 eGEntry (fun _ => l.take k.toNat), .int .i64 (fun _ => f), .sl 7 eGEntry (fun _ => t)], ⟨rfl, _, _, _, rfl, by simp; omega, ht⟩, led_tl (.sl (by simp)) (.sl (by simp))⟩
    | exact Sat.done ⟨.tup [.sl 7 eGEntry (fun _ => l), .int .i64 (fun _ => f), .sl 7 eGEntry (fun _ => t)], ⟨rfl, _, _, _, rfl, by omega, ht⟩, led_tl (.sl (by simp)) (.sl (by simp))⟩

theorem w_spec_DrawPushTail (code : List Int) (hc : code.length ≤ 1048576) : FnP Pr n_spec_DrawPushTail [.sl 1 (encI .u8) (fun _ => code)] [] (fun ret outs => outs = [] ∧ ∃ (f : Int) (t : List GEntry) (e : GEntry), ret = .tup [.int .i64 (fun _ => f), .sl 7 eGEntry (fun _ => t), aGEntry e] ∧ t.length ≤ 17) := by
  refine k_spec_DrawPushTail.fnq (by kernel_rfl) ?_
  conv => arg 4; cbv
  refine Sat.newv (w_spec_l1New code hc) (fun cs hcs => ?_)
  obtain ⟨i, h, hi, rfl⟩ := hcs
  conv => arg 4; cbv
  refine Sat.draw (w_spec_l15Tail code hc) hi (fun ret ia ha hia hR => ?_)
  obtain ⟨l, f, t, rfl, hl, ht⟩ := hR
  conv => arg 4; cbv
  refine Sat.draw (w_spec_l1PickInt code hc [1, 9, 9, 20, 21] (by decide) (by decide)) hia (fun ret ib hb hib hR => ?_)
  obtain ⟨u, rfl⟩ := hR
  conv => arg 4; cbv
  refine Sat.draw (w_spec_l3Any code hc) hib (fun ret ic hd hic hR => ?_)
  obtain ⟨o, rfl⟩ := hR
  conv => arg 4; cbv
  exact Sat.done ⟨.tup [.int .i64 (fun _ => f), .sl 7 eGEntry (fun _ => t), aGEntry ⟨u, o⟩], ⟨rfl, f, t, ⟨u, o⟩, rfl, ht⟩, .tup rfl (led_cons (.same _) (led_cons (.sl (by simp)) (led_cons (.same _) led_nil)))⟩

theorem okLog_take : ∀ {l : List GEntry} {p : Int} {k : Nat}, okLogFrom p l = true → okLogFrom p (l.take k) = true
  | [], p, k, _ => by simp [okLogFrom]
  | e :: r, p, 0, _ => by simp [okLogFrom]
  | e :: r, p, k + 1, h => by
    simp only [List.take_succ_cons, okLogFrom, Bool.and_eq_true] at h ⊢
    exact ⟨h.1, okLog_take h.2⟩
theorem okLog_drop : ∀ {l : List GEntry} {p : Int} {k : Nat}, okLogFrom p l = true → okLogFrom 0 (l.drop k) = true
  | [], p, k, _ => by simp [okLogFrom]
  | e :: r, p, 0, h => by
    simp only [List.drop_zero, okLogFrom, Bool.and_eq_true, decide_eq_true_eq] at h ⊢
    exact ⟨⟨h.1.1, by omega⟩, h.2⟩
  | e :: r, p, k + 1, h => by
    simp only [okLogFrom, Bool.and_eq_true] at h
    exact okLog_drop (l := r) (k := k) h.2
theorem isLog_take {l : List GEntry} {k : Nat} (h : isLog l = true) : isLog (l.take k) = true := by
  simp only [isLog, Bool.and_eq_true, decide_eq_true_eq] at h ⊢
  exact ⟨okLog_take h.1, by simp; omega⟩
theorem isLog_drop {l : List GEntry} {k : Nat} (h : isLog l = true) : isLog (l.drop k) = true := by
  simp only [isLog, Bool.and_eq_true, decide_eq_true_eq] at h ⊢
  exact ⟨okLog_drop h.1, by simp; omega⟩
theorem cpre_pre : ∀ {a l : List GEntry}, cpre a (a ++ l) = a.length
  | [], l => by simp [cpre]
  | x :: a, l => by
    have := cpre_pre (a := a) (l := l)
    simp [cpre, this]
theorem cpre_self (a : List GEntry) : cpre a a = a.length := by
  have := cpre_pre (a := a) (l := [])
  rw [List.append_nil] at this
  exact this

theorem cut_facts {l : List GEntry} (h : isLog l = true) : 0 ≤ cutF l ∧ cutF l + ((cutL l).length : Int) = l.length ∧ cutF l ≤ l.length ∧ (cutL l).length ≤ 3 ∧ isTail (cutF l) (cutL l) = true ∧ cutL l = l.drop (cutF l).toNat := by
  have h16 : l.length ≤ 16 := by
    have := h
    simp only [isLog, Bool.and_eq_true, decide_eq_true_eq] at this
    exact this.2
  have e1 : cutF l = max 0 ((l.length : Int) - 3) := by unfold cutF; rw [if_pos h]
  have e2 : cutL l = l.drop (l.length - 3) := by unfold cutL; rw [if_pos h]
  have e3 : (cutL l).length = l.length - (l.length - 3) := by rw [e2, List.length_drop]
  refine ⟨by omega, by omega, by omega, by omega, ?_, ?_⟩
  · simp only [isTail, Bool.and_eq_true, decide_eq_true_eq]
    refine ⟨⟨⟨?_, by omega⟩, by omega⟩, by omega⟩
    rw [e2]
    exact isLog_drop h
  · rw [e2]
    congr 1
    omega
theorem join_cut {l : List GEntry} {k : Nat} (h : isLog l = true) (h1 : cutF l ≤ k) (h2 : k ≤ l.length) : joinOk (cutF l) (l.take k) (cutL l) = true ∧ joinL (cutF l) (l.take k) (cutL l) = l := by
  obtain ⟨c1, c2, c3, c4, c5, c6⟩ := cut_facts h
  generalize hf : cutF l = f at *
  have hb : both f (l.take k) (cutL l) = k - f.toNat := by
    unfold both
    rw [List.length_drop, List.length_take]
    omega
  have hj : joinL f (l.take k) (cutL l) = l := by
    unfold joinL
    rw [hb, c6, List.drop_drop]
    have e : f.toNat + (k - f.toNat) = k := by omega
    rw [e, List.take_append_drop]
  refine ⟨joinOk_iff.2 ⟨isLog_take h, c5, by simp; omega, ?_, by rw [hj]; exact h⟩, hj⟩
  have hq := cpre_min (a := (l.take k).drop f.toNat) (b := cutL l)
  have e : both f (l.take k) (cutL l) = min ((l.take k).drop f.toNat).length (cutL l).length := rfl
  rw [e]
  refine hq.2 ?_
  have e4 : min ((l.take k).drop f.toNat).length (cutL l).length = k - f.toNat := e.symm.trans hb
  rw [e4, c6, List.drop_take, List.take_take, Nat.min_self]

theorem w_impl_CommonPrefix (x y : List GEntry) (hb : bEntryS x) (hy : bEntryS y) : Fn Pr n_impl_CommonPrefix [.sl 7 eGEntry (fun _ => x), .sl 7 eGEntry (fun _ => y)] (.int .i64 (fun _ => (cpre x y : Int))) := by
  refine k_impl_CommonPrefix.fn (by kernel_rfl) ?_
  have h0 : x.length * 56 ≤ 140737488351232 := hb
  have h1 : y.length * 56 ≤ 140737488351232 := hy
  conv => arg 4; cbv
  refine Sat.loopP (ι := Nat) (fun i => [(5, .int .i64 (fun _ => (i : Int)))]) (fun i => []) (fun i => (i ≤ x.length ∧ i ≤ y.length) ∧ cpre x y = i + cpre (x.drop i) (y.drop i)) (fun i => x.length - i) 0 ?_ ⟨by omega, by simp⟩ (fun i hi => ?_)
  · exact lesA
  conv => arg 4; cbv
  repeat' first
    | (refine Sat.cmp (fun h => ?_) (fun h => ?_) <;> simp only [Cmp.holds] at h <;> (conv => arg 4; cbv))
    | (refine Sat.need ndA ?_; conv => arg 4; cbv)
    | (refine Sat.idxk (by assumption) ?_; conv => arg 4; cbv) | (refine Sat.idx ndA (fun v_ hv_ => ?_); conv => arg 4; cbv)
    | (refine Sat.ari64 ndA ndA ?_; conv => arg 4; cbv)
    | (refine Sat.pop ?_; conv => arg 4; cbv)
    | refine Sat.next (i + 1) ?_ ?_ (by (try dsimp only); exact arA)
    | refine Sat.done (.int (congrArg Int.ofNat (cpre_stop hi.2 (by assumption) (by assumption) (fun e => by subst e; first | contradiction | (simp_all; done))).symm))
    | refine Sat.done (.int (congrArg Int.ofNat (cpre_end hi.2 (by exact arA)).symm))
  · exact lesA
  · exact ⟨by exact arA, cpre_step hi.2 (by assumption) (by assumption) (by first | assumption | (apply GEntry.ext <;> first | assumption | (apply GOp.ext <;> assumption)))⟩

theorem w_impl_IsPrefix (x y : List GEntry) (hb : bEntryS x) (hy : bEntryS y) : Fn Pr n_impl_IsPrefix [.sl 7 eGEntry (fun _ => x), .sl 7 eGEntry (fun _ => y)] (.bo (decide (cpre x y = x.length))) := by
  refine k_impl_IsPrefix.fn (by kernel_rfl) ?_
  conv => arg 4; cbv
  repeat' first
    | (refine Sat.cmp (fun h => ?_) (fun h => ?_) <;> simp only [Cmp.holds] at h <;> (conv => arg 4; cbv))
    | (refine Sat.call (w_impl_CommonPrefix x y hb hy) rfl ledA ?_; conv => arg 4; cbv)
    | (refine Sat.need ndA ?_; conv => arg 4; cbv)
    | (refine Sat.idxk (by assumption) ?_; conv => arg 4; cbv) | (refine Sat.idx ndA (fun v_ hv_ => ?_); conv => arg 4; cbv)
    | (refine Sat.ari64 ndA ndA ?_; conv => arg 4; cbv)
    | (refine Sat.pop ?_; conv => arg 4; cbv)
    | refine Sat.done ?_
  all_goals refine led_bo ?_
  all_goals simp only [ncast] at *
  all_goals simp_all
  all_goals omega

theorem byte_rng {x : Int} (h : (Lit.int .u8 x).wf = true) : 0 ≤ x ∧ x ≤ 255 := by
  simp only [Lit.wf, Bool.and_eq_true, decide_eq_true_eq] at h
  exact h
def atV (code : List Int) : Int := match code[2]? with
  | some v => v
  | none => (2 * 37 + (code.length : Int) * 11).tmod 256
theorem atV_rng {code : List Int} (hw : ∀ x ∈ code, 0 ≤ x ∧ x ≤ 255) : 0 ≤ atV code ∧ atV code ≤ 255 := by
  unfold atV
  split
  · rename_i v h
    exact hw v (List.mem_of_getElem? h)
  · have h1 := Int.tmod_nonneg 256 (show 0 ≤ 2 * 37 + (code.length : Int) * 11 by omega)
    have h2 := Int.tmod_lt_of_pos (2 * 37 + (code.length : Int) * 11) (show (0 : Int) < 256 by omega)
    omega
theorem w_laws_at (code : List Int) (hc : code.length ≤ 1048576) (hw : ∀ x ∈ code, 0 ≤ x ∧ x ≤ 255) : Fn Pr n_laws_at [.sl 1 (encI .u8) (fun _ => code), .int .i64 (fun _ => 2)] (.int .i64 (fun _ => atV code)) := by
  refine k_laws_at.fn (by kernel_rfl) ?_
  conv => arg 4; cbv
  repeat' first
    | (refine Sat.cmp (fun h => ?_) (fun h => ?_) <;> simp only [Cmp.holds] at h <;> (conv => arg 4; cbv))
    | (refine Sat.need ndA ?_; conv => arg 4; cbv)
    | (refine Sat.idxk (by assumption) ?_; conv => arg 4; cbv) | (refine Sat.idx ndA (fun v_ hv_ => ?_); conv => arg 4; cbv)
    | (refine Sat.ari64 (by have := hw _ (List.mem_of_getElem? hv_); (try dsimp only); omega) (by have := hw _ (List.mem_of_getElem? hv_); (try dsimp only); omega) ?_; conv => arg 4; cbv)
    | (refine Sat.ari64 ndA ndA ?_; conv => arg 4; cbv)
  · have e : atV code = v_ := by unfold atV; rw [show code[2]? = some v_ from hv_]
    exact Sat.done (.int e.symm)
  · have e : atV code = (2 * 37 + (code.length : Int) * 11).tmod 256 := by
      unfold atV
      rw [List.getElem?_eq_none (by simp only [ncast] at *; omega)]
    exact Sat.done (.int e.symm)

set_option maxHeartbeats 4000000 in
theorem w_laws_FnTails (code_ : List Int) {G : Prop} (F : (code_.length ≤ maxLen ∧ code_.length * 1 ≤ 140737488351232 ∧ ∀ x ∈ code_, (Lit.int .u8 x).wf = true) ∧ G) : Fn Pr n_laws_FnTails [.sl 1 (encI .u8) (fun _ => code_)] (.bo true) := by
  by_cases hc : (1048576 : Int) < code_.length
  · have hB := w_laws_big code_ F.1.2.1
    rw [decide_eq_true hc] at hB
    refine k_laws_FnTails.fn (by kernel_rfl) ?_
    conv => arg 4; cbv
    refine Sat.call hB rfl ledA ?_
    conv => arg 4; cbv
    exact Sat.done (.same _)
  have hB := w_laws_big code_ F.1.2.1
  rw [decide_eq_false hc] at hB
  have hW : ∀ x ∈ code_, 0 ≤ x ∧ x ≤ 255 := fun x hx => byte_rng (F.1.2.2 x hx)
  refine k_laws_FnTails.fn (by kernel_rfl) ?_
  conv => arg 4; cbv
  refine Sat.call hB rfl ledA ?_
  conv => arg 4; cbv
  refine Sat.rel (w_spec_DrawJoinTail code_ (by omega)) (fun ret outs hR => ?_)
  obtain ⟨rfl, x, f, t, rfl, hx, ht⟩ := hR
  have hjl := joinL_len (f := f) (a := x) (l := t)
  have hbr : bEntryS (if joinOk f x t = true then joinL f x t else []) := by
    unfold bEntryS
    split
    · omega
    · simp
  have hpre : joinOk f x t = true → cpre x (if joinOk f x t = true then joinL f x t else []) = x.length := fun h => by rw [if_pos h]; exact cpre_pre
  have hself := cpre_self (if joinOk f x t = true then joinL f x t else [])
  have HI := w_impl_JoinTail x f t (by omega) (by omega)
  have HS := w_spec_JoinTail x f t (by omega) (by omega)
  generalize (if joinOk f x t = true then joinL f x t else []) = r at *
  generalize joinOk f x t = b at *
  conv => arg 4; cbv
  refine Sat.call HI rfl ledA ?_
  conv => arg 4; cbv
  refine Sat.call HS rfl ledA ?_
  cases b <;> (conv => arg 4; cbv)
  all_goals repeat' first
    | (refine Sat.cmp (fun h => ?_) (fun h => ?_) <;> simp only [Cmp.holds] at h <;> (conv => arg 4; cbv))
    | (refine Sat.callb (w_impl_IsPrefix r r hbr hbr) rfl ledA (fun h => ?_) (fun h => ?_) <;> (conv => arg 4; cbv))
    | (refine Sat.callb (w_impl_IsPrefix x r (by unfold bEntryS; omega) hbr) rfl ledA (fun h => ?_) (fun h => ?_) <;> (conv => arg 4; cbv))
    | (exfalso; rw [decide_eq_false_iff_not] at h; exact h hself)
    | (exfalso; rw [decide_eq_false_iff_not] at h; exact h (hpre rfl))
    | (exfalso; contradiction)
  all_goals refine Sat.rel (w_spec_DrawCutTail code_ (by omega)) (fun ret outs hR => ?_)
  all_goals obtain ⟨rfl, l, rfl, hl⟩ := hR
  all_goals have hbl : bEntryS l := by unfold bEntryS; omega
  all_goals have HC := w_impl_CutTail l hbl
  all_goals have hJ := fun k => @join_cut l k
  all_goals have hF := cut_facts (l := l)
  all_goals have hcl := cutL_len l
  all_goals have hv := atV_rng hW
  all_goals have HV := w_laws_at code_ (by omega) hW
  all_goals generalize atV code_ = v at *
  all_goals generalize cutF l = n at *
  all_goals generalize cutL l = u at *
  all_goals conv => arg 4; cbv
  all_goals refine Sat.call HC rfl ledA ?_
  all_goals conv => arg 4; cbv
  all_goals refine Sat.callb (w_spec_IsLog l hbl) rfl ledA (fun h => ?_) (fun h => ?_) <;> (conv => arg 4; cbv)
  all_goals clear HI HS HC
  · obtain ⟨c1, c2, c3, c4, c5, c6⟩ := hF h
    have hm1 := Int.tmod_nonneg ((l.length : Int) - n + 1) hv.1
    have hm2 := Int.tmod_lt_of_pos v (show 0 < (l.length : Int) - n + 1 by omega)
    obtain ⟨j1, j2⟩ := hJ (n + v.tmod ((l.length : Int) - n + 1)).toNat h (by omega) (by omega)
    have HJ := w_impl_JoinTail (l.take (n + v.tmod ((l.length : Int) - n + 1)).toNat) n u (by rw [List.length_take]; omega) (by omega)
    rw [if_pos j1, j1, j2] at HJ
    have hT : tailCovers n u (l.length : Int) = true := by simp only [tailCovers, c5, Bool.true_and, decide_eq_true_eq]; omega
    have HT := w_impl_TailCovers n u (l.length : Int) (by unfold bEntryS; omega)
    rw [hT] at HT
    have hsl := cpre_self l
    repeat' first
      | (refine Sat.cmp (fun h => ?_) (fun h => ?_) <;> simp only [Cmp.holds] at h <;> (conv => arg 4; cbv))
      | (refine Sat.need ndA ?_; conv => arg 4; cbv)
      | (refine Sat.call HV rfl ledA ?_; conv => arg 4; cbv)
      | (refine Sat.call HJ rfl ledA ?_; conv => arg 4; cbv)
      | (refine Sat.call HT rfl ledA ?_; conv => arg 4; cbv)
      | (refine Sat.callb (w_impl_IsPrefix l l hbl hbl) rfl ledA (fun h => ?_) (fun h => ?_) <;> (conv => arg 4; cbv))
      | (exfalso; rw [decide_eq_false_iff_not] at h; exact h hsl)
      | (exfalso; exact h trivial)
      | (exfalso; (try simp only [ncast] at *); omega)
      | (refine Sat.ari64 ndA ndA ?_; conv => arg 4; cbv)
    refine Sat.rel (w_spec_DrawPushTail code_ (by omega)) (fun ret outs hR => ?_)
    obtain ⟨rfl, pa, pb, pe, rfl, hpb⟩ := hR
    have HPI := w_impl_PushTail pa pb pe _ (by omega) rfl
    have HPS := w_spec_PushTail pa pb pe _ (by omega) rfl
    have hpl := pushL_len (b := pushOk pa pb pe) (l := pb) (e := pe)
    have hpp : bEntryS (pushL (pushOk pa pb pe) pb pe) := by unfold bEntryS; omega
    have hps := cpre_self (pushL (pushOk pa pb pe) pb pe)
    generalize pushF (pushOk pa pb pe) pa pb = qf at *
    generalize pushL (pushOk pa pb pe) pb pe = ql at *
    generalize pushOk pa pb pe = qb at *
    cases qb <;> (conv => arg 4; cbv)
    all_goals repeat' first
      | (refine Sat.cmp (fun h => ?_) (fun h => ?_) <;> simp only [Cmp.holds] at h <;> (conv => arg 4; cbv))
      | (refine Sat.call HPI rfl ledA ?_; conv => arg 4; cbv)
      | (refine Sat.call HPS rfl ledA ?_; conv => arg 4; cbv)
      | (refine Sat.callb (w_impl_IsPrefix ql ql hpp hpp) rfl ledA (fun h => ?_) (fun h => ?_) <;> (conv => arg 4; cbv))
      | (exfalso; rw [decide_eq_false_iff_not] at h; exact h hps)
      | (exfalso; exact h trivial)
      | exact Sat.done (.same _)
  · refine Sat.rel (w_spec_DrawPushTail code_ (by omega)) (fun ret outs hR => ?_)
    obtain ⟨rfl, pa, pb, pe, rfl, hpb⟩ := hR
    have HPI := w_impl_PushTail pa pb pe _ (by omega) rfl
    have HPS := w_spec_PushTail pa pb pe _ (by omega) rfl
    have hpl := pushL_len (b := pushOk pa pb pe) (l := pb) (e := pe)
    have hpp : bEntryS (pushL (pushOk pa pb pe) pb pe) := by unfold bEntryS; omega
    have hps := cpre_self (pushL (pushOk pa pb pe) pb pe)
    generalize pushF (pushOk pa pb pe) pa pb = qf at *
    generalize pushL (pushOk pa pb pe) pb pe = ql at *
    generalize pushOk pa pb pe = qb at *
    cases qb <;> (conv => arg 4; cbv)
    all_goals repeat' first
      | (refine Sat.cmp (fun h => ?_) (fun h => ?_) <;> simp only [Cmp.holds] at h <;> (conv => arg 4; cbv))
      | (refine Sat.call HPI rfl ledA ?_; conv => arg 4; cbv)
      | (refine Sat.call HPS rfl ledA ?_; conv => arg 4; cbv)
      | (refine Sat.callb (w_impl_IsPrefix ql ql hpp hpp) rfl ledA (fun h => ?_) (fun h => ?_) <;> (conv => arg 4; cbv))
      | (exfalso; rw [decide_eq_false_iff_not] at h; exact h hps)
      | (exfalso; exact h trivial)
      | exact Sat.done (.same _)
  · obtain ⟨c1, c2, c3, c4, c5, c6⟩ := hF h
    have hm1 := Int.tmod_nonneg ((l.length : Int) - n + 1) hv.1
    have hm2 := Int.tmod_lt_of_pos v (show 0 < (l.length : Int) - n + 1 by omega)
    obtain ⟨j1, j2⟩ := hJ (n + v.tmod ((l.length : Int) - n + 1)).toNat h (by omega) (by omega)
    have HJ := w_impl_JoinTail (l.take (n + v.tmod ((l.length : Int) - n + 1)).toNat) n u (by rw [List.length_take]; omega) (by omega)
    rw [if_pos j1, j1, j2] at HJ
    have hT : tailCovers n u (l.length : Int) = true := by simp only [tailCovers, c5, Bool.true_and, decide_eq_true_eq]; omega
    have HT := w_impl_TailCovers n u (l.length : Int) (by unfold bEntryS; omega)
    rw [hT] at HT
    have hsl := cpre_self l
    repeat' first
      | (refine Sat.cmp (fun h => ?_) (fun h => ?_) <;> simp only [Cmp.holds] at h <;> (conv => arg 4; cbv))
      | (refine Sat.need ndA ?_; conv => arg 4; cbv)
      | (refine Sat.call HV rfl ledA ?_; conv => arg 4; cbv)
      | (refine Sat.call HJ rfl ledA ?_; conv => arg 4; cbv)
      | (refine Sat.call HT rfl ledA ?_; conv => arg 4; cbv)
      | (refine Sat.callb (w_impl_IsPrefix l l hbl hbl) rfl ledA (fun h => ?_) (fun h => ?_) <;> (conv => arg 4; cbv))
      | (exfalso; rw [decide_eq_false_iff_not] at h; exact h hsl)
      | (exfalso; exact h trivial)
      | (exfalso; (try simp only [ncast] at *); omega)
      | (refine Sat.ari64 ndA ndA ?_; conv => arg 4; cbv)
    refine Sat.rel (w_spec_DrawPushTail code_ (by omega)) (fun ret outs hR => ?_)
    obtain ⟨rfl, pa, pb, pe, rfl, hpb⟩ := hR
    have HPI := w_impl_PushTail pa pb pe _ (by omega) rfl
    have HPS := w_spec_PushTail pa pb pe _ (by omega) rfl
    have hpl := pushL_len (b := pushOk pa pb pe) (l := pb) (e := pe)
    have hpp : bEntryS (pushL (pushOk pa pb pe) pb pe) := by unfold bEntryS; omega
    have hps := cpre_self (pushL (pushOk pa pb pe) pb pe)
    generalize pushF (pushOk pa pb pe) pa pb = qf at *
    generalize pushL (pushOk pa pb pe) pb pe = ql at *
    generalize pushOk pa pb pe = qb at *
    cases qb <;> (conv => arg 4; cbv)
    all_goals repeat' first
      | (refine Sat.cmp (fun h => ?_) (fun h => ?_) <;> simp only [Cmp.holds] at h <;> (conv => arg 4; cbv))
      | (refine Sat.call HPI rfl ledA ?_; conv => arg 4; cbv)
      | (refine Sat.call HPS rfl ledA ?_; conv => arg 4; cbv)
      | (refine Sat.callb (w_impl_IsPrefix ql ql hpp hpp) rfl ledA (fun h => ?_) (fun h => ?_) <;> (conv => arg 4; cbv))
      | (exfalso; rw [decide_eq_false_iff_not] at h; exact h hps)
      | (exfalso; exact h trivial)
      | exact Sat.done (.same _)
  · refine Sat.rel (w_spec_DrawPushTail code_ (by omega)) (fun ret outs hR => ?_)
    obtain ⟨rfl, pa, pb, pe, rfl, hpb⟩ := hR
    have HPI := w_impl_PushTail pa pb pe _ (by omega) rfl
    have HPS := w_spec_PushTail pa pb pe _ (by omega) rfl
    have hpl := pushL_len (b := pushOk pa pb pe) (l := pb) (e := pe)
    have hpp : bEntryS (pushL (pushOk pa pb pe) pb pe) := by unfold bEntryS; omega
    have hps := cpre_self (pushL (pushOk pa pb pe) pb pe)
    generalize pushF (pushOk pa pb pe) pa pb = qf at *
    generalize pushL (pushOk pa pb pe) pb pe = ql at *
    generalize pushOk pa pb pe = qb at *
    cases qb <;> (conv => arg 4; cbv)
    all_goals repeat' first
      | (refine Sat.cmp (fun h => ?_) (fun h => ?_) <;> simp only [Cmp.holds] at h <;> (conv => arg 4; cbv))
      | (refine Sat.call HPI rfl ledA ?_; conv => arg 4; cbv)
      | (refine Sat.call HPS rfl ledA ?_; conv => arg 4; cbv)
      | (refine Sat.callb (w_impl_IsPrefix ql ql hpp hpp) rfl ledA (fun h => ?_) (fun h => ?_) <;> (conv => arg 4; cbv))
      | (exfalso; rw [decide_eq_false_iff_not] at h; exact h hps)
      | (exfalso; exact h trivial)
      | exact Sat.done (.same _)

end Go.V.T
