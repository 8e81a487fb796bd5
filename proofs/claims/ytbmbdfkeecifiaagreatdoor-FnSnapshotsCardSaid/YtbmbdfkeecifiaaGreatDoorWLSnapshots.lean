/- Contracts of the functions that FnSnapshots reaches: what each returns. Conditions: those that each theorem states. -/
import Derived.Test.YtbmbdfkeecifiaaGreatDoorMLSnapshots
import Derived.Lib.ItoaNum
import Derived.Shelf.Strconv.Itoa3
import Derived.Shelf.Strings.Cut
import Derived.Shelf.Strings.IndexAnyAll
import Derived.Shelf.Strings.OnBuilder
import Derived.Shelf.Strings.Split
namespace Go.V.T
open Go Go.V Go.RowKit
set_option maxRecDepth 100000
set_option linter.unusedVariables false
set_option linter.unusedSimpArgs false
@[ext] structure GOp where
  Client : Int
  Seq : Int
  Kind : Int
  Object : Int
  Old : Int
  Value : Int
  deriving DecidableEq
abbrev aGOp (x : GOp) : AV := .agg [.int .i64 (fun _ => x.Client), .int .i64 (fun _ => x.Seq), .int .i64 (fun _ => x.Kind), .int .i64 (fun _ => x.Object), .int .i64 (fun _ => x.Old), .int .i64 (fun _ => x.Value)]
@[ext] structure GEntry where
  Epoch : Int
  Op : GOp
  deriving DecidableEq
def eGEntry (x : GEntry) : Nat → AV
 | 0 => .int .i64 (fun _ => x.Epoch)
 | 1 => .int .i64 (fun _ => x.Op.Client)
 | 2 => .int .i64 (fun _ => x.Op.Seq)
 | 3 => .int .i64 (fun _ => x.Op.Kind)
 | 4 => .int .i64 (fun _ => x.Op.Object)
 | 5 => .int .i64 (fun _ => x.Op.Old)
 | 6 => .int .i64 (fun _ => x.Op.Value)
 | _ => .any
@[ext] structure GResult where
  Done : Bool
  Value : Int
  deriving DecidableEq
abbrev aGResult (x : GResult) : AV := .agg [.bo x.Done, .int .i64 (fun _ => x.Value)]
@[ext] structure GSession where
  Client : Int
  Seq : Int
  Result : GResult
  deriving DecidableEq
def eGSession (x : GSession) : Nat → AV
 | 0 => .int .i64 (fun _ => x.Client)
 | 1 => .int .i64 (fun _ => x.Seq)
 | 2 => .bo x.Result.Done
 | 3 => .int .i64 (fun _ => x.Result.Value)
 | _ => .any
abbrev aGSession (x : GSession) : AV := .agg [.int .i64 (fun _ => x.Client), .int .i64 (fun _ => x.Seq), .bo x.Result.Done, .int .i64 (fun _ => x.Result.Value)]
@[ext] structure GMachine where
  Objects : List Int
  Sessions : List GSession
  deriving DecidableEq
abbrev aGMachine (x : GMachine) : AV := .agg [.sl 1 (encI .i64) (fun _ => x.Objects), .sl 4 eGSession (fun _ => x.Sessions)]
@[ext] structure GSnapshot where
  Count : Int
  Digest : Int
  Machine : GMachine
  deriving DecidableEq
abbrev aGSnapshot (x : GSnapshot) : AV := .agg [.int .i64 (fun _ => x.Count), .int .i64 (fun _ => x.Digest), .sl 1 (encI .i64) (fun _ => x.Machine.Objects), .sl 4 eGSession (fun _ => x.Machine.Sessions)]
theorem w_spec_l1In (n a b : Int) : Fn Pr n_spec_l1In [.int .i64 (fun _ => n), .int .i64 (fun _ => a), .int .i64 (fun _ => b)] (.bo (decide (a ≤ n ∧ n ≤ b))) := by
 refine k_spec_l1In.fn (by kernel_rfl) ?_
 conv=>arg 4;cbv
 repeat' first
  | (refine Sat.cmp (fun h => ?_) (fun h => ?_) <;> simp only [Cmp.holds] at h <;> (conv=>arg 4;cbv))
  | (refine Sat.need ndA ?_; conv=>arg 4;cbv)
  | (refine Sat.idxk (by assumption) ?_; conv=>arg 4;cbv) | (refine Sat.idx ndA (fun v_ hv_ => ?_); conv=>arg 4;cbv)
  | (refine Sat.ari64 ndA ndA ?_; conv=>arg 4;cbv)
  | (refine Sat.pop ?_; conv=>arg 4;cbv)
  | refine Sat.done ?_
 all_goals refine led_bo ?_ <;> simp <;> omega
theorem w_impl_within (n a b : Int) : Fn Pr n_impl_within [.int .i64 (fun _ => n), .int .i64 (fun _ => a), .int .i64 (fun _ => b)] (.bo (decide (a ≤ n ∧ n ≤ b))) := by
 refine k_impl_within.fn (by kernel_rfl) ?_
 conv=>arg 4;cbv
 repeat' first
  | (refine Sat.cmp (fun h => ?_) (fun h => ?_) <;> simp only [Cmp.holds] at h <;> (conv=>arg 4;cbv))
  | (refine Sat.need ndA ?_; conv=>arg 4;cbv)
  | (refine Sat.idxk (by assumption) ?_; conv=>arg 4;cbv) | (refine Sat.idx ndA (fun v_ hv_ => ?_); conv=>arg 4;cbv)
  | (refine Sat.ari64 ndA ndA ?_; conv=>arg 4;cbv)
  | (refine Sat.pop ?_; conv=>arg 4;cbv)
  | refine Sat.done ?_
 all_goals refine led_bo ?_ <;> simp <;> omega
theorem take_ext {α : Type _} {l r : List α} {i : Nat} {x y : α} (hx : l[i]? = some x) (hy : r[i]? = some y) (h : l.take i = r.take i) (e : x = y) : l.take (i + 1) = r.take (i + 1) := by
 rw [List.take_add_one, List.take_add_one, hx, hy, h, e]
theorem ne_of_get {α : Type _} {l r : List α} {i : Nat} {x y : α} (hx : l[i]? = some x) (hy : r[i]? = some y) (h : ¬ x = y) : l ≠ r := fun e => h (by subst e; rw [hx] at hy; exact Option.some.inj hy)
theorem drop_get {α : Type _} {l : List α} {i : Nat} {x : α} (h : l[i]? = some x) : l.drop i = x :: l.drop (i + 1) := by
 obtain ⟨hi, rfl⟩ := List.getElem?_eq_some_iff.1 h
 exact List.drop_eq_getElem_cons hi
def bIntS (x : List Int) : Prop := x.length * 8 ≤ 140737488351232
def bEntryS (x : List GEntry) : Prop := x.length * 56 ≤ 140737488351232
def bSessionS (x : List GSession) : Prop := x.length * 32 ≤ 140737488351232
def bMachine (x : GMachine) : Prop := bIntS x.Objects ∧ bSessionS x.Sessions
def bSnapshot (x : GSnapshot) : Prop := bMachine x.Machine
def idxF {α : Type} (p : α → Bool) : List α → Int
 | [] => -1
 | x :: r => if p x = true then 0 else if idxF p r < 0 then -1 else idxF p r + 1
theorem idxF_any {α : Type} {p : α → Bool} : ∀ {l : List α}, (0 ≤ idxF p l ↔ l.any p = true) ∧ -1 ≤ idxF p l
 | [] => by simp [idxF]
 | x :: r => by
   have := idxF_any (p := p) (l := r)
   rw [idxF, List.any_cons]
   by_cases h : p x = true
   ·simp [h]
   ·rw [if_neg h]
    simp only [Bool.not_eq_true] at h
    rw [h, Bool.false_or, ← this.1]
    split <;> omega
theorem idxF_step {α : Type} {p : α → Bool} {l : List α} {i : Nat} {x : α} (hx : l[i]? = some x) {k : Int} (h : k = if idxF p (l.drop i) < 0 then -1 else idxF p (l.drop i) + i) (hp : p x = false) : k = if idxF p (l.drop (i + 1)) < 0 then -1 else idxF p (l.drop (i + 1)) + (i + 1 : Nat) := by
 simp only [drop_get hx, idxF, hp, Bool.false_eq_true, if_false] at h
 rw [h]
 have := (idxF_any (p := p) (l := l.drop (i + 1))).2
 split <;> split <;> omega
theorem idxF_hit {α : Type} {p : α → Bool} {l : List α} {i : Nat} {x : α} (hx : l[i]? = some x) {k : Int} (h : k = if idxF p (l.drop i) < 0 then -1 else idxF p (l.drop i) + i) (hp : p x = true) : (i : Int) = k := by
 rw [drop_get hx, idxF, if_pos hp] at h
 rw [h]
 simp
theorem w_slices_Equal_intint (x y : List Int) (hb : bIntS x) : Fn Pr n_slices_Equal_intint [.sl 1 (encI .i64) (fun _ => x), .sl 1 (encI .i64) (fun _ => y)] (.bo (decide (x = y))) := by
 refine k_slices_Equal_intint.fn (by kernel_rfl) ?_
 have h0 : x.length * 8 ≤ 140737488351232 := hb
 conv=>arg 4;cbv
 refine Sat.cmp (fun hl => ?_) (fun hl => ?_) <;> simp only [Cmp.holds] at hl <;> (conv=>arg 4;cbv)
 ·refine Sat.loopP (ι := Nat) (fun i => [(13, .int .i64 (fun _ => (i : Int)))]) (fun i => []) (fun i => i ≤ x.length ∧ x.take i = y.take i) (fun i => x.length - i) 0 ?_ ⟨by omega, by simp⟩ (fun i hi => ?_)
  ·exact lesA
  conv=>arg 4;cbv
  repeat' first
   | (refine Sat.cmp (fun h => ?_) (fun h => ?_) <;> simp only [Cmp.holds] at h <;> (conv=>arg 4;cbv))
   | (refine Sat.need ndA ?_; conv=>arg 4;cbv)
   | (refine Sat.idxk (by assumption) ?_; conv=>arg 4;cbv) | (refine Sat.idx ndA (fun v_ hv_ => ?_); conv=>arg 4;cbv)
   | (refine Sat.ari64 ndA ndA ?_; conv=>arg 4;cbv)
   | (refine Sat.pop ?_; conv=>arg 4;cbv)
   | refine Sat.next (i + 1) ?_ ?_ (by (try dsimp only); exact arA)
   | refine Sat.done (led_bo (Eq.symm (decide_eq_false (ne_of_get (by assumption) (by assumption) (fun e => by subst e; first | contradiction | (simp_all; done))))))
   | refine Sat.done ?_
  ·exact lesA
  ·exact ⟨by exact arA, take_ext (by assumption) (by assumption) hi.2 (by assumption)⟩
  ·refine led_bo ?_
   have e1 : i = x.length := by exact arA
   have e2 : x.length = y.length := by exact arA
   have := hi.2
   rw [e1, List.take_length, e2, List.take_length] at this
   simp [this]
 ·refine Sat.done (led_bo ?_)
  have : x ≠ y := fun e => hl (by rw [e])
  simp [this]
def okOp (o : GOp) : Bool := decide ((0 ≤ o.Client ∧ o.Client ≤ 2) ∧ (1 ≤ o.Seq ∧ o.Seq ≤ 99) ∧ (0 ≤ o.Object ∧ o.Object ≤ 2) ∧ (0 ≤ o.Value ∧ o.Value ≤ 9) ∧ ((o.Kind = 1 ∧ o.Old = 0) ∨ (o.Kind = 2 ∧ 0 ≤ o.Old ∧ o.Old ≤ 9)))
theorem w_impl_IsValidOp (o : GOp) : Fn Pr n_impl_IsValidOp [aGOp o] (.bo (okOp o)) := by
 refine k_impl_IsValidOp.fn (by kernel_rfl) ?_
 conv=>arg 4;cbv
 repeat' first
  | (refine Sat.cmp (fun h => ?_) (fun h => ?_) <;> simp only [Cmp.holds] at h <;> (conv=>arg 4;cbv))
  | (refine Sat.callb (w_impl_within _ _ _) rfl ledA (fun h => ?_) (fun h => ?_) <;> (try simp only [decide_eq_true_eq, decide_eq_false_iff_not] at h) <;> (conv=>arg 4;cbv))
  | (refine Sat.need ndA ?_; conv=>arg 4;cbv)
  | (refine Sat.idxk (by assumption) ?_; conv=>arg 4;cbv) | (refine Sat.idx ndA (fun v_ hv_ => ?_); conv=>arg 4;cbv)
  | (refine Sat.ari64 ndA ndA ?_; conv=>arg 4;cbv)
  | (refine Sat.pop ?_; conv=>arg 4;cbv)
  | refine Sat.done ?_
 all_goals refine led_bo ?_
 all_goals (simp only [okOp]; first | (refine (decide_eq_true ?_).symm; omega) | (refine (decide_eq_false ?_).symm; omega))
theorem w_spec_IsValidOp (o : GOp) : Fn Pr n_spec_IsValidOp [aGOp o] (.bo (okOp o)) := by
 refine k_spec_IsValidOp.fn (by kernel_rfl) ?_
 conv=>arg 4;cbv
 repeat' first
  | (refine Sat.cmp (fun h => ?_) (fun h => ?_) <;> simp only [Cmp.holds] at h <;> (conv=>arg 4;cbv))
  | (refine Sat.callb (w_spec_l1In _ _ _) rfl ledA (fun h => ?_) (fun h => ?_) <;> (try simp only [decide_eq_true_eq, decide_eq_false_iff_not] at h) <;> (conv=>arg 4;cbv))
  | (refine Sat.need ndA ?_; conv=>arg 4;cbv)
  | (refine Sat.idxk (by assumption) ?_; conv=>arg 4;cbv) | (refine Sat.idx ndA (fun v_ hv_ => ?_); conv=>arg 4;cbv)
  | (refine Sat.ari64 ndA ndA ?_; conv=>arg 4;cbv)
  | (refine Sat.pop ?_; conv=>arg 4;cbv)
  | refine Sat.done ?_
 all_goals refine led_bo ?_
 all_goals (simp only [okOp]; first | (refine (decide_eq_true ?_).symm; omega) | (refine (decide_eq_false ?_).symm; omega))
def okLogFrom (p : Int) : List GEntry → Bool
 | [] => true
 | e :: r => decide (1 ≤ e.Epoch ∧ e.Epoch ≤ 20) && okOp e.Op && decide (p ≤ e.Epoch) && okLogFrom e.Epoch r
def isLog (l : List GEntry) : Bool := okLogFrom 0 l && decide (l.length ≤ 16)
def prevE (l : List GEntry) : Nat → Int
 | 0 => 0
 | i + 1 => match l[i]? with | some e => e.Epoch | none => 0
theorem prevE_get {l : List GEntry} {i : Nat} {e : GEntry} (h : l[i]? = some e) : prevE l (i + 1) = e.Epoch := by simp [prevE, h]
theorem okLog_step {l : List GEntry} {i : Nat} {e : GEntry} {b : Bool} (hb : b = okLogFrom (prevE l i) (l.drop i)) (h : l[i]? = some e) (h1 : 1 ≤ e.Epoch ∧ e.Epoch ≤ 20) (h2 : okOp e.Op = true) (h3 : prevE l i ≤ e.Epoch) : b = okLogFrom (prevE l (i + 1)) (l.drop (i + 1)) := by
 rw [hb, drop_get h, okLogFrom, prevE_get h, h2, decide_eq_true h1, decide_eq_true h3]
 simp
theorem okLog_bad {l : List GEntry} {i : Nat} {e : GEntry} {b : Bool} (hb : b = okLogFrom (prevE l i) (l.drop i)) (h : l[i]? = some e) (hn : ¬ ((1 ≤ e.Epoch ∧ e.Epoch ≤ 20) ∧ okOp e.Op = true ∧ prevE l i ≤ e.Epoch)) : b = false := by
 rw [hb, drop_get h, okLogFrom]
 cases e1 : okOp e.Op with
 | false => simp
 | true =>
   by_cases h1 : 1 ≤ e.Epoch ∧ e.Epoch ≤ 20
   ·by_cases h3 : prevE l i ≤ e.Epoch
    ·exact absurd ⟨h1, e1, h3⟩ hn
    ·rw [decide_eq_false h3]; simp
   ·rw [decide_eq_false h1]; simp
theorem okLog_end {l : List GEntry} {i : Nat} {b : Bool} (hb : b = okLogFrom (prevE l i) (l.drop i)) (h : i = l.length) : b = true := by
 rw [hb, h, List.drop_length, okLogFrom]
theorem prevE_zero {l : List GEntry} {i : Nat} (h : i = 0) : prevE l i = 0 := by subst h; rfl
theorem prevE_pos {l : List GEntry} {i j : Nat} {e : GEntry} (h : l[j]? = some e) (hj : i = j + 1) : prevE l i = e.Epoch := by subst hj; exact prevE_get h
theorem w_spec_IsLog (l : List GEntry) (hb : bEntryS l) : Fn Pr n_spec_IsLog [.sl 7 eGEntry (fun _ => l)] (.bo (isLog l)) := by
 refine k_spec_IsLog.fn (by kernel_rfl) ?_
 have h0 : l.length * 56 ≤ 140737488351232 := hb
 conv=>arg 4;cbv
 refine Sat.loopP (ι := Nat) (fun i => [(3, .int .i64 (fun _ => (i : Int)))]) (fun i => []) (fun i => i ≤ l.length ∧ okLogFrom 0 l = okLogFrom (prevE l i) (l.drop i)) (fun i => l.length - i) 0 ?_ ⟨by omega, by simp [prevE]⟩ (fun i hi => ?_)
 ·exact lesA
 conv=>arg 4;cbv
 repeat' first
  | (refine Sat.cmp (fun h => ?_) (fun h => ?_) <;> simp only [Cmp.holds] at h <;> (conv=>arg 4;cbv))
  | (refine Sat.need ndA ?_; conv=>arg 4;cbv)
  | (refine Sat.idxk (by assumption) ?_; conv=>arg 4;cbv) | (refine Sat.idx ndA (fun v_ hv_ => ?_); conv=>arg 4;cbv)
  | (refine Sat.callb (w_spec_l1In _ _ _) rfl ledA (fun h => ?_) (fun h => ?_) <;> (try simp only [decide_eq_true_eq, decide_eq_false_iff_not] at h) <;> (conv=>arg 4;cbv))
  | (refine Sat.callb (w_spec_IsValidOp (GEntry.Op _)) rfl ledA (fun h => ?_) (fun h => ?_) <;> (conv=>arg 4;cbv))
  | (refine Sat.ari64 ndA ndA ?_; conv=>arg 4;cbv)
  | (refine Sat.pop ?_; conv=>arg 4;cbv)
  | refine Sat.next (i + 1) ?_ ?_ (by (try dsimp only); exact arA)
  | refine Sat.done ?_
 ·refine led_bo ?_
  rw [isLog, okLog_bad (i := i) hi.2 (by assumption) (fun q => by have := prevE_pos (l := l) (i := i) hv_ (by exact arA); omega)]; rfl
 ·exact lesA
 ·have := prevE_pos (l := l) (i := i) hv_ (by exact arA)
  exact ⟨by exact arA, okLog_step hi.2 (by assumption) (by assumption) (by assumption) (by omega)⟩
 ·exact lesA
 ·have := prevE_zero (l := l) (i := i) (by exact arA)
  exact ⟨by exact arA, okLog_step hi.2 (by assumption) (by assumption) (by assumption) (by omega)⟩
 ·refine led_bo ?_
  rw [isLog, okLog_bad (i := i) hi.2 (by assumption) (fun q => by simp_all)]; rfl
 ·refine led_bo ?_
  rw [isLog, okLog_bad (i := i) hi.2 (by assumption) (fun q => h q.1)]; rfl
 all_goals
  refine led_bo ?_
  rw [isLog, okLog_end hi.2 (by exact arA), Bool.true_and]
  simp only [ncast] at h
 ·exact (decide_eq_true (by omega)).symm
 ·exact (decide_eq_false (by omega)).symm
theorem w_impl_IsLog (l : List GEntry) (hb : bEntryS l) : Fn Pr n_impl_IsLog [.sl 7 eGEntry (fun _ => l)] (.bo (isLog l)) := by
 refine k_impl_IsLog.fn (by kernel_rfl) ?_
 have h0 : l.length * 56 ≤ 140737488351232 := hb
 conv=>arg 4;cbv
 refine Sat.loopP (ι := Nat) (fun i => [(7, .int .i64 (fun _ => (i : Int)))]) (fun i => []) (fun i => i ≤ l.length ∧ okLogFrom 0 l = okLogFrom (prevE l i) (l.drop i)) (fun i => l.length - i) 0 ?_ ⟨by omega, by simp [prevE]⟩ (fun i hi => ?_)
 ·exact lesA
 conv=>arg 4;cbv
 repeat' first
  | (refine Sat.cmp (fun h => ?_) (fun h => ?_) <;> simp only [Cmp.holds] at h <;> (conv=>arg 4;cbv))
  | (refine Sat.need ndA ?_; conv=>arg 4;cbv)
  | (refine Sat.idxk (by assumption) ?_; conv=>arg 4;cbv) | (refine Sat.idx ndA (fun v_ hv_ => ?_); conv=>arg 4;cbv)
  | (refine Sat.callb (w_impl_within _ _ _) rfl ledA (fun h => ?_) (fun h => ?_) <;> (try simp only [decide_eq_true_eq, decide_eq_false_iff_not] at h) <;> (conv=>arg 4;cbv))
  | (refine Sat.callb (w_impl_IsValidOp (GEntry.Op _)) rfl ledA (fun h => ?_) (fun h => ?_) <;> (conv=>arg 4;cbv))
  | (refine Sat.ari64 ndA ndA ?_; conv=>arg 4;cbv)
  | (refine Sat.pop ?_; conv=>arg 4;cbv)
  | refine Sat.next (i + 1) ?_ ?_ (by (try dsimp only); exact arA)
  | refine Sat.done ?_
 ·refine led_bo ?_
  rw [isLog, okLog_bad (i := i) hi.2 (by assumption) (fun q => by have := prevE_pos (l := l) (i := i) hv_ (by exact arA); omega)]; rfl
 ·exact lesA
 ·have := prevE_pos (l := l) (i := i) hv_ (by exact arA)
  exact ⟨by exact arA, okLog_step hi.2 (by assumption) (by assumption) (by assumption) (by omega)⟩
 ·refine led_bo ?_
  rw [isLog, okLog_bad (i := i) hi.2 (by assumption) (fun q => by have := q.2.1; simp_all)]; rfl
 ·exact lesA
 ·have := prevE_zero (l := l) (i := i) (by exact arA)
  exact ⟨by exact arA, okLog_step hi.2 (by assumption) (by assumption) (by assumption) (by omega)⟩
 ·refine led_bo ?_
  rw [isLog, okLog_bad (i := i) hi.2 (by assumption) (fun q => by have := q.2.1; simp_all)]; rfl
 ·refine led_bo ?_
  rw [isLog, okLog_bad (i := i) hi.2 (by assumption) (fun q => h q.1)]; rfl
 all_goals
  refine led_bo ?_
  rw [isLog, okLog_end hi.2 (by exact arA), Bool.true_and]
  simp only [ncast] at h
 ·exact (decide_eq_true (by omega)).symm
 ·exact (decide_eq_false (by omega)).symm
theorem flat_encI (k : IntKind) (y : Int) (j : Nat) (hj : j < 1) : flat (encI k y j) = true := rfl
theorem w_slices_Clone_intint (l : List Int) (hb : bIntS l) : Fn Pr n_slices_Clone_intint [.sl 1 (encI .i64) (fun _ => l)] (.sl 1 (encI .i64) (fun _ => l)) := by
 refine k_slices_Clone_intint.fn (by kernel_rfl) ?_
 have h0 : l.length * 8 ≤ 140737488351232 := hb
 conv=>arg 4;cbv
 repeat' first
  | (refine Sat.cmp (fun h => ?_) (fun h => ?_) <;> simp only [Cmp.holds] at h <;> (conv=>arg 4;cbv))
  | (refine Sat.need ⟨fun y _ => flat_encI .i64 y, by exact arA⟩ ?_; conv=>arg 4;cbv)
  | (refine Sat.may (fun h => ?_) ?_ <;> (conv=>arg 4;cbv))
  | (refine Sat.need ndA ?_; conv=>arg 4;cbv)
  | (refine Sat.idxk (by assumption) ?_; conv=>arg 4;cbv) | (refine Sat.idx ndA (fun v_ hv_ => ?_); conv=>arg 4;cbv)
  | (refine Sat.ari64 ndA ndA ?_; conv=>arg 4;cbv)
  | (refine Sat.pop ?_; conv=>arg 4;cbv)
  | refine Sat.done ?_
 all_goals first | exact .nil (by assumption) | exact .sl (by simp)
theorem Sat.nextR2 {ι : Type} {As : List (St → Prop)} {Q : AV → Prop} {s : St} {G : ι → Prop} {μ : ι → Nat} {S : ι → St} {x : ι} (b c b' c' : Nat) (y : ι) (hc : noFx c s.st = true) (hb : noFx b s.st = true) (hlt : Nat.blt c s.nx = true) (hlt2 : Nat.blt b s.nx = true) (hc' : noFx c' (renS b c s).st = true) (hb' : noFx b' (renS b c s).st = true) (hlt' : Nat.blt c' (renS b c s).nx = true) (hlt2' : Nat.blt b' (renS b c s).nx = true) (h : LeS (renS b' c' (renS b c s)) (S y)) (hg : G y) (hm : μ y < μ x) : Sat Pr Q ((fun s' => ∃ y, LeS s' (S y) ∧ G y ∧ μ y < μ x) :: As) (.again s) :=
 .again (.step b c hc hb hlt hlt2 (.step b' c' hc' hb' hlt' hlt2' (.refl _))) ⟨y, h, hg, hm⟩
theorem w_spec_l1New (code : List Int) (hc : code.length ≤ 1048576) : FnN Pr n_spec_l1New [.sl 1 (encI .u8) (fun _ => code)] (fun cs => ∃ i h : Int, (0 ≤ i ∧ i ≤ (code.length : Int)) ∧ cs = curA code i h) := by
 refine k_spec_l1New.fnn (by kernel_rfl) ?_
 conv=>arg 4;cbv
 repeat' first
  | (refine Sat.ari64 ndA ndA ?_; conv=>arg 4;cbv)
  | (refine Sat.cmp (fun h => ?_) (fun h => ?_) <;> simp only [Cmp.holds] at h <;> (conv=>arg 4;cbv))
 refine Sat.loopP (ι := Nat × Int) (fun p => [(3, .int .i64 (fun _ => p.2)), (4, .int .i64 (fun _ => (p.1 : Int)))]) (fun p => []) (fun p => p.1 ≤ code.length) (fun p => code.length - p.1) (0, 10101 + (code.length : Int)) ?_ (by simp) (fun p hp => ?_)
 ·exact lesA
 conv=>arg 4;cbv
 repeat' first
  | (refine Sat.cmp (fun h => ?_) (fun h => ?_) <;> simp only [Cmp.holds] at h <;> (conv=>arg 4;cbv))
  | (refine Sat.need ndA ?_; conv=>arg 4;cbv)
  | (refine Sat.idxk (by assumption) ?_; conv=>arg 4;cbv) | (refine Sat.idx ndA (fun v_ hv_ => ?_); conv=>arg 4;cbv)
  | (refine Sat.ari64 ndA ndA ?_; conv=>arg 4;cbv)
  | (refine Sat.pop ?_; conv=>arg 4;cbv)
  | (refine Sat.ariw ?_; conv=>arg 4;cbv)
 ·generalize bitI BinOp.and IntKind.i64 _ _ = z
  refine Sat.next (p.1 + 1, z) ?_ (by exact arA) (by exact arA)
  exact lesA
 all_goals exact Sat.done ⟨curA code 0 p.2, ⟨0, p.2, ⟨by omega, by omega⟩, rfl⟩, .same _⟩
def isInt (lo hi : Int) : AV → Prop := fun r => ∃ v : Int, r = .int .i64 (fun _ => v) ∧ lo ≤ v ∧ v ≤ hi
theorem w_spec_l1Byte (code : List Int) (hc : code.length ≤ 1048576) (i h : Int) (hi : 0 ≤ i ∧ i ≤ (code.length : Int)) : FnP Pr n_spec_l1Byte [.ptr 0 0] [curA code i h] (Dr code (isInt 0 255)) := by
 refine k_spec_l1Byte.fnp (by kernel_rfl) ?_
 conv=>arg 4;cbv
 repeat' first
  | (refine Sat.cmp (fun h => ?_) (fun h => ?_) <;> simp only [Cmp.holds] at h <;> (conv=>arg 4;cbv))
  | (refine Sat.need ndA ?_; conv=>arg 4;cbv)
  | (refine Sat.idxk (by assumption) ?_; conv=>arg 4;cbv) | (refine Sat.idx ndA (fun v_ hv_ => ?_); conv=>arg 4;cbv)
  | (refine Sat.ari64 ndA ndA ?_; conv=>arg 4;cbv)
  | (refine Sat.pop ?_; conv=>arg 4;cbv)
  | (refine Sat.ariw ?_; conv=>arg 4;cbv)
 all_goals generalize hz : bitI BinOp.and IntKind.i64 _ _ = z
 all_goals have hb : 0 ≤ z ∧ z ≤ 255 := by rw [← hz]; exact and_le (m := 255) (by omega)
 ·have hi2 : 0 ≤ i + 1 ∧ i + 1 ≤ (code.length : Int) := ⟨by omega, by (simp only [ncast] at *; omega)⟩
  exact Sat.done (dr_end (ret := .int .i64 (fun _ => z)) ⟨z, rfl, hb.1, hb.2⟩ (.int rfl) hi2 rfl)
 ·exact Sat.done (dr_end (ret := .int .i64 (fun _ => z)) ⟨z, rfl, hb.1, hb.2⟩ (.int rfl) hi rfl)
theorem w_spec_l1Below (code : List Int) (hc : code.length ≤ 1048576) (n : Int) (i h : Int) (hi : 0 ≤ i ∧ i ≤ (code.length : Int)) : FnP Pr n_spec_l1Below [.ptr 0 0, .int .i64 (fun _ => n)] [curA code i h] (Dr code (isInt 0 (max 0 (n - 1)))) := by
 refine k_spec_l1Below.fnp (by kernel_rfl) ?_
 conv=>arg 4;cbv
 repeat' first
  | (refine Sat.cmp (fun h => ?_) (fun h => ?_) <;> simp only [Cmp.holds] at h <;> (conv=>arg 4;cbv))
  | (refine Sat.need ndA ?_; conv=>arg 4;cbv)
  | (refine Sat.draw (w_spec_l1Byte code hc) (by (try dsimp only); omega) (fun ret i' h' hi' hR => ?_); obtain ⟨v, rfl, hv0, hv1⟩ := hR; conv=>arg 4;cbv)
  | (refine Sat.ari64 ndA ndA ?_; conv=>arg 4;cbv)
  | (refine Sat.pop ?_; conv=>arg 4;cbv)
 ·exact Sat.done (dr_end (ret := .int .i64 (fun _ => 0)) ⟨0, rfl, by omega, by omega⟩ (.int rfl) hi rfl)
 ·have h1 := Int.tmod_nonneg n hv0
  have h2 := Int.tmod_lt_of_pos v (show 0 < n by omega)
  exact Sat.done (dr_end (ret := .int .i64 (fun _ => v.tmod n)) ⟨_, rfl, by omega, by omega⟩ (.int rfl) hi' rfl)
 ·rename_i i1 k1 hi1 v1 a1 b1 i2 k2 hi2 v2 a2 b2 i3 k3 hi3 v3 a3 b3
  have h1 := Int.tmod_nonneg n (show 0 ≤ v1 * 16777216 + v2 * 65536 + v3 * 256 + v by omega)
  have h2 := Int.tmod_lt_of_pos (v1 * 16777216 + v2 * 65536 + v3 * 256 + v) (show 0 < n by omega)
  exact Sat.done (dr_end (ret := .int .i64 (fun _ => (v1 * 16777216 + v2 * 65536 + v3 * 256 + v).tmod n)) ⟨_, rfl, by omega, by omega⟩ (.int rfl) hi' rfl)
def isB : AV → Prop := fun r => ∃ b : Bool, r = .bo b
theorem w_spec_l1Once (code : List Int) (hc : code.length ≤ 1048576) (n : Int) (i h : Int) (hi : 0 ≤ i ∧ i ≤ (code.length : Int)) : FnP Pr n_spec_l1Once [.ptr 0 0, .int .i64 (fun _ => n)] [curA code i h] (Dr code isB) := by
 refine k_spec_l1Once.fnp (by kernel_rfl) ?_
 conv=>arg 4;cbv
 repeat' first
  | (refine Sat.cmp (fun h => ?_) (fun h => ?_) <;> simp only [Cmp.holds] at h <;> (conv=>arg 4;cbv))
  | (refine Sat.need ndA ?_; conv=>arg 4;cbv)
  | (refine Sat.draw (w_spec_l1Below code hc n) (by (try dsimp only); omega) (fun ret i' h' hi' hR => ?_); obtain ⟨v, rfl, hv0, hv1⟩ := hR; conv=>arg 4;cbv)
  | (refine Sat.ari64 ndA ndA ?_; conv=>arg 4;cbv)
  | (refine Sat.pop ?_; conv=>arg 4;cbv)
 ·exact Sat.done (dr_end (ret := .bo true) ⟨_, rfl⟩ (.same _) hi' rfl)
 ·exact Sat.done (dr_end (ret := .bo false) ⟨_, rfl⟩ (.same _) hi' rfl)
def isAny : AV → Prop := fun r => ∃ v : Int, r = .int .i64 (fun _ => v)
theorem w_spec_l1PickInt (code : List Int) (hc : code.length ≤ 1048576) (l : List Int) (hl : 1 ≤ l.length) (hm : l.length ≤ 1000000) (i h : Int) (hi : 0 ≤ i ∧ i ≤ (code.length : Int)) : FnP Pr n_spec_l1PickInt [.ptr 0 0, .sl 1 (encI .i64) (fun _ => l)] [curA code i h] (Dr code isAny) := by
 refine k_spec_l1PickInt.fnp (by kernel_rfl) ?_
 conv=>arg 4;cbv
 repeat' first
  | (refine Sat.cmp (fun h => ?_) (fun h => ?_) <;> simp only [Cmp.holds] at h <;> (conv=>arg 4;cbv))
  | (refine Sat.need ndA ?_; conv=>arg 4;cbv)
  | (refine Sat.draw (w_spec_l1Below code hc (l.length : Int)) (by (try dsimp only); omega) (fun ret i' h' hi' hR => ?_); obtain ⟨v, rfl, hv0, hv1⟩ := hR; conv=>arg 4;cbv)
  | (refine Sat.idxk (by assumption) ?_; conv=>arg 4;cbv) | (refine Sat.idx ndA (fun v_ hv_ => ?_); conv=>arg 4;cbv)
  | (refine Sat.ari64 ndA ndA ?_; conv=>arg 4;cbv)
  | (refine Sat.pop ?_; conv=>arg 4;cbv)
 exact Sat.done (dr_end (ret := .int .i64 (fun _ => v_)) ⟨_, rfl⟩ (.int rfl) hi' rfl)
theorem w_laws_big (code : List Int) (hb : code.length * 1 ≤ 140737488351232) : Fn Pr n_laws_big [.sl 1 (encI .u8) (fun _ => code)] (.bo (decide ((1048576 : Int) < code.length))) := by
 refine k_laws_big.fn (by kernel_rfl) ?_
 conv=>arg 4;cbv
 repeat' first
  | (refine Sat.cmp (fun h => ?_) (fun h => ?_) <;> simp only [Cmp.holds] at h <;> (conv=>arg 4;cbv))
  | (refine Sat.need ndA ?_; conv=>arg 4;cbv)
  | (refine Sat.idxk (by assumption) ?_; conv=>arg 4;cbv) | (refine Sat.idx ndA (fun v_ hv_ => ?_); conv=>arg 4;cbv)
  | (refine Sat.ari64 ndA ndA ?_; conv=>arg 4;cbv)
  | (refine Sat.pop ?_; conv=>arg 4;cbv)
  | refine Sat.done ?_
 all_goals refine led_bo ?_
 all_goals (simp only [ncast] at *; simp; omega)
def isOp : AV → Prop := fun r => ∃ o : GOp, r = aGOp o
theorem w_spec_l3Op (code : List Int) (hc : code.length ≤ 1048576) (i h : Int) (hi : 0 ≤ i ∧ i ≤ (code.length : Int)) : FnP Pr n_spec_l3Op [.ptr 0 0] [curA code i h] (Dr code isOp) := by
 refine k_spec_l3Op.fnp (by kernel_rfl) ?_
 conv=>arg 4;cbv
 refine Sat.draw (w_spec_l1Below code hc _) hi (fun ret ia ha hia hR => ?_)
 obtain ⟨va, rfl, va0, va1⟩ := hR
 conv=>arg 4;cbv
 refine Sat.draw (w_spec_l1Below code hc _) hia (fun ret ib hb hib hR => ?_)
 obtain ⟨vb, rfl, vb0, vb1⟩ := hR
 conv=>arg 4;cbv
 (refine Sat.ari64 ndA ndA ?_; conv=>arg 4;cbv)
 refine Sat.draw (w_spec_l1Below code hc _) hib (fun ret ic hc hic hR => ?_)
 obtain ⟨vc, rfl, vc0, vc1⟩ := hR
 conv=>arg 4;cbv
 refine Sat.draw (w_spec_l1Below code (by assumption) _) hic (fun ret id hd hid hR => ?_)
 obtain ⟨vd, rfl, vd0, vd1⟩ := hR
 conv=>arg 4;cbv
 refine Sat.draw (w_spec_l1Once code (by assumption) 3) hid (fun ret ie he hie hR => ?_)
 obtain ⟨b, rfl⟩ := hR
 cases b <;> (conv=>arg 4;cbv)
 ·exact Sat.done (dr_end (ret := aGOp ⟨va, 1 + vb, 1, vc, 0, vd⟩) ⟨_, rfl⟩ (.same _) hie rfl)
 refine Sat.draw (w_spec_l1PickInt code (by assumption) [0, 0, 1, 5, 9] (by decide) (by decide)) hie (fun ret ig hg hig hR => ?_)
 obtain ⟨u, rfl⟩ := hR
 conv=>arg 4;cbv
 exact Sat.done (dr_end (ret := aGOp ⟨va, 1 + vb, 2, vc, u, vd⟩) ⟨_, rfl⟩ (.same _) hig rfl)
theorem w_spec_l3Any (code : List Int) (hc : code.length ≤ 1048576) (i h : Int) (hi : 0 ≤ i ∧ i ≤ (code.length : Int)) : FnP Pr n_spec_l3Any [.ptr 0 0] [curA code i h] (Dr code isOp) := by
 refine k_spec_l3Any.fnp (by kernel_rfl) ?_
 conv=>arg 4;cbv
 refine Sat.draw (w_spec_l3Op code hc) hi (fun ret ia ha hia hR => ?_)
 obtain ⟨o, rfl⟩ := hR
 conv=>arg 4;cbv
 refine Sat.draw (w_spec_l1Below code hc _) hia (fun ret ib hb hib hR => ?_)
 obtain ⟨vb, rfl, vb0, vb1⟩ := hR
 conv=>arg 4;cbv
 repeat' first
  | (refine Sat.cmp (fun h => ?_) (fun h => ?_) <;> simp only [Cmp.holds] at h <;> (conv=>arg 4;cbv))
  | (refine Sat.draw (w_spec_l1Below code hc 4) hib (fun ret ic hc hic hR => ?_); obtain ⟨u, rfl, u0, u1⟩ := hR; conv=>arg 4;cbv)
  | (refine Sat.draw (w_spec_l1PickInt code hc [-1, 2, 3] (by decide) (by decide)) hib (fun ret ic hc hic hR => ?_); obtain ⟨u, rfl⟩ := hR; conv=>arg 4;cbv)
  | (refine Sat.draw (w_spec_l1PickInt code hc [0, 99, 100] (by decide) (by decide)) hib (fun ret ic hc hic hR => ?_); obtain ⟨u, rfl⟩ := hR; conv=>arg 4;cbv)
  | (refine Sat.draw (w_spec_l1PickInt code hc [-1, 3] (by decide) (by decide)) hib (fun ret ic hc hic hR => ?_); obtain ⟨u, rfl⟩ := hR; conv=>arg 4;cbv)
  | (refine Sat.draw (w_spec_l1PickInt code hc [-1, 9, 10] (by decide) (by decide)) hib (fun ret ic hc hic hR => ?_); obtain ⟨u, rfl⟩ := hR; conv=>arg 4;cbv)
  | (refine Sat.draw (w_spec_l1PickInt code hc [-1, 0, 9, 10] (by decide) (by decide)) hib (fun ret ic hc hic hR => ?_); obtain ⟨u, rfl⟩ := hR; conv=>arg 4;cbv)
 all_goals first
  | exact Sat.done (dr_end (ret := aGOp o) ⟨_, rfl⟩ (.same _) hib rfl)
  | exact Sat.done (dr_end (ret := aGOp { o with Client := u }) ⟨_, rfl⟩ (.same _) hic rfl)
  | exact Sat.done (dr_end (ret := aGOp { o with Seq := u }) ⟨_, rfl⟩ (.same _) hic rfl)
  | exact Sat.done (dr_end (ret := aGOp { o with Kind := u }) ⟨_, rfl⟩ (.same _) hic rfl)
  | exact Sat.done (dr_end (ret := aGOp { o with Object := u }) ⟨_, rfl⟩ (.same _) hic rfl)
  | exact Sat.done (dr_end (ret := aGOp { o with Value := u }) ⟨_, rfl⟩ (.same _) hic rfl)
  | exact Sat.done (dr_end (ret := aGOp { o with Old := u }) ⟨_, rfl⟩ (.same _) hic rfl)
def isEs (n : Nat) : AV → Prop := fun r => ∃ l : List GEntry, r = .sl 7 eGEntry (fun _ => l) ∧ l.length ≤ n
theorem w_spec_l5Log (code : List Int) (hc : code.length ≤ 1048576) (i h : Int) (hi : 0 ≤ i ∧ i ≤ (code.length : Int)) : FnP Pr n_spec_l5Log [.ptr 0 0] [curA code i h] (Dr code (isEs 6)) := by
 refine k_spec_l5Log.fnp (by kernel_rfl) ?_
 conv=>arg 4;cbv
 refine Sat.draw (w_spec_l1Below code hc _) hi (fun ret ia ha hia hR => ?_)
 obtain ⟨n, rfl, n0, n1⟩ := hR
 conv=>arg 4;cbv
 refine Sat.loopP (ι := List GEntry × Int × Int × Int × Int) (fun p => [(3, .ref 64 (fun _ => 0) (fun _ => p.1.length)), (4, .int .i64 (fun _ => p.2.1)), (5, .int .i64 (fun _ => p.2.2.1))]) (fun p => [(0, .lit 99 [.sl 1 (encI .u8) (fun _ => code), .int .i64 (fun _ => p.2.2.2.1), .int .i64 (fun _ => p.2.2.2.2)]), (64, .row 7 eGEntry (fun _ => p.1) false)]) (fun p => (p.1.length : Int) + p.2.2.1 ≤ 6 ∧ 0 ≤ p.2.2.1 ∧ (1 ≤ p.2.1 ∧ p.2.1 ≤ 1 + p.1.length) ∧ 0 ≤ p.2.2.2.1 ∧ p.2.2.2.1 ≤ (code.length : Int)) (fun p => p.2.2.1.toNat) ([], 1, n, ia, ha) ?_ (by simp; omega) (fun p hp => ?_)
 ·refine les_of ?_ ?_ rfl
  iterate 2 (focus repeat' (first | exact trivial | refine And.intro ?_ ?_ | exact levA | refine lev_cons ?_ ?_ | refine LeV.agg rfl ?_ | exact Nat.le_of_ble_eq_true rfl | exact Or.inl ⟨_, rfl, .row rfl⟩ | refine Or.inl ⟨_, rfl, .row ?_⟩ | refine Or.inl ⟨_, rfl, .lit rfl ?_⟩ | exact Or.inr ⟨rfl, rfl⟩ | (first | exact .empref (fun h => nomatch h) rfl rfl rfl | rfl)))
 conv=>arg 4;cbv
 repeat' first
  | (refine Sat.cmp (fun h => ?_) (fun h => ?_) <;> simp only [Cmp.holds] at h <;> (conv=>arg 4;cbv))
  | (refine Sat.need ndA ?_; conv=>arg 4;cbv)
  | (refine Sat.draw (w_spec_l1Once code hc 3) hp.2.2.2 (fun ret ib hb hib hR => ?_); obtain ⟨b, rfl⟩ := hR; cases b <;> (conv=>arg 4;cbv))
  | (refine Sat.draw (w_spec_l3Op code hc) (by assumption) (fun ret ic hd hic hR => ?_); obtain ⟨o, rfl⟩ := hR; conv=>arg 4;cbv)
  | (refine Sat.typed (⟨p.2.1, o⟩ : GEntry) tcA ?_; conv=>arg 4;cbv)
  | (refine Sat.typed (⟨p.2.1 + 1, o⟩ : GEntry) tcA ?_; conv=>arg 4;cbv)
  | (refine Sat.idxk (by assumption) ?_; conv=>arg 4;cbv) | (refine Sat.idx ndA (fun v_ hv_ => ?_); conv=>arg 4;cbv)
  | (refine Sat.ari64 ndA ndA ?_; conv=>arg 4;cbv)
  | (refine Sat.pop ?_; conv=>arg 4;cbv)
  | (exact Sat.done (dr_end (ret := .sl 7 eGEntry (fun _ => p.1)) ⟨_, rfl, by omega⟩ (.sl (by simp)) hp.2.2.2 rfl))
 ·refine Sat.next (p.1 ++ [⟨p.2.1, o⟩], p.2.1, p.2.2.1 - 1, ic, hd) ?_ ⟨by (try dsimp only); simp; omega, by (try dsimp only); omega, by (try dsimp only); simp; omega, hic⟩ (by (try dsimp only); omega)
  refine les_of ?_ ?_ rfl
  iterate 2 (focus repeat' (first | exact trivial | refine And.intro ?_ ?_ | exact levA | refine lev_cons ?_ ?_ | refine LeV.agg rfl ?_ | exact Nat.le_of_ble_eq_true rfl | exact Or.inl ⟨_, rfl, .row rfl⟩ | refine Or.inl ⟨_, rfl, .row ?_⟩ | refine Or.inl ⟨_, rfl, .lit rfl ?_⟩ | exact Or.inr ⟨rfl, rfl⟩ | (first | exact .ref (fun h => nomatch h) (fun h => nomatch h) rfl (by simp) | (simp; done))))
 ·refine Sat.next (p.1 ++ [⟨p.2.1 + 1, o⟩], p.2.1 + 1, p.2.2.1 - 1, ic, hd) ?_ ⟨by (try dsimp only); simp; omega, by (try dsimp only); omega, by (try dsimp only); simp; omega, hic⟩ (by (try dsimp only); omega)
  refine les_of ?_ ?_ rfl
  iterate 2 (focus repeat' (first | exact trivial | refine And.intro ?_ ?_ | exact levA | refine lev_cons ?_ ?_ | refine LeV.agg rfl ?_ | exact Nat.le_of_ble_eq_true rfl | exact Or.inl ⟨_, rfl, .row rfl⟩ | refine Or.inl ⟨_, rfl, .row ?_⟩ | refine Or.inl ⟨_, rfl, .lit rfl ?_⟩ | exact Or.inr ⟨rfl, rfl⟩ | (first | exact .ref (fun h => nomatch h) (fun h => nomatch h) rfl (by simp) | (simp; done))))
theorem w_spec_l5Any (code : List Int) (hc : code.length ≤ 1048576) (i h : Int) (hi : 0 ≤ i ∧ i ≤ (code.length : Int)) : FnP Pr n_spec_l5Any [.ptr 0 0] [curA code i h] (Dr code (isEs 17)) := by
 refine k_spec_l5Any.fnp (by kernel_rfl) ?_
 conv=>arg 4;cbv
 refine Sat.draw (w_spec_l5Log code hc) hi (fun ret ia ha hia hR => ?_)
 obtain ⟨l, rfl, hl⟩ := hR
 conv=>arg 4;cbv
 refine Sat.draw (w_spec_l1Below code hc _) hia (fun ret ib hb hib hR => ?_)
 obtain ⟨n, rfl, n0, n1⟩ := hR
 conv=>arg 4;cbv
 refine Sat.cmp (fun hz => ?_) (fun hz => ?_) <;> (conv=>arg 4;cbv)
 ·refine Sat.draw (w_spec_l1PickInt code hc [0, 1, 20, 21] (by decide) (by decide)) hib (fun ret ic hc2 hic hR => ?_)
  obtain ⟨u, rfl⟩ := hR
  conv=>arg 4;cbv
  refine Sat.draw (w_spec_l3Any code hc) hic (fun ret id hd hid hR => ?_)
  obtain ⟨o, rfl⟩ := hR
  conv=>arg 4;cbv
  repeat' first
   | (refine Sat.need ndA ?_; conv=>arg 4;cbv)
   | (refine Sat.typed (⟨u, o⟩ : GEntry) tcA ?_; conv=>arg 4;cbv)
  exact Sat.done (dr_end (ret := .sl 7 eGEntry (fun _ => l ++ [⟨u, o⟩])) ⟨_, rfl, by simp; omega⟩ (.sl (by simp)) hid rfl)
 refine Sat.cmp (fun hz => ?_) (fun hz => ?_) <;> (conv=>arg 4;cbv)
 ·refine Sat.loopP (ι := List GEntry × Int × Int) (fun p => [(3, .ref 33 (fun _ => 0) (fun _ => p.1.length)), (20, .any)]) (fun p => [(0, .lit 99 [.sl 1 (encI .u8) (fun _ => code), .int .i64 (fun _ => p.2.1), .int .i64 (fun _ => p.2.2)]), (33, .row 7 eGEntry (fun _ => p.1) false)]) (fun p => p.1.length ≤ 17 ∧ 0 ≤ p.2.1 ∧ p.2.1 ≤ (code.length : Int)) (fun p => 17 - p.1.length) (l, ib, hb) ?_ (by (try dsimp only); omega) (fun p hp => ?_)
  ·exact lesA
  conv=>arg 4;cbv
  repeat' first
   | (refine Sat.cmp (fun h => ?_) (fun h => ?_) <;> simp only [Cmp.holds] at h <;> (conv=>arg 4;cbv))
   | (refine Sat.need ndA ?_; conv=>arg 4;cbv)
   | (refine Sat.draw (w_spec_l3Op code hc) hp.2 (fun ret ic hd hic hR => ?_); obtain ⟨o, rfl⟩ := hR; conv=>arg 4;cbv)
   | (refine Sat.typed (⟨20, o⟩ : GEntry) tcA ?_; conv=>arg 4;cbv)
   | (refine Sat.pop ?_; conv=>arg 4;cbv)
   | refine Sat.next (p.1 ++ [⟨20, o⟩], ic, hd) ?_ ⟨by (try dsimp only); simp; exact arA, hic⟩ (by (try dsimp only); simp; exact arA)
   | (exact Sat.done (dr_end (ret := .sl 7 eGEntry (fun _ => p.1)) ⟨_, rfl, hp.1⟩ (.sl (by simp)) hp.2 rfl))
  refine les_of ?_ ?_ rfl
  iterate 2 (focus repeat' (first | exact trivial | refine And.intro ?_ ?_ | exact levA | refine lev_cons ?_ ?_ | refine LeV.agg rfl ?_ | exact Nat.le_of_ble_eq_true rfl | exact Or.inl ⟨_, rfl, .row rfl⟩ | refine Or.inl ⟨_, rfl, .row ?_⟩ | refine Or.inl ⟨_, rfl, .lit rfl ?_⟩ | exact Or.inr ⟨rfl, rfl⟩ | (first | exact .ref (fun h => nomatch h) (fun h => nomatch h) rfl (by simp) | (simp; done))))
 ·exact Sat.done (dr_end (ret := .sl 7 eGEntry (fun _ => l)) ⟨_, rfl, by omega⟩ (.sl (by simp)) hib rfl)
theorem okLog_take : ∀ {l : List GEntry} {p : Int} {k : Nat}, okLogFrom p l = true → okLogFrom p (l.take k) = true
 | [], p, k, _ => by simp [okLogFrom]
 | e :: r, p, 0, _ => by simp [okLogFrom]
 | e :: r, p, k + 1, h => by
   simp only [List.take_succ_cons, okLogFrom, Bool.and_eq_true] at h ⊢
   exact ⟨h.1, okLog_take h.2⟩
theorem isLog_take {l : List GEntry} {k : Nat} (h : isLog l = true) : isLog (l.take k) = true := by
 simp only [isLog, Bool.and_eq_true, decide_eq_true_eq] at h ⊢
 exact ⟨okLog_take h.1, by simp; omega⟩
theorem byte_rng {x : Int} (h : (Lit.int .u8 x).wf = true) : 0 ≤ x ∧ x ≤ 255 := by
 simp only [Lit.wf, Bool.and_eq_true, decide_eq_true_eq] at h
 exact h
def layJoinRen : Go.Shelf.Ren := ⟨fun | 156 => 97 | 165 => 109 | 166 => 110 | 169 => 111 | 240 => 120 | 241 => 121 | 276 => 129 | 277 => 130 | n => n, fun | 31 => 40 | 9 => 9 | 3 => 3 | 4 => 4 | 0 => 0 | 20 => 20 | 72 => 128 | 76 => 132 | 70 => 126 | 37 => 22 | 75 => 131 | 127 => 142 | 164 => 154 | 5 => 5 | 80 => 134 | n => n, fun | n => n⟩
theorem layJoin : Go.Proofs.Lays.n156 Go.Proofs.Tryz.prog layJoinRen := {
 mixed := by kernel_rfl
 f156 := Go.Proofs.Tryz.func97.trans (congrArg some (by kernel_rfl))
 f165 := Go.Proofs.Tryz.func109.trans (congrArg some (by kernel_rfl))
 f166 := Go.Proofs.Tryz.func110.trans (congrArg some (by kernel_rfl))
 f169 := Go.Proofs.Tryz.func111.trans (congrArg some (by kernel_rfl))
 f240 := Go.Proofs.Tryz.func120.trans (congrArg some (by kernel_rfl))
 f241 := Go.Proofs.Tryz.func121.trans (congrArg some (by kernel_rfl))
 f276 := Go.Proofs.Tryz.func129.trans (congrArg some (by kernel_rfl))
 f277 := Go.Proofs.Tryz.func130.trans (congrArg some (by kernel_rfl))
 t0 := Go.Proofs.Tryz.underlying0
 a0 := Go.Proofs.Tryz.isAgg0
 z0 := Go.Proofs.Tryz.sizeOf0
 v0 := Go.Proofs.Tryz.zeroValue0
 t3 := Go.Proofs.Tryz.underlying3
 a3 := Go.Proofs.Tryz.isAgg3
 z3 := Go.Proofs.Tryz.sizeOf3
 v3 := Go.Proofs.Tryz.zeroValue3
 t4 := Go.Proofs.Tryz.underlying4
 a4 := Go.Proofs.Tryz.isAgg4
 z4 := Go.Proofs.Tryz.sizeOf4
 v4 := Go.Proofs.Tryz.zeroValue4
 t9 := Go.Proofs.Tryz.underlying9
 a9 := Go.Proofs.Tryz.isAgg9
 z9 := Go.Proofs.Tryz.sizeOf9
 v9 := Go.Proofs.Tryz.zeroValue9
 t20 := Go.Proofs.Tryz.underlying20
 a20 := Go.Proofs.Tryz.isAgg20
 z20 := Go.Proofs.Tryz.sizeOf20
 v20 := Go.Proofs.Tryz.zeroValue20
 t31 := Go.Proofs.Tryz.underlying40
 a31 := Go.Proofs.Tryz.isAgg40
 z31 := Go.Proofs.Tryz.sizeOf40
 v31 := Go.Proofs.Tryz.zeroValue40
 t37 := Go.Proofs.Tryz.underlying22
 a37 := Go.Proofs.Tryz.isAgg22
 z37 := Go.Proofs.Tryz.sizeOf22
 v37 := Go.Proofs.Tryz.zeroValue22
 t70 := Go.Proofs.Tryz.underlying126
 a70 := Go.Proofs.Tryz.isAgg126
 z70 := Go.Proofs.Tryz.sizeOf126
 v70 := Go.Proofs.Tryz.zeroValue126
 t72 := Go.Proofs.Tryz.underlying128
 a72 := Go.Proofs.Tryz.isAgg128
 z72 := Go.Proofs.Tryz.sizeOf128
 v72 := Go.Proofs.Tryz.zeroValue128
 t75 := Go.Proofs.Tryz.underlying131
 a75 := Go.Proofs.Tryz.isAgg131
 z75 := Go.Proofs.Tryz.sizeOf131
 v75 := Go.Proofs.Tryz.zeroValue131
 t76 := Go.Proofs.Tryz.underlying132
 a76 := Go.Proofs.Tryz.isAgg132
 z76 := Go.Proofs.Tryz.sizeOf132
 v76 := Go.Proofs.Tryz.zeroValue132
 t127 := Go.Proofs.Tryz.underlying142
 a127 := Go.Proofs.Tryz.isAgg142
 z127 := Go.Proofs.Tryz.sizeOf142
 v127 := Go.Proofs.Tryz.zeroValue142
 t164 := Go.Proofs.Tryz.underlying154
 a164 := Go.Proofs.Tryz.isAgg154
 z164 := Go.Proofs.Tryz.sizeOf154
 v164 := Go.Proofs.Tryz.zeroValue154 }
--import Derived.Shelf.Strings.OnBuilder
theorem layJoinX : Go.Proofs.Builder.Extra Go.Proofs.Tryz.prog layJoinRen := {
 sizeBuilder := by kernel_rfl
 liesBuilder := by kernel_rfl
 t5 := Go.Proofs.Tryz.underlying5
 a5 := Go.Proofs.Tryz.isAgg5
 z5 := Go.Proofs.Tryz.sizeOf5
 v5 := Go.Proofs.Tryz.zeroValue5
 infoByte := by kernel_rfl
 cellsByte := by kernel_rfl
 sizeByte := by kernel_rfl
 neB5 := by decide }
--import Derived.Shelf.Strconv.Itoa3
def layItoaRen : Go.Shelf.Ren := ⟨fun | 171 => 62 | 243 => 82 | 246 => 99 | 283 => 112 | 284 => 113 | 285 => 114 | 286 => 115 | 129 => 123 | 317 => 122 | 318 => 124 | 319 => 125 | 320 => 126 | 337 => 131 | 338 => 132 | n => n, fun | 3 => 3 | 9 => 9 | 2 => 2 | 4 => 4 | 171 => 135 | 0 => 0 | 53 => 136 | 37 => 22 | 5 => 5 | 173 => 139 | 212 => 144 | 51 => 145 | 20 => 20 | 213 => 146 | 46 => 102 | 232 => 158 | 233 => 159 | n => n, fun | 17 => 1 | 18 => 4 | 19 => 5 | n => n⟩
theorem layItoa : Go.Proofs.LaysM.n171 Go.Proofs.Tryz.prog layItoaRen := {
 mixed := by kernel_rfl
 f129 := Go.Proofs.Tryz.func123.trans (congrArg some (by kernel_rfl))
 f171 := Go.Proofs.Tryz.func62.trans (congrArg some (by kernel_rfl))
 f243 := Go.Proofs.Tryz.func82.trans (congrArg some (by kernel_rfl))
 f246 := Go.Proofs.Tryz.func99.trans (congrArg some (by kernel_rfl))
 f283 := Go.Proofs.Tryz.func112.trans (congrArg some (by kernel_rfl))
 f284 := Go.Proofs.Tryz.func113.trans (congrArg some (by kernel_rfl))
 f285 := Go.Proofs.Tryz.func114.trans (congrArg some (by kernel_rfl))
 f286 := Go.Proofs.Tryz.func115.trans (congrArg some (by kernel_rfl))
 f317 := Go.Proofs.Tryz.func122.trans (congrArg some (by kernel_rfl))
 f318 := Go.Proofs.Tryz.func124.trans (congrArg some (by kernel_rfl))
 f319 := Go.Proofs.Tryz.func125.trans (congrArg some (by kernel_rfl))
 f320 := Go.Proofs.Tryz.func126.trans (congrArg some (by kernel_rfl))
 f337 := Go.Proofs.Tryz.func131.trans (congrArg some (by kernel_rfl))
 f338 := Go.Proofs.Tryz.func132.trans (congrArg some (by kernel_rfl))
 t0 := Go.Proofs.Tryz.underlying0
 a0 := Go.Proofs.Tryz.isAgg0
 z0 := Go.Proofs.Tryz.sizeOf0
 v0 := Go.Proofs.Tryz.zeroValue0
 t2 := Go.Proofs.Tryz.underlying2
 a2 := Go.Proofs.Tryz.isAgg2
 z2 := Go.Proofs.Tryz.sizeOf2
 v2 := Go.Proofs.Tryz.zeroValue2
 t3 := Go.Proofs.Tryz.underlying3
 a3 := Go.Proofs.Tryz.isAgg3
 z3 := Go.Proofs.Tryz.sizeOf3
 v3 := Go.Proofs.Tryz.zeroValue3
 t4 := Go.Proofs.Tryz.underlying4
 a4 := Go.Proofs.Tryz.isAgg4
 z4 := Go.Proofs.Tryz.sizeOf4
 v4 := Go.Proofs.Tryz.zeroValue4
 t5 := Go.Proofs.Tryz.underlying5
 a5 := Go.Proofs.Tryz.isAgg5
 z5 := Go.Proofs.Tryz.sizeOf5
 v5 := Go.Proofs.Tryz.zeroValue5
 t9 := Go.Proofs.Tryz.underlying9
 a9 := Go.Proofs.Tryz.isAgg9
 z9 := Go.Proofs.Tryz.sizeOf9
 v9 := Go.Proofs.Tryz.zeroValue9
 t20 := Go.Proofs.Tryz.underlying20
 a20 := Go.Proofs.Tryz.isAgg20
 z20 := Go.Proofs.Tryz.sizeOf20
 v20 := Go.Proofs.Tryz.zeroValue20
 t37 := Go.Proofs.Tryz.underlying22
 a37 := Go.Proofs.Tryz.isAgg22
 z37 := Go.Proofs.Tryz.sizeOf22
 v37 := Go.Proofs.Tryz.zeroValue22
 t46 := Go.Proofs.Tryz.underlying102
 a46 := Go.Proofs.Tryz.isAgg102
 z46 := Go.Proofs.Tryz.sizeOf102
 v46 := Go.Proofs.Tryz.zeroValue102
 t51 := Go.Proofs.Tryz.underlying145
 a51 := Go.Proofs.Tryz.isAgg145
 z51 := Go.Proofs.Tryz.sizeOf145
 v51 := Go.Proofs.Tryz.zeroValue145
 t53 := Go.Proofs.Tryz.underlying136
 a53 := Go.Proofs.Tryz.isAgg136
 z53 := Go.Proofs.Tryz.sizeOf136
 v53 := Go.Proofs.Tryz.zeroValue136
 t171 := Go.Proofs.Tryz.underlying135
 a171 := Go.Proofs.Tryz.isAgg135
 z171 := Go.Proofs.Tryz.sizeOf135
 v171 := Go.Proofs.Tryz.zeroValue135
 t173 := Go.Proofs.Tryz.underlying139
 a173 := Go.Proofs.Tryz.isAgg139
 z173 := Go.Proofs.Tryz.sizeOf139
 v173 := Go.Proofs.Tryz.zeroValue139
 t212 := Go.Proofs.Tryz.underlying144
 a212 := Go.Proofs.Tryz.isAgg144
 z212 := Go.Proofs.Tryz.sizeOf144
 v212 := Go.Proofs.Tryz.zeroValue144
 t213 := Go.Proofs.Tryz.underlying146
 a213 := Go.Proofs.Tryz.isAgg146
 z213 := Go.Proofs.Tryz.sizeOf146
 t232 := Go.Proofs.Tryz.underlying158
 a232 := Go.Proofs.Tryz.isAgg158
 z232 := Go.Proofs.Tryz.sizeOf158
 v232 := Go.Proofs.Tryz.zeroValue158
 t233 := Go.Proofs.Tryz.underlying159
 a233 := Go.Proofs.Tryz.isAgg159
 z233 := Go.Proofs.Tryz.sizeOf159
 v233 := Go.Proofs.Tryz.zeroValue159
 g17 := by kernel_rfl
 g18 := by kernel_rfl
 g19 := by kernel_rfl
 i0 := by kernel_rfl
 i2 := by kernel_rfl
 i3 := by kernel_rfl
 i4 := by kernel_rfl
 i5 := by kernel_rfl
 i9 := by kernel_rfl
 i20 := by kernel_rfl
 i37 := by kernel_rfl
 i46 := by kernel_rfl
 i51 := by kernel_rfl
 i53 := by kernel_rfl
 i171 := by kernel_rfl
 i173 := by kernel_rfl
 i212 := by kernel_rfl
 i232 := by kernel_rfl
 i233 := by kernel_rfl
 m17 := by kernel_rfl
 m18 := by kernel_rfl
 m19 := by kernel_rfl }
--import Derived.Shelf.Strings.Split
def laySplitRen : Go.Shelf.Ren := ⟨fun | 146 => 64 | 221 => 63 | 268 => 83 | 138 => 84 | 143 => 85 | 195 => 100 | 197 => 101 | 218 => 102 | 219 => 103 | 260 => 116 | 217 => 117 | 225 => 107 | 224 => 106 | 267 => 118 | 266 => 127 | 314 => 128 | n => n, fun | 9 => 9 | 31 => 40 | 3 => 3 | 4 => 4 | 0 => 0 | 105 => 121 | 21 => 21 | 5 => 5 | 46 => 102 | 119 => 148 | 139 => 151 | 138 => 150 | 146 => 152 | 51 => 145 | n => n, fun | 1 => 0 | 3 => 2 | 4 => 3 | n => n⟩
theorem laySplit : Go.Proofs.Lays.n146 Go.Proofs.Tryz.prog laySplitRen := {
 mixed := by kernel_rfl
 f138 := Go.Proofs.Tryz.func84.trans (congrArg some (by kernel_rfl))
 f143 := Go.Proofs.Tryz.func85.trans (congrArg some (by kernel_rfl))
 f146 := Go.Proofs.Tryz.func64.trans (congrArg some (by kernel_rfl))
 f195 := Go.Proofs.Tryz.func100.trans (congrArg some (by kernel_rfl))
 f197 := Go.Proofs.Tryz.func101.trans (congrArg some (by kernel_rfl))
 f217 := Go.Proofs.Tryz.func117.trans (congrArg some (by kernel_rfl))
 f218 := Go.Proofs.Tryz.func102.trans (congrArg some (by kernel_rfl))
 f219 := Go.Proofs.Tryz.func103.trans (congrArg some (by kernel_rfl))
 f221 := Go.Proofs.Tryz.func63.trans (congrArg some (by kernel_rfl))
 f224 := Go.Proofs.Tryz.func106.trans (congrArg some (by kernel_rfl))
 f225 := Go.Proofs.Tryz.func107.trans (congrArg some (by kernel_rfl))
 f260 := Go.Proofs.Tryz.func116.trans (congrArg some (by kernel_rfl))
 f266 := Go.Proofs.Tryz.func127.trans (congrArg some (by kernel_rfl))
 f267 := Go.Proofs.Tryz.func118.trans (congrArg some (by kernel_rfl))
 f268 := Go.Proofs.Tryz.func83.trans (congrArg some (by kernel_rfl))
 f314 := Go.Proofs.Tryz.func128.trans (congrArg some (by kernel_rfl))
 t0 := Go.Proofs.Tryz.underlying0
 a0 := Go.Proofs.Tryz.isAgg0
 z0 := Go.Proofs.Tryz.sizeOf0
 v0 := Go.Proofs.Tryz.zeroValue0
 t3 := Go.Proofs.Tryz.underlying3
 a3 := Go.Proofs.Tryz.isAgg3
 z3 := Go.Proofs.Tryz.sizeOf3
 v3 := Go.Proofs.Tryz.zeroValue3
 t4 := Go.Proofs.Tryz.underlying4
 a4 := Go.Proofs.Tryz.isAgg4
 z4 := Go.Proofs.Tryz.sizeOf4
 v4 := Go.Proofs.Tryz.zeroValue4
 t5 := Go.Proofs.Tryz.underlying5
 a5 := Go.Proofs.Tryz.isAgg5
 z5 := Go.Proofs.Tryz.sizeOf5
 v5 := Go.Proofs.Tryz.zeroValue5
 t9 := Go.Proofs.Tryz.underlying9
 a9 := Go.Proofs.Tryz.isAgg9
 z9 := Go.Proofs.Tryz.sizeOf9
 v9 := Go.Proofs.Tryz.zeroValue9
 t21 := Go.Proofs.Tryz.underlying21
 a21 := Go.Proofs.Tryz.isAgg21
 z21 := Go.Proofs.Tryz.sizeOf21
 v21 := Go.Proofs.Tryz.zeroValue21
 t31 := Go.Proofs.Tryz.underlying40
 a31 := Go.Proofs.Tryz.isAgg40
 z31 := Go.Proofs.Tryz.sizeOf40
 v31 := Go.Proofs.Tryz.zeroValue40
 t46 := Go.Proofs.Tryz.underlying102
 a46 := Go.Proofs.Tryz.isAgg102
 z46 := Go.Proofs.Tryz.sizeOf102
 v46 := Go.Proofs.Tryz.zeroValue102
 t51 := Go.Proofs.Tryz.underlying145
 a51 := Go.Proofs.Tryz.isAgg145
 z51 := Go.Proofs.Tryz.sizeOf145
 v51 := Go.Proofs.Tryz.zeroValue145
 t105 := Go.Proofs.Tryz.underlying121
 a105 := Go.Proofs.Tryz.isAgg121
 z105 := Go.Proofs.Tryz.sizeOf121
 v105 := Go.Proofs.Tryz.zeroValue121
 t119 := Go.Proofs.Tryz.underlying148
 a119 := Go.Proofs.Tryz.isAgg148
 z119 := Go.Proofs.Tryz.sizeOf148
 t138 := Go.Proofs.Tryz.underlying150
 a138 := Go.Proofs.Tryz.isAgg150
 z138 := Go.Proofs.Tryz.sizeOf150
 v138 := Go.Proofs.Tryz.zeroValue150
 t139 := Go.Proofs.Tryz.underlying151
 a139 := Go.Proofs.Tryz.isAgg151
 z139 := Go.Proofs.Tryz.sizeOf151
 v139 := Go.Proofs.Tryz.zeroValue151
 t146 := Go.Proofs.Tryz.underlying152
 a146 := Go.Proofs.Tryz.isAgg152
 z146 := Go.Proofs.Tryz.sizeOf152
 v146 := Go.Proofs.Tryz.zeroValue152
 g1 := by kernel_rfl
 g3 := by kernel_rfl
 g4 := by kernel_rfl }
--import Derived.Shelf.Strings.Split
def laySplitNRen : Go.Shelf.Ren := ⟨fun | 147 => 34 | 221 => 63 | 268 => 83 | 138 => 84 | 143 => 85 | 195 => 100 | 197 => 101 | 218 => 102 | 219 => 103 | 260 => 116 | 217 => 117 | 225 => 107 | 224 => 106 | 267 => 118 | 266 => 127 | 314 => 128 | n => n, fun | 9 => 9 | 3 => 3 | 31 => 40 | 4 => 4 | 0 => 0 | 105 => 121 | 21 => 21 | 5 => 5 | 46 => 102 | 119 => 148 | 139 => 151 | 138 => 150 | 146 => 152 | 51 => 145 | n => n, fun | 1 => 0 | 3 => 2 | 4 => 3 | n => n⟩
theorem laySplitN : Go.Proofs.Lays.n147 Go.Proofs.Tryz.prog laySplitNRen := {
 mixed := by kernel_rfl
 f138 := Go.Proofs.Tryz.func84.trans (congrArg some (by kernel_rfl))
 f143 := Go.Proofs.Tryz.func85.trans (congrArg some (by kernel_rfl))
 f147 := Go.Proofs.Tryz.func34.trans (congrArg some (by kernel_rfl))
 f195 := Go.Proofs.Tryz.func100.trans (congrArg some (by kernel_rfl))
 f197 := Go.Proofs.Tryz.func101.trans (congrArg some (by kernel_rfl))
 f217 := Go.Proofs.Tryz.func117.trans (congrArg some (by kernel_rfl))
 f218 := Go.Proofs.Tryz.func102.trans (congrArg some (by kernel_rfl))
 f219 := Go.Proofs.Tryz.func103.trans (congrArg some (by kernel_rfl))
 f221 := Go.Proofs.Tryz.func63.trans (congrArg some (by kernel_rfl))
 f224 := Go.Proofs.Tryz.func106.trans (congrArg some (by kernel_rfl))
 f225 := Go.Proofs.Tryz.func107.trans (congrArg some (by kernel_rfl))
 f260 := Go.Proofs.Tryz.func116.trans (congrArg some (by kernel_rfl))
 f266 := Go.Proofs.Tryz.func127.trans (congrArg some (by kernel_rfl))
 f267 := Go.Proofs.Tryz.func118.trans (congrArg some (by kernel_rfl))
 f268 := Go.Proofs.Tryz.func83.trans (congrArg some (by kernel_rfl))
 f314 := Go.Proofs.Tryz.func128.trans (congrArg some (by kernel_rfl))
 t0 := Go.Proofs.Tryz.underlying0
 a0 := Go.Proofs.Tryz.isAgg0
 z0 := Go.Proofs.Tryz.sizeOf0
 v0 := Go.Proofs.Tryz.zeroValue0
 t3 := Go.Proofs.Tryz.underlying3
 a3 := Go.Proofs.Tryz.isAgg3
 z3 := Go.Proofs.Tryz.sizeOf3
 v3 := Go.Proofs.Tryz.zeroValue3
 t4 := Go.Proofs.Tryz.underlying4
 a4 := Go.Proofs.Tryz.isAgg4
 z4 := Go.Proofs.Tryz.sizeOf4
 v4 := Go.Proofs.Tryz.zeroValue4
 t5 := Go.Proofs.Tryz.underlying5
 a5 := Go.Proofs.Tryz.isAgg5
 z5 := Go.Proofs.Tryz.sizeOf5
 v5 := Go.Proofs.Tryz.zeroValue5
 t9 := Go.Proofs.Tryz.underlying9
 a9 := Go.Proofs.Tryz.isAgg9
 z9 := Go.Proofs.Tryz.sizeOf9
 v9 := Go.Proofs.Tryz.zeroValue9
 t21 := Go.Proofs.Tryz.underlying21
 a21 := Go.Proofs.Tryz.isAgg21
 z21 := Go.Proofs.Tryz.sizeOf21
 v21 := Go.Proofs.Tryz.zeroValue21
 t31 := Go.Proofs.Tryz.underlying40
 a31 := Go.Proofs.Tryz.isAgg40
 z31 := Go.Proofs.Tryz.sizeOf40
 v31 := Go.Proofs.Tryz.zeroValue40
 t46 := Go.Proofs.Tryz.underlying102
 a46 := Go.Proofs.Tryz.isAgg102
 z46 := Go.Proofs.Tryz.sizeOf102
 v46 := Go.Proofs.Tryz.zeroValue102
 t51 := Go.Proofs.Tryz.underlying145
 a51 := Go.Proofs.Tryz.isAgg145
 z51 := Go.Proofs.Tryz.sizeOf145
 v51 := Go.Proofs.Tryz.zeroValue145
 t105 := Go.Proofs.Tryz.underlying121
 a105 := Go.Proofs.Tryz.isAgg121
 z105 := Go.Proofs.Tryz.sizeOf121
 v105 := Go.Proofs.Tryz.zeroValue121
 t119 := Go.Proofs.Tryz.underlying148
 a119 := Go.Proofs.Tryz.isAgg148
 z119 := Go.Proofs.Tryz.sizeOf148
 t138 := Go.Proofs.Tryz.underlying150
 a138 := Go.Proofs.Tryz.isAgg150
 z138 := Go.Proofs.Tryz.sizeOf150
 v138 := Go.Proofs.Tryz.zeroValue150
 t139 := Go.Proofs.Tryz.underlying151
 a139 := Go.Proofs.Tryz.isAgg151
 z139 := Go.Proofs.Tryz.sizeOf151
 v139 := Go.Proofs.Tryz.zeroValue151
 t146 := Go.Proofs.Tryz.underlying152
 a146 := Go.Proofs.Tryz.isAgg152
 z146 := Go.Proofs.Tryz.sizeOf152
 v146 := Go.Proofs.Tryz.zeroValue152
 g1 := by kernel_rfl
 g3 := by kernel_rfl
 g4 := by kernel_rfl }
--import Derived.Shelf.Strings.Cut
def layCutRen : Go.Shelf.Ren := ⟨fun | 145 => 65 | 220 => 86 | 219 => 103 | 217 => 117 | 225 => 107 | 224 => 106 | 267 => 118 | 266 => 127 | 314 => 128 | n => n, fun | 9 => 9 | 4 => 4 | 59 => 95 | 3 => 3 | 5 => 5 | 46 => 102 | 146 => 152 | 51 => 145 | n => n, fun | 1 => 0 | n => n⟩
theorem layCut : Go.Proofs.Lays.n145 Go.Proofs.Tryz.prog layCutRen := {
 mixed := by kernel_rfl
 f145 := Go.Proofs.Tryz.func65.trans (congrArg some (by kernel_rfl))
 f217 := Go.Proofs.Tryz.func117.trans (congrArg some (by kernel_rfl))
 f219 := Go.Proofs.Tryz.func103.trans (congrArg some (by kernel_rfl))
 f220 := Go.Proofs.Tryz.func86.trans (congrArg some (by kernel_rfl))
 f224 := Go.Proofs.Tryz.func106.trans (congrArg some (by kernel_rfl))
 f225 := Go.Proofs.Tryz.func107.trans (congrArg some (by kernel_rfl))
 f266 := Go.Proofs.Tryz.func127.trans (congrArg some (by kernel_rfl))
 f267 := Go.Proofs.Tryz.func118.trans (congrArg some (by kernel_rfl))
 f314 := Go.Proofs.Tryz.func128.trans (congrArg some (by kernel_rfl))
 t3 := Go.Proofs.Tryz.underlying3
 a3 := Go.Proofs.Tryz.isAgg3
 z3 := Go.Proofs.Tryz.sizeOf3
 v3 := Go.Proofs.Tryz.zeroValue3
 t4 := Go.Proofs.Tryz.underlying4
 a4 := Go.Proofs.Tryz.isAgg4
 z4 := Go.Proofs.Tryz.sizeOf4
 v4 := Go.Proofs.Tryz.zeroValue4
 t5 := Go.Proofs.Tryz.underlying5
 a5 := Go.Proofs.Tryz.isAgg5
 z5 := Go.Proofs.Tryz.sizeOf5
 v5 := Go.Proofs.Tryz.zeroValue5
 t9 := Go.Proofs.Tryz.underlying9
 a9 := Go.Proofs.Tryz.isAgg9
 z9 := Go.Proofs.Tryz.sizeOf9
 v9 := Go.Proofs.Tryz.zeroValue9
 t46 := Go.Proofs.Tryz.underlying102
 a46 := Go.Proofs.Tryz.isAgg102
 z46 := Go.Proofs.Tryz.sizeOf102
 v46 := Go.Proofs.Tryz.zeroValue102
 t51 := Go.Proofs.Tryz.underlying145
 a51 := Go.Proofs.Tryz.isAgg145
 z51 := Go.Proofs.Tryz.sizeOf145
 v51 := Go.Proofs.Tryz.zeroValue145
 t59 := Go.Proofs.Tryz.underlying95
 a59 := Go.Proofs.Tryz.isAgg95
 z59 := Go.Proofs.Tryz.sizeOf95
 v59 := Go.Proofs.Tryz.zeroValue95
 t146 := Go.Proofs.Tryz.underlying152
 a146 := Go.Proofs.Tryz.isAgg152
 z146 := Go.Proofs.Tryz.sizeOf152
 v146 := Go.Proofs.Tryz.zeroValue152
 g1 := by kernel_rfl }
--import Derived.Shelf.Strings.IndexAnyAll
def layIdxRen : Go.Shelf.Ren := ⟨fun | 153 => 66 | 152 => 87 | 226 => 88 | 227 => 89 | 228 => 90 | 137 => 104 | 119 => 105 | 224 => 106 | 225 => 107 | 217 => 117 | 266 => 127 | n => n, fun | 9 => 9 | 3 => 3 | 4 => 4 | 5 => 5 | 21 => 21 | 117 => 112 | 116 => 111 | 0 => 0 | 46 => 102 | 124 => 125 | n => n, fun | n => n⟩
theorem layIdx : Go.Proofs.Lays.n153 Go.Proofs.Tryz.prog layIdxRen := {
 mixed := by kernel_rfl
 f119 := Go.Proofs.Tryz.func105.trans (congrArg some (by kernel_rfl))
 f137 := Go.Proofs.Tryz.func104.trans (congrArg some (by kernel_rfl))
 f152 := Go.Proofs.Tryz.func87.trans (congrArg some (by kernel_rfl))
 f153 := Go.Proofs.Tryz.func66.trans (congrArg some (by kernel_rfl))
 f217 := Go.Proofs.Tryz.func117.trans (congrArg some (by kernel_rfl))
 f224 := Go.Proofs.Tryz.func106.trans (congrArg some (by kernel_rfl))
 f225 := Go.Proofs.Tryz.func107.trans (congrArg some (by kernel_rfl))
 f226 := Go.Proofs.Tryz.func88.trans (congrArg some (by kernel_rfl))
 f227 := Go.Proofs.Tryz.func89.trans (congrArg some (by kernel_rfl))
 f228 := Go.Proofs.Tryz.func90.trans (congrArg some (by kernel_rfl))
 f266 := Go.Proofs.Tryz.func127.trans (congrArg some (by kernel_rfl))
 t0 := Go.Proofs.Tryz.underlying0
 a0 := Go.Proofs.Tryz.isAgg0
 z0 := Go.Proofs.Tryz.sizeOf0
 v0 := Go.Proofs.Tryz.zeroValue0
 t3 := Go.Proofs.Tryz.underlying3
 a3 := Go.Proofs.Tryz.isAgg3
 z3 := Go.Proofs.Tryz.sizeOf3
 v3 := Go.Proofs.Tryz.zeroValue3
 t4 := Go.Proofs.Tryz.underlying4
 a4 := Go.Proofs.Tryz.isAgg4
 z4 := Go.Proofs.Tryz.sizeOf4
 v4 := Go.Proofs.Tryz.zeroValue4
 t5 := Go.Proofs.Tryz.underlying5
 a5 := Go.Proofs.Tryz.isAgg5
 z5 := Go.Proofs.Tryz.sizeOf5
 v5 := Go.Proofs.Tryz.zeroValue5
 t9 := Go.Proofs.Tryz.underlying9
 a9 := Go.Proofs.Tryz.isAgg9
 z9 := Go.Proofs.Tryz.sizeOf9
 v9 := Go.Proofs.Tryz.zeroValue9
 t21 := Go.Proofs.Tryz.underlying21
 a21 := Go.Proofs.Tryz.isAgg21
 z21 := Go.Proofs.Tryz.sizeOf21
 v21 := Go.Proofs.Tryz.zeroValue21
 t46 := Go.Proofs.Tryz.underlying102
 a46 := Go.Proofs.Tryz.isAgg102
 z46 := Go.Proofs.Tryz.sizeOf102
 v46 := Go.Proofs.Tryz.zeroValue102
 t116 := Go.Proofs.Tryz.underlying111
 a116 := Go.Proofs.Tryz.isAgg111
 z116 := Go.Proofs.Tryz.sizeOf111
 t117 := Go.Proofs.Tryz.underlying112
 a117 := Go.Proofs.Tryz.isAgg112
 z117 := Go.Proofs.Tryz.sizeOf112
 v117 := Go.Proofs.Tryz.zeroValue112
 t124 := Go.Proofs.Tryz.underlying125
 a124 := Go.Proofs.Tryz.isAgg125
 z124 := Go.Proofs.Tryz.sizeOf125
 v124 := Go.Proofs.Tryz.zeroValue125 }
abbrev n_strings_Join : Nat := 97
theorem cl_strings_Join : Callable Pr n_strings_Join := ⟨Go.Proofs.Tryz.f97, Go.Proofs.Tryz.func97, fun h => by
 have e : (Go.Proofs.Tryz.f97.name == "runtime.NumGoroutine") = false := by kernel_rfl
 rw [h] at e
 simp at e, by kernel_rfl⟩
theorem cl_strconv_Itoa : Callable Pr n_strconv_Itoa := ⟨Go.Proofs.Tryz.f62, Go.Proofs.Tryz.func62, fun h => by
 have e : (Go.Proofs.Tryz.f62.name == "runtime.NumGoroutine") = false := by kernel_rfl
 rw [h] at e
 simp at e, by kernel_rfl⟩
theorem cl_strings_Split : Callable Pr n_strings_Split := ⟨Go.Proofs.Tryz.f64, Go.Proofs.Tryz.func64, fun h => by
 have e : (Go.Proofs.Tryz.f64.name == "runtime.NumGoroutine") = false := by kernel_rfl
 rw [h] at e
 simp at e, by kernel_rfl⟩
theorem cl_strings_SplitN : Callable Pr n_strings_SplitN := ⟨Go.Proofs.Tryz.f34, Go.Proofs.Tryz.func34, fun h => by
 have e : (Go.Proofs.Tryz.f34.name == "runtime.NumGoroutine") = false := by kernel_rfl
 rw [h] at e
 simp at e, by kernel_rfl⟩
theorem cl_strings_Cut : Callable Pr n_strings_Cut := ⟨Go.Proofs.Tryz.f65, Go.Proofs.Tryz.func65, fun h => by
 have e : (Go.Proofs.Tryz.f65.name == "runtime.NumGoroutine") = false := by kernel_rfl
 rw [h] at e
 simp at e, by kernel_rfl⟩
theorem cl_strings_IndexAny : Callable Pr n_strings_IndexAny := ⟨Go.Proofs.Tryz.f66, Go.Proofs.Tryz.func66, fun h => by
 have e : (Go.Proofs.Tryz.f66.name == "runtime.NumGoroutine") = false := by kernel_rfl
 rw [h] at e
 simp at e, by kernel_rfl⟩
theorem tab_here : Pr.globalNamed tabN = some 1 := by kernel_rfl
theorem len_here : Pr.globalNamed lenN = some 0 := by kernel_rfl
--import Derived.Lib.ItoaNum
def sI (n : Int) : ByteArray := ⟨(Lib.itoa n).toArray⟩
theorem sI_one {n : Int} (h0 : 0 ≤ n) (h1 : n < 10) : sI n = ⟨#[UInt8.ofNat (48 + n.toNat)]⟩ := by
 rw [sI, Lib.itoa, if_neg (by omega), Lib.decDigits_one (by omega)]
theorem sI_two {n : Int} (h0 : 10 ≤ n) (h1 : n < 100) : sI n = ⟨#[UInt8.ofNat (48 + n.toNat / 10), UInt8.ofNat (48 + n.toNat % 10)]⟩ := by
 rw [sI, Lib.itoa, if_neg (by omega), Lib.decDigits_two (by omega) (by omega)]
theorem sI_size {n : Int} (h0 : 0 ≤ n) (h1 : n < 100) : 1 ≤ (sI n).size ∧ (sI n).size ≤ 2 := by
 by_cases h : n < 10
 ·rw [sI_one h0 h]; exact ⟨by simp [ByteArray.size], by simp [ByteArray.size]⟩
 ·rw [sI_two (by omega) h1]; exact ⟨by simp [ByteArray.size], by simp [ByteArray.size]⟩
theorem nDig_le (u : Nat) : Lib.nDigits u ≤ u / 10 + 1 := by
 induction u using Nat.strongRecOn with
 | _ u ih =>
   by_cases h : u < 10
   ·rw [Lib.nDigits_small h]; omega
   ·rw [Lib.nDigits_big h]
    have := ih (u / 10) (by omega)
    omega
theorem decDig_big {u : Nat} (h : ¬ u < 10) : Lib.decDigits u = Lib.decDigits (u / 10) ++ [UInt8.ofNat (48 + u % 10)] := by
 rw [Lib.decDigits, dif_neg h]
theorem bytes_ext {a b : ByteArray} (h : a.data.toList = b.data.toList) : a = b := by
 cases a; cases b
 congr 1
 exact Array.toList_inj.1 h
theorem sI_list (n : Int) : (sI n).data.toList = Lib.itoa n := by simp [sI]
theorem sI_pos {n : Int} (h : 0 ≤ n) : sI n = ⟨(Lib.decDigits n.toNat).toArray⟩ := by rw [sI, Lib.itoa, if_neg (by omega)]
theorem Sat.ari8 {P : Program} {Q : AV → Prop} {As : List (St → Prop)} {v : Unit → Int} {c : (Unit → Int) → Tree} (h1 : 0 ≤ v ()) (h2 : v () ≤ 255) (hc : Sat P Q As (c v)) : Sat P Q As (.ari .u8 v c) :=
 .ari (IntWalk.u8_in _ ⟨h1, h2⟩) hc
theorem strOf_one {d : Int} : strOfNums [d] = ⟨#[UInt8.ofNat d.toNat]⟩ := rfl
theorem w_spec_FormatInt (n : Int) (h0 : 0 ≤ n) (h1 : n ≤ 9223372036854775807) : Fn Pr n_spec_FormatInt [.int .i64 (fun _ => n)] (.str (fun _ => sI n)) := by
 refine k_spec_FormatInt.fn (by kernel_rfl) ?_
 conv=>arg 4;cbv
 refine Sat.cmp (fun h => ?_) (fun h => ?_) <;> simp only [Cmp.holds] at h <;> (conv=>arg 4;cbv)
 ·refine Sat.done (.str ?_)
  subst h
  rw [sI_one (by omega) (by omega)]
  rfl
 refine Sat.cmp (fun h => ?_) (fun h => ?_) <;> simp only [Cmp.holds] at h <;> (conv=>arg 4;cbv)
 ·exfalso; omega
 refine Sat.loopP (ι := Nat × ByteArray) (fun i => [(0, .int .i64 (fun _ => (i.1 : Int))), (3, .str (fun _ => i.2))]) (fun i => []) (fun i => (i.1 : Int) ≤ n ∧ (i.1 ≠ 0 → Lib.decDigits i.1 ++ i.2.data.toList = Lib.decDigits n.toNat) ∧ (i.1 = 0 → i.2.data.toList = Lib.decDigits n.toNat)) (fun i => i.1) (n.toNat, ⟨#[]⟩) ?_ ⟨by simp only; omega, fun _ => by simp, fun h => by exfalso; simp only at h; omega⟩ (fun i hi => ?_)
 ·refine les_of ?_ ?_ rfl
  iterate 2 (focus repeat' (first | exact trivial | refine And.intro ?_ ?_ | exact levA | refine lev_cons ?_ ?_ | refine LeV.agg rfl ?_ | exact Nat.le_of_ble_eq_true rfl | exact Or.inl ⟨_, rfl, .row rfl⟩ | refine Or.inl ⟨_, rfl, .row ?_⟩ | refine Or.inl ⟨_, rfl, .lit rfl ?_⟩ | exact Or.inr ⟨rfl, rfl⟩ | (exact .int (by omega))))
 obtain ⟨m, s⟩ := i
 obtain ⟨hm, hs1, hs2⟩ := hi
 simp only at hm hs1 hs2
 have hd : Int.tmod (m : Int) 10 = ((m % 10 : Nat) : Int) := rfl
 have hq : Int.tdiv (m : Int) 10 = ((m / 10 : Nat) : Int) := rfl
 conv=>arg 4;cbv
 refine Sat.cmp (fun h => ?_) (fun h => ?_) <;> simp only [Cmp.holds] at h <;> (conv=>arg 4;cbv)
 ·refine Sat.pop ?_
  conv=>arg 4;cbv
  refine Sat.done (.str ?_)
  simp only [ncast] at *
  rw [sI_pos h0]
  exact bytes_ext (by rw [hs2 (by omega)])
 have hm0 : m ≠ 0 := by simp only [ncast] at *; omega
 have hlen : s.size + 1 ≤ 9223372036854775807 := by
  have e := congrArg List.length (hs1 hm0)
  have e2 := nDig_le n.toNat
  have e3 := Lib.nDigits_pos m
  rw [List.length_append, Lib.decDigits_length, Lib.decDigits_length] at e
  have e4 : s.data.toList.length = s.size := rfl
  omega
 refine Sat.need (by decide) ?_
 conv=>arg 4;cbv
 refine Sat.cmp (fun h => ?_) (fun h => ?_) <;> simp only [Cmp.holds] at h <;> (conv=>arg 4;cbv)
 ·exfalso
  simp only [ncast] at *
  omega
 refine Sat.ari64 (by (try dsimp only); simp only [ncast] at *; omega) (by (try dsimp only); simp only [ncast] at *; omega) ?_
 conv=>arg 4;cbv
 refine Sat.ari8 (by (try dsimp only); simp only [ncast] at *; omega) (by (try dsimp only); simp only [ncast] at *; omega) ?_
 conv=>arg 4;cbv
 refine Sat.same ?_
 conv=>arg 4;cbv
 refine Sat.need (by
  show (strOfNums [48 + Int.tmod (m : Int) 10]).size + s.size ≤ _
  rw [strOfNums_size]
  simp only [List.length_cons, List.length_nil]
  omega) ?_
 conv=>arg 4;cbv
 refine Sat.need (by decide) ?_
 conv=>arg 4;cbv
 refine Sat.ari64 (by (try dsimp only); simp only [ncast] at *; omega) (by (try dsimp only); simp only [ncast] at *; omega) ?_
 conv=>arg 4;cbv
 refine Sat.next (m / 10, strOfNums [48 + Int.tmod (m : Int) 10] ++ s) ?_ ?_ (by (try dsimp only); omega)
 ·exact lesA
 ·have e : (strOfNums [48 + Int.tmod (m : Int) 10] ++ s).data.toList = UInt8.ofNat (48 + m % 10) :: s.data.toList := by
   rw [hd, strOf_one]
   have : (48 + ((m % 10 : Nat) : Int)).toNat = 48 + m % 10 := by omega
   rw [this]
   simp
  simp only [e]
  refine ⟨Int.le_trans (Int.ofNat_le.2 (Nat.div_le_self m 10)) hm, fun h2 => ?_, fun h2 => ?_⟩
  ·rw [← hs1 hm0, decDig_big (u := m) (by omega)]
   simp
  ·have hm10 : m < 10 := by omega
   rw [← hs1 hm0, Lib.decDigits_one hm10, Nat.mod_eq_of_lt hm10]
   simp
def fS (l : List Int) : ByteArray := ⟨(l.flatMap (fun x => Lib.itoa x)).toArray⟩
theorem fS_snoc {l : List Int} {i : Nat} {x : Int} {s : ByteArray} (hs : s = fS (l.take i)) (hx : l[i]? = some x) : s ++ sI x = fS (l.take (i + 1)) := by
 refine bytes_ext ?_
 have e : l.take (i + 1) = l.take i ++ [x] := by rw [List.take_add_one, hx]; rfl
 rw [hs, e]
 simp [fS, sI]
theorem w_strings_Join (l : List ByteArray) (sep : ByteArray) (hb : l.length ≤ 1048576) (hz : (Lib.join (l.map (·.data.toList)) sep.data.toList).length ≤ 140737488355328) : Fn Pr n_strings_Join [.sl 1 encS (fun _ => l), .str (fun _ => sep)] (.str (fun _ => ⟨(Lib.join (l.map (·.data.toList)) sep.data.toList).toArray⟩)) := by
 refine ⟨cl_strings_Join, fun w vs F htb hsz hargs => ?_⟩
 have ha := hargs 0 _ rfl
 have hs := hargs 1 _ rfl
 have hsz2 : vs.size = 2 := hsz
 have hvs : vs = #[vs.getD 0 Go.undef, vs.getD 1 Go.undef] := by
  apply Array.ext_getElem?
  intro i
  cases i with
  | zero => rw [Array.getD_eq_getD_getElem?, Array.getElem?_eq_getElem (by omega)]; rfl
  | succ i =>
    cases i with
    | zero => rw [Array.getD_eq_getD_getElem? (i := 1), Array.getElem?_eq_getElem (by omega)]; rfl
    | succ i => rw [Array.getElem?_eq_none (by omega), Array.getElem?_eq_none (by simp)]
 have hs1 : vs.getD 1 Go.undef = .string sep := by
  generalize vs.getD 1 Go.undef = v at hs
  generalize F 1 = f1 at hs
  cases hs
  rfl
 rw [hs1] at hvs
 rw [hvs]
 generalize vs.getD 0 Go.undef = v at ha
 generalize F 0 = f0 at ha
 cases ha with
 | sl0 A h =>
   have h : l = [] := h
   subst h
   refine (Go.Proofs.Any.strings_Join_none layJoin layJoinX A 0 sep w).mono ?_
   rintro e w' ⟨rfl, rfl⟩
   exact ⟨_, [], rfl, .str _, List.nodup_nil, fun g hg => (by cases hg), Below.refl _ _⟩
 | @sl _ _ _ _ g off cap cs t fr u G hn hg hr hu hd =>
   have hblk : g < w.heap.size := (Array.getElem?_eq_some_iff.1 hg).1
   refine (Go.Proofs.Any.strings_Join layJoin layJoinX g off cap l sep w (fun j x hx => ?_) hblk (by omega) hn hz).mono ?_
   ·have h2 : Deep w (.str (fun _ => x)) (u j 0) (G j 0) := hd j x hx 0 (by omega)
    have h3 := hu j x hx 0 (by omega)
    have h4 : u j 0 = .string x := by
     generalize u j 0 = q at h2
     generalize G j 0 = q2 at h2
     cases h2
     rfl
    rw [cell_of hg]
    rw [h4] at h3
    rw [show off + j = off + j * 1 + 0 by omega]
    exact h3
   ·rintro e w' ⟨rfl, hB⟩
    exact ⟨_, [], rfl, .str _, List.nodup_nil, fun g hg => (by cases hg), hB⟩
--import Derived.Lib.ItoaNum
def isD (b : UInt8) : Bool := decide (48 ≤ b.toNat ∧ b.toNat ≤ 57)
theorem isD_iff {b : UInt8} : isD b = true ↔ 48 ≤ b.toNat ∧ b.toNat ≤ 57 := by
 rw [isD, decide_eq_true_iff]
def dv (l : List UInt8) : Nat := l.foldl (fun n b => 10 * n + (b.toNat - 48)) 0
theorem dv_snoc (l : List UInt8) (b : UInt8) : dv (l ++ [b]) = 10 * dv l + (b.toNat - 48) := by
 simp [dv, List.foldl_append]
theorem dig_nat {d : Nat} (h : d < 10) : (UInt8.ofNat (48 + d)).toNat = 48 + d := by
 rw [UInt8.toNat_ofNat']
 omega
theorem dv_dec : ∀ u : Nat, dv (Lib.decDigits u) = u := by
 intro u
 induction u using Nat.strongRecOn with
 | _ u ih =>
   by_cases h : u < 10
   ·rw [Lib.decDigits_one h]
    show 10 * 0 + ((UInt8.ofNat (48 + u)).toNat - 48) = u
    rw [dig_nat h]
    omega
   ·rw [decDig_big h, dv_snoc, ih (u / 10) (by omega), dig_nat (Nat.mod_lt _ (by decide))]
    omega
theorem dec_isD : ∀ (u : Nat) (b : UInt8), b ∈ Lib.decDigits u → isD b = true := by
 intro u
 induction u using Nat.strongRecOn with
 | _ u ih =>
   intro b hb
   by_cases h : u < 10
   ·rw [Lib.decDigits_one h, List.mem_singleton] at hb
    subst hb
    rw [isD_iff, dig_nat h]
    omega
   ·rw [decDig_big h, List.mem_append, List.mem_singleton] at hb
    rcases hb with hb | rfl
    ·exact ih (u / 10) (by omega) b hb
    ·rw [isD_iff, dig_nat (Nat.mod_lt _ (by decide))]
     have := Nat.mod_lt u (y := 10) (by decide)
     omega
theorem dv_lt_k : ∀ (k : Nat) (l : List UInt8), l.length = k → (∀ b ∈ l, isD b = true) → dv l < 10 ^ k := by
 intro k
 induction k with
 | zero =>
   intro l hl _
   rw [List.eq_nil_of_length_eq_zero hl]
   decide
 | succ k ih =>
   intro l hl h
   have hne : l ≠ [] := by intro e; subst e; simp at hl
   have e := List.dropLast_concat_getLast hne
   rw [← e] at h ⊢
   have h1 := ih l.dropLast (by rw [List.length_dropLast]; omega) (fun c hc => h c (List.mem_append_left _ hc))
   have h2 := isD_iff.1 (h (l.getLast hne) (List.mem_append_right _ (List.mem_singleton.2 rfl)))
   rw [dv_snoc, Nat.pow_succ]
   omega
theorem dv_lt (l : List UInt8) (h : ∀ b ∈ l, isD b = true) : dv l < 10 ^ l.length := dv_lt_k _ l rfl h
theorem dv_lt_of {l : List UInt8} {k : Nat} (h : ∀ b ∈ l, isD b = true) (hk : l.length ≤ k) : dv l < 10 ^ k :=
 Nat.lt_of_lt_of_le (dv_lt l h) (Nat.pow_le_pow_right (by decide) hk)
def pT (s : ByteArray) : List UInt8 := if s.data.toList.head? = some 45 then s.data.toList.tail else s.data.toList
def pS (s : ByteArray) : Int := if s.data.toList.head? = some 45 then -1 else 1
def pV (s : ByteArray) : Int := pS s * (dv (pT s) : Int)
def pI (s : ByteArray) : Int × Bool := if 1 ≤ (pT s).length ∧ (pT s).length ≤ 9 ∧ (pT s).all isD = true ∧ sI (pV s) = s then (pV s, true) else (0, false)
theorem sI_form {s : ByteArray} {n : Int} (h : sI n = s) : pT s = Lib.decDigits n.natAbs ∧ (n < 0 → s.data.toList.head? = some 45) ∧ (0 ≤ n → s.data.toList.head? ≠ some 45) := by
 have e := sI_list n
 rw [h, Lib.itoa] at e
 by_cases h0 : n < 0
 ·rw [if_pos h0] at e
  have hh : s.data.toList.head? = some 45 := by rw [e]; rfl
  refine ⟨?_, fun _ => hh, fun h1 => by omega⟩
  rw [pT, if_pos hh, e]
  show Lib.decDigits _ = _
  congr 1
 ·rw [if_neg h0] at e
  have hh : s.data.toList.head? ≠ some 45 := by
   rw [e]
   intro hc
   have hm := dec_isD n.toNat 45 (List.mem_of_mem_head? (by rw [hc]; rfl))
   rw [isD_iff] at hm
   exact absurd hm.1 (by decide)
  refine ⟨?_, fun h1 => absurd h1 h0, fun _ => hh⟩
  rw [pT, if_neg hh, e]
  congr 1
  omega
theorem pT_len (s : ByteArray) : (pT s).length ≤ s.size ∧ s.size ≤ (pT s).length + 1 := by
 have e : s.data.toList.length = s.size := rfl
 unfold pT
 split
 ·rw [List.length_tail]; omega
 ·omega
theorem below_grown {w : World} {q : Nat} {os : Array Obj} : Below w.heap.size w (Go.Sort.grow (w.drewN q) os) :=
 ⟨rfl, rfl, rfl, by simp [Go.Sort.grow], fun i hi => by
  show ((w.drewN q).heap ++ os)[i]? = _
  rw [Array.getElem?_append_left (by show i < w.heap.size; omega)]
  rfl⟩
--import Derived.Shelf.Strconv.Itoa3
theorem w_strconv_ItoaG (n : Int) (h0 : -9223372036854775808 ≤ n) (h1 : n ≤ 9223372036854775807) : Fn Pr n_strconv_Itoa [.int .i64 (fun _ => n)] (.str (fun _ => sI n)) := by
 refine ⟨cl_strconv_Itoa, fun w vs F htb hsz hargs => ?_⟩
 have ha := hargs 0 _ rfl
 have hsz1 : vs.size = 1 := hsz
 have hvs : vs = #[.int .i64 n] := by
  apply Array.ext_getElem?
  intro i
  cases i with
  | zero =>
    rw [Array.getD_eq_getD_getElem?, Array.getElem?_eq_getElem (by omega)] at ha
    rw [Array.getElem?_eq_getElem (by omega)]
    generalize vs[0] = v at ha
    generalize F 0 = f1 at ha
    cases ha
    rfl
  | succ i => rw [Array.getElem?_eq_none (by omega), Array.getElem?_eq_none (by simp)]
 rw [hvs]
 refine (Go.Proofs.Any.strconv_Itoa layItoa n h0 h1 w (htb.1 _ tab_here)).mono ?_
 rintro e w' ⟨rfl, k, os, rfl⟩
 exact ⟨_, [], rfl, .str _, List.nodup_nil, fun g hg => (by cases hg), below_grown⟩
--import Derived.Shelf.Strings.Split
theorem w_strings_Split (s sep : ByteArray) (hs : s.size < 4294967281) (h1 : 1 ≤ sep.size) : Fn Pr n_strings_Split [.str (fun _ => s), .str (fun _ => sep)] (.sl 1 encS (fun _ => Lib.splitB sep 0 (Lib.countB s sep) s)) := by
 refine ⟨cl_strings_Split, fun w vs F htb hsz hargs => ?_⟩
 have ha := hargs 0 _ rfl
 have hb := hargs 1 _ rfl
 have hsz2 : vs.size = 2 := hsz
 have hs0 : vs.getD 0 Go.undef = .string s := by
  generalize vs.getD 0 Go.undef = v at ha
  generalize F 0 = f1 at ha
  cases ha
  rfl
 have hs1 : vs.getD 1 Go.undef = .string sep := by
  generalize vs.getD 1 Go.undef = v at hb
  generalize F 1 = f1 at hb
  cases hb
  rfl
 have hvs : vs = #[.string s, .string sep] := by
  rw [← hs0, ← hs1]
  apply Array.ext_getElem?
  intro i
  cases i with
  | zero => rw [Array.getD_eq_getD_getElem?, Array.getElem?_eq_getElem (by omega)]; rfl
  | succ i =>
    cases i with
    | zero => rw [Array.getD_eq_getD_getElem? (i := 1), Array.getElem?_eq_getElem (by omega)]; rfl
    | succ i => rw [Array.getElem?_eq_none (by omega), Array.getElem?_eq_none (by simp)]
 rw [hvs]
 obtain ⟨m, hm⟩ := htb.2 _ len_here
 refine (Go.Proofs.Any.strings_Split laySplit (by kernel_rfl) s sep m w hs hm h1).mono ?_
 have hlen := Lib.splitB_all sep h1 0 _ s rfl
 generalize Lib.splitB sep 0 (Lib.countB s sep) s = l at hlen
 rw [← hlen]
 rintro e w' ⟨rfl, rfl⟩
 generalize laySplitRen.t 9 = ty
 have hg : (w.alloc (.cells (l.map Value.string).toArray ty)).heap[w.heap.size]? = some (.cells (l.map Value.string).toArray ty (0, 0)) := Array.getElem?_push_size
 have hd : Deep (w.alloc (.cells (l.map Value.string).toArray ty)) (.sl 1 encS (fun _ => l)) (.slice (some ⟨w.heap.size, 0, none⟩) l.length l.length) (w.heap.size :: (List.range l.length).flatMap fun i => (List.range 1).flatMap (fun _ => [])) := by
  refine Deep.sl (xs := fun _ => l) (fun i _ => .string (l.getD i ByteArray.empty)) (fun _ _ => []) (Nat.le_refl _) hg (by simp) (fun i x hx j hj => ?_) (fun i x hx j hj => ?_)
  ·have hx : l[i]? = some x := hx
   have : j = 0 := by omega
   subst this
   simp [hx]
  ·have hx : l[i]? = some x := hx
   have e : l.getD i ByteArray.empty = x := by simp [hx]
   show Deep _ (.str (fun _ => x)) (.string (l.getD i ByteArray.empty)) []
   rw [e]
   exact .str _
 have hfp : (w.heap.size :: (List.range l.length).flatMap fun i => (List.range 1).flatMap (fun _ => ([] : List Nat))) = [w.heap.size] := by
  congr 1
  exact List.flatMap_eq_nil_iff.2 (fun i _ => rfl)
 rw [hfp] at hd
 refine ⟨_, _, rfl, hd, by simp, fun g hgm => ?_, Below.alloc (Below.refl _ _) (Nat.le_refl _) _⟩
 rw [List.mem_singleton] at hgm
 subst hgm
 exact ⟨Nat.le_refl _, _, _, hg⟩
theorem w_impl_FormatIntG (n : Int) (h0 : -9223372036854775808 ≤ n) (h1 : n ≤ 9223372036854775807) : Fn Pr n_impl_FormatInt [.int .i64 (fun _ => n)] (.str (fun _ => sI n)) := by
 refine k_impl_FormatInt.fn (by kernel_rfl) ?_
 conv=>arg 4;cbv
 repeat' first
  | (refine Sat.cmp (fun h => ?_) (fun h => ?_) <;> simp only [Cmp.holds] at h <;> (conv=>arg 4;cbv))
  | (refine Sat.call (w_strconv_ItoaG n h0 h1) rfl ledA ?_; conv=>arg 4;cbv)
  | (refine Sat.need ndA ?_; conv=>arg 4;cbv)
  | (refine Sat.idxk (by assumption) ?_; conv=>arg 4;cbv) | (refine Sat.idx ndA (fun v_ hv_ => ?_); conv=>arg 4;cbv)
  | (refine Sat.ari64 ndA ndA ?_; conv=>arg 4;cbv)
  | (refine Sat.pop ?_; conv=>arg 4;cbv)
  | refine Sat.done ?_
 all_goals exact .same _
theorem dig_step {u m : Nat} {s : ByteArray} {x : Int} (hm0 : m ≠ 0) (hs1 : m ≠ 0 → Lib.decDigits m ++ s.data.toList = Lib.decDigits u) (hx : x = ((m % 10 : Nat) : Int)) :
 (m / 10 ≠ 0 → Lib.decDigits (m / 10) ++ (strOfNums [48 + x] ++ s).data.toList = Lib.decDigits u) ∧ (m / 10 = 0 → (strOfNums [48 + x] ++ s).data.toList = Lib.decDigits u) := by
 have e : (strOfNums [48 + x] ++ s).data.toList = UInt8.ofNat (48 + m % 10) :: s.data.toList := by
  rw [hx, strOf_one]
  have : (48 + ((m % 10 : Nat) : Int)).toNat = 48 + m % 10 := by omega
  rw [this]
  simp
 rw [e]
 refine ⟨fun h2 => ?_, fun h2 => ?_⟩
 ·rw [← hs1 hm0, decDig_big (u := m) (by omega)]
  simp
 ·have hm10 : m < 10 := by omega
  rw [← hs1 hm0, Lib.decDigits_one hm10, Nat.mod_eq_of_lt hm10]
  simp
theorem sI_neg {n : Int} (h : n < 0) : (sI n).data.toList = 45 :: Lib.decDigits n.natAbs := by
 rw [sI_list, Lib.itoa, if_pos h]
theorem tmod_neg10 {x : Int} (h : x ≤ 0) : Int.tmod x 10 = -((x.natAbs % 10 : Nat) : Int) := by
 obtain ⟨m, rfl⟩ : ∃ m : Nat, x = -(m : Int) := ⟨x.natAbs, by omega⟩
 rw [Int.neg_tmod, Int.natAbs_neg]; rfl
theorem tdiv_neg10 {x : Int} (h : x ≤ 0) : Int.tdiv x 10 = -((x.natAbs / 10 : Nat) : Int) := by
 obtain ⟨m, rfl⟩ : ∃ m : Nat, x = -(m : Int) := ⟨x.natAbs, by omega⟩
 rw [Int.neg_tdiv, Int.natAbs_neg]; rfl
theorem w_spec_FormatIntN (n : Int) (h0 : n < 0) (h1 : -9223372036854775807 ≤ n) : Fn Pr n_spec_FormatInt [.int .i64 (fun _ => n)] (.str (fun _ => sI n)) := by
 refine k_spec_FormatInt.fn (by kernel_rfl) ?_
 conv=>arg 4;cbv
 refine Sat.cmp (fun h => ?_) (fun h => ?_) <;> simp only [Cmp.holds] at h <;> (conv=>arg 4;cbv)
 ·exfalso; omega
 refine Sat.cmp (fun h => ?_) (fun h => ?_) <;> simp only [Cmp.holds] at h
 rotate_left
 ·exfalso; omega
 conv=>arg 4;cbv
 refine Sat.loopP (ι := Int × ByteArray) (fun i => [(0, .int .i64 (fun _ => i.1)), (3, .str (fun _ => i.2))]) (fun i => []) (fun i => n ≤ i.1 ∧ i.1 ≤ 0 ∧ (i.1.natAbs ≠ 0 → Lib.decDigits i.1.natAbs ++ i.2.data.toList = Lib.decDigits n.natAbs) ∧ (i.1.natAbs = 0 → i.2.data.toList = Lib.decDigits n.natAbs)) (fun i => i.1.natAbs) (n, ⟨#[]⟩) ?_ ⟨Int.le_refl _, by simp only; omega, fun _ => by simp, fun h => by exfalso; simp only at h; omega⟩ (fun i hi => ?_)
 ·exact lesA
 obtain ⟨x, s⟩ := i
 obtain ⟨hm, hx0, hs1, hs2⟩ := hi
 simp only at hm hx0 hs1 hs2
 have hd := tmod_neg10 hx0
 have hq := tdiv_neg10 hx0
 obtain ⟨m, hmx⟩ : ∃ m : Nat, m = x.natAbs := ⟨_, rfl⟩
 rw [← hmx] at hs1 hs2 hd hq
 have hlen : s.size + 2 ≤ 9223372036854775807 := by
  have e2 := nDig_le n.natAbs
  by_cases hm0 : m = 0
  ·have e := congrArg List.length (hs2 hm0)
   rw [Lib.decDigits_length] at e
   have e4 : s.data.toList.length = s.size := rfl
   omega
  ·have e := congrArg List.length (hs1 hm0)
   have e3 := Lib.nDigits_pos m
   rw [List.length_append, Lib.decDigits_length, Lib.decDigits_length] at e
   have e4 : s.data.toList.length = s.size := rfl
   omega
 conv=>arg 4;cbv
 refine Sat.cmp (fun h => ?_) (fun h => ?_) <;> simp only [Cmp.holds] at h <;> (conv=>arg 4;cbv)
 ·refine Sat.pop ?_
  conv=>arg 4;cbv
  refine Sat.need (by
   show (⟨#[45]⟩ : ByteArray).size + s.size ≤ _
   have : (⟨#[45]⟩ : ByteArray).size = 1 := rfl
   omega) ?_
  conv=>arg 4;cbv
  refine Sat.done (.str ?_)
  refine bytes_ext ?_
  rw [sI_neg h0, ← hs2 (by (try dsimp only); (try simp only [ncast] at *); omega)]
  simp
 have hm0 : m ≠ 0 := by (try dsimp only); (try simp only [ncast] at *); omega
 refine Sat.need (by decide) ?_
 conv=>arg 4;cbv
 refine Sat.cmp (fun h => ?_) (fun h => ?_) <;> simp only [Cmp.holds] at h <;> (conv=>arg 4;cbv)
 ·refine Sat.ari64 (by (try dsimp only); (try simp only [ncast] at *); omega) (by (try dsimp only); (try simp only [ncast] at *); omega) ?_
  conv=>arg 4;cbv
  refine Sat.ari64 (by (try dsimp only); (try simp only [ncast] at *); omega) (by (try dsimp only); (try simp only [ncast] at *); omega) ?_
  conv=>arg 4;cbv
  refine Sat.ari8 (by (try dsimp only); (try simp only [ncast] at *); omega) (by (try dsimp only); (try simp only [ncast] at *); omega) ?_
  conv=>arg 4;cbv
  refine Sat.same ?_
  conv=>arg 4;cbv
  refine Sat.need (by
   show (strOfNums [48 + (0 - Int.tmod x 10)]).size + s.size ≤ _
   rw [strOfNums_size]
   simp only [List.length_cons, List.length_nil]
   omega) ?_
  conv=>arg 4;cbv
  refine Sat.need (by decide) ?_
  conv=>arg 4;cbv
  refine Sat.ari64 (by (try dsimp only); (try simp only [ncast] at *); omega) (by (try dsimp only); (try simp only [ncast] at *); omega) ?_
  conv=>arg 4;cbv
  refine Sat.next (Int.tdiv x 10, strOfNums [48 + (0 - Int.tmod x 10)] ++ s) ?_ ?_ (by (try dsimp only); (try simp only [ncast] at *); omega)
  ·exact lesA
  ·have := dig_step (x := 0 - Int.tmod x 10) hm0 hs1 (by omega)
   have e5 : (Int.tdiv x 10).natAbs = m / 10 := by omega
   exact ⟨by (try dsimp only); omega, by (try dsimp only); omega, by (try dsimp only); rw [e5]; exact this.1, by (try dsimp only); rw [e5]; exact this.2⟩
 ·refine Sat.ari64 (by (try dsimp only); (try simp only [ncast] at *); omega) (by (try dsimp only); (try simp only [ncast] at *); omega) ?_
  conv=>arg 4;cbv
  refine Sat.ari8 (by (try dsimp only); (try simp only [ncast] at *); omega) (by (try dsimp only); (try simp only [ncast] at *); omega) ?_
  conv=>arg 4;cbv
  refine Sat.same ?_
  conv=>arg 4;cbv
  refine Sat.need (by
   show (strOfNums [48 + Int.tmod x 10]).size + s.size ≤ _
   rw [strOfNums_size]
   simp only [List.length_cons, List.length_nil]
   omega) ?_
  conv=>arg 4;cbv
  refine Sat.need (by decide) ?_
  conv=>arg 4;cbv
  refine Sat.ari64 (by (try dsimp only); (try simp only [ncast] at *); omega) (by (try dsimp only); (try simp only [ncast] at *); omega) ?_
  conv=>arg 4;cbv
  refine Sat.next (Int.tdiv x 10, strOfNums [48 + Int.tmod x 10] ++ s) ?_ ?_ (by (try dsimp only); (try simp only [ncast] at *); omega)
  ·exact lesA
  ·have := dig_step (x := Int.tmod x 10) hm0 hs1 (by (try dsimp only); (try simp only [ncast] at *); omega)
   have e5 : (Int.tdiv x 10).natAbs = m / 10 := by omega
   exact ⟨by (try dsimp only); omega, by (try dsimp only); omega, by (try dsimp only); rw [e5]; exact this.1, by (try dsimp only); rw [e5]; exact this.2⟩
theorem w_spec_FormatIntG (n : Int) (h0 : -9223372036854775807 ≤ n) (h1 : n ≤ 9223372036854775807) : Fn Pr n_spec_FormatInt [.int .i64 (fun _ => n)] (.str (fun _ => sI n)) := by
 by_cases h : n < 0
 ·exact w_spec_FormatIntN n h h0
 ·exact w_spec_FormatInt n (by omega) h1
theorem byte_at {s : ByteArray} {i : Nat} (h : i < s.size) : s.data.toList[i]? = some (s.get! i) := by
 have h' : i < s.data.size := h
 show s.data.toList[i]? = some (s.data[i]!)
 rw [Array.getElem?_toList, Array.getElem?_eq_getElem h', getElem!_pos s.data i h']
theorem head_at {s : ByteArray} (h : 0 < s.size) : s.data.toList.head? = some (s.get! 0) := by
 rw [← byte_at h, List.head?_eq_getElem?]
theorem take_snoc {l : List UInt8} {i : Nat} {b : UInt8} (h : l[i]? = some b) : l.take (i + 1) = l.take i ++ [b] := by rw [List.take_add_one, h]; rfl
theorem byte_45 {b : UInt8} (h : (b.toNat : Int) = 45) : b = 45 := by
 apply UInt8.toNat_inj.1
 show b.toNat = 45
 omega
theorem byte_n45 {b : UInt8} (h : ¬ (b.toNat : Int) = 45) : b ≠ 45 := fun e => h (by rw [e]; rfl)
theorem pI_no {s : ByteArray} (h : ¬ (1 ≤ (pT s).length ∧ (pT s).length ≤ 9 ∧ (pT s).all isD = true ∧ sI (pV s) = s)) : pI s = (0, false) := if_neg h
theorem pI_yes {s : ByteArray} (h : 1 ≤ (pT s).length ∧ (pT s).length ≤ 9 ∧ (pT s).all isD = true ∧ sI (pV s) = s) : pI s = (pV s, true) := if_pos h
theorem pI_low {s : ByteArray} {i : Nat} {b : UInt8} (h : (pT s)[i]? = some b) (hb : b.toNat < 48 ∨ 57 < b.toNat) : pI s = (0, false) := pI_no (fun ⟨_, _, ha, _⟩ => by
 have := isD_iff.1 (List.all_eq_true.1 ha b (List.mem_of_getElem? h))
 omega)
theorem extract_tl (s : ByteArray) : (s.extract 1 s.size).data.toList = s.data.toList.tail := by
 have h : (s.extract 1 s.size).data.toList = s.data.toList.drop 1 := by
  rw [ByteArray.data_extract, Array.toList_extract, List.extract_eq_take_drop]
  exact List.take_of_length_le (by rw [List.length_drop]; show s.data.toList.length - 1 ≤ s.size - 1; exact Nat.le_refl _)
 rw [h, List.drop_one]
theorem w_impl_ParseInt (s : ByteArray) (hs : s.size ≤ 4294967280) : Fn Pr n_impl_ParseInt [.str (fun _ => s)] (.tup [.int .i64 (fun _ => (pI s).1), .bo (pI s).2]) := by
 refine k_impl_ParseInt.fn (by kernel_rfl) ?_
 have led_no : pI s = (0, false) → LeD (.tup [.int .i64 (fun _ => 0), .bo false]) (.tup [.int .i64 (fun _ => (pI s).1), .bo (pI s).2]) := fun e => by rw [e]; exact .same _
 conv=>arg 4;cbv
 refine Sat.cmp (fun h => ?_) (fun h => ?_) <;> simp only [Cmp.holds] at h
 rotate_left
 ·have h0 : s.size = 0 := by exact arA
  conv=>arg 4;cbv
  refine Sat.callb (w_impl_within (s.size : Int) 1 9) rfl ledA (fun hA => ?_) (fun hA => ?_)
  ·exfalso
   have := of_decide_eq_true hA
   exact arA
  ·conv=>arg 4;cbv
   refine Sat.done (led_no (pI_no (fun ⟨h1, _⟩ => ?_)))
   have := (pT_len s).1
   omega
 have hs0 : 0 < s.size := by exact arA
 have hhd := head_at hs0
 conv=>arg 4;cbv
 refine Sat.need (by (try dsimp only); exact arA) ?_
 conv=>arg 4;cbv
 refine Sat.cmp (fun h => ?_) (fun h => ?_) <;> simp only [Cmp.holds] at h
 ·have h45 : s.get! 0 = 45 := byte_45 h
  have hh : s.data.toList.head? = some 45 := by rw [hhd, h45]
  have hT : (s.extract (Int.toNat 1) s.size).data.toList = pT s := by
   show (s.extract 1 s.size).data.toList = _
   rw [extract_tl, pT, if_pos hh]
  have hS : pS s = -1 := if_pos hh
  have hTl : (s.extract (Int.toNat 1) s.size).size = (pT s).length := by rw [← hT]; rfl
  conv=>arg 4;cbv
  refine Sat.need (by (try dsimp only); exact arA) ?_
  conv=>arg 4;cbv
  refine Sat.callb (w_impl_within ((s.extract (Int.toNat 1) s.size).size : Int) 1 9) rfl ledA (fun hA => ?_) (fun hA => ?_)
  rotate_left
  ·conv=>arg 4;cbv
   refine Sat.done (led_no (pI_no (fun ⟨h1, h2, _⟩ => ?_)))
   have := of_decide_eq_false hA
   exact arA
  have hA := of_decide_eq_true hA
  have hA1 : 1 ≤ (pT s).length ∧ (pT s).length ≤ 9 := by exact arA
  conv=>arg 4;cbv
  refine Sat.loopP (ι := Nat) (fun i => [(6, .int .i64 (fun _ => (dv ((pT s).take i) : Int))), (25, .int .i64 (fun _ => (i : Int)))]) (fun i => []) (fun i => i ≤ (pT s).length ∧ ∀ b ∈ (pT s).take i, isD b = true) (fun i => (pT s).length - i) 0 ?_ ⟨Nat.zero_le _, fun b hb => by simp at hb⟩ (fun i hi => ?_)
  ·refine les_of ?_ ?_ rfl
   iterate 2 (focus repeat' (first | exact trivial | refine And.intro ?_ ?_ | exact levA | refine lev_cons ?_ ?_ | refine LeV.agg rfl ?_ | exact Nat.le_of_ble_eq_true rfl | exact Or.inl ⟨_, rfl, .row rfl⟩ | refine Or.inl ⟨_, rfl, .row ?_⟩ | refine Or.inl ⟨_, rfl, .lit rfl ?_⟩ | exact Or.inr ⟨rfl, rfl⟩ | (exact .int (by simp [dv]))))
  obtain ⟨hi, hD⟩ := hi
  have hdv := dv_lt_of (k := 9) hD (by rw [List.length_take]; omega)
  conv=>arg 4;cbv
  refine Sat.cmp (fun h5 => ?_) (fun h5 => ?_) <;> simp only [Cmp.holds] at h5
  ·have hi2 : i < (s.extract (Int.toNat 1) s.size).size := by exact arA
   have hb : (pT s)[i]? = some ((s.extract (Int.toNat 1) s.size).get! (Int.toNat (i : Int))) := by rw [← hT]; exact byte_at hi2
   have h256 : ((s.extract (Int.toNat 1) s.size).get! (Int.toNat (i : Int))).toNat < 256 := UInt8.toNat_lt _
   conv=>arg 4;cbv
   refine Sat.need (by (try dsimp only); exact arA) ?_
   conv=>arg 4;cbv
   refine Sat.cmp (fun h6 => ?_) (fun h6 => ?_) <;> simp only [Cmp.holds] at h6
   ·conv=>arg 4;cbv
    refine Sat.pop ?_
    conv=>arg 4;cbv
    refine Sat.done (led_no (pI_low hb (.inl ?_)))
    exact arA
   conv=>arg 4;cbv
   refine Sat.need (by (try dsimp only); exact arA) ?_
   conv=>arg 4;cbv
   refine Sat.cmp (fun h7 => ?_) (fun h7 => ?_) <;> simp only [Cmp.holds] at h7
   ·conv=>arg 4;cbv
    refine Sat.pop ?_
    conv=>arg 4;cbv
    refine Sat.done (led_no (pI_low hb (.inr ?_)))
    exact arA
   have htk := take_snoc hb
   have hdg : isD ((s.extract (Int.toNat 1) s.size).get! (Int.toNat (i : Int))) = true := isD_iff.2 (by exact arA)
   have hdn : dv ((pT s).take (i + 1)) = 10 * dv ((pT s).take i) + (((s.extract (Int.toNat 1) s.size).get! (Int.toNat (i : Int))).toNat - 48) := by rw [htk, dv_snoc]
   conv=>arg 4;cbv
   refine Sat.ari64 (by (try dsimp only); exact arA) (by (try dsimp only); exact arA) ?_
   conv=>arg 4;cbv
   refine Sat.need (by (try dsimp only); exact arA) ?_
   conv=>arg 4;cbv
   refine Sat.ari8 (by (try dsimp only); exact arA) (by (try dsimp only); exact arA) ?_
   conv=>arg 4;cbv
   refine Sat.ari64 (by (try dsimp only); exact arA) (by (try dsimp only); exact arA) ?_
   conv=>arg 4;cbv
   refine Sat.ari64 (by (try dsimp only); exact arA) (by (try dsimp only); exact arA) ?_
   conv=>arg 4;cbv
   refine Sat.ari64 (by (try dsimp only); exact arA) (by (try dsimp only); exact arA) ?_
   conv=>arg 4;cbv
   refine Sat.next (i + 1) ?_ ?_ (by (try dsimp only); exact arA)
   ·refine les_of ?_ ?_ rfl
    iterate 2 (focus repeat' (first | exact trivial | refine And.intro ?_ ?_ | exact levA | refine lev_cons ?_ ?_ | refine LeV.agg rfl ?_ | exact Nat.le_of_ble_eq_true rfl | exact Or.inl ⟨_, rfl, .row rfl⟩ | refine Or.inl ⟨_, rfl, .row ?_⟩ | refine Or.inl ⟨_, rfl, .lit rfl ?_⟩ | exact Or.inr ⟨rfl, rfl⟩ | (exact .int (by exact arA))))
   ·refine ⟨by exact arA, fun b hbm => ?_⟩
    rw [htk, List.mem_append, List.mem_singleton] at hbm
    rcases hbm with hbm | rfl
    ·exact hD b hbm
    ·exact hdg
  ·have hie : i = (pT s).length := by exact arA
   rw [hie, List.take_length] at hD hdv
   have hall : (pT s).all isD = true := List.all_eq_true.2 hD
   have hV : pV s = (-1) * (dv (pT s) : Int) := by rw [pV, hS]
   conv=>arg 4;cbv
   refine Sat.pop ?_
   conv=>arg 4;cbv
   rw [hie, List.take_length]
   refine Sat.ari64 (by (try dsimp only); exact arA) (by (try dsimp only); exact arA) ?_
   conv=>arg 4;cbv
   refine Sat.call (w_impl_FormatIntG ((-1) * (dv (pT s) : Int)) (by omega) (by omega)) rfl ledA ?_
   conv=>arg 4;cbv
   refine Sat.test (fun h8 => ?_) (fun h8 => ?_)
   ·conv=>arg 4;cbv
    have h8 := of_decide_eq_true h8
    refine Sat.ari64 (by (try dsimp only); exact arA) (by (try dsimp only); exact arA) ?_
    conv=>arg 4;cbv
    refine Sat.done ?_
    rw [pI_yes ⟨by omega, by omega, hall, by rw [hV]; exact h8⟩, hV]
    exact .same _
   ·conv=>arg 4;cbv
    have h8 := of_decide_eq_false h8
    refine Sat.done (led_no (pI_no (fun ⟨_, _, _, h4⟩ => h8 ?_)))
    rw [hV] at h4
    exact h4
 ·have h45 : s.get! 0 ≠ 45 := byte_n45 h
  have hh : ¬ s.data.toList.head? = some 45 := by rw [hhd]; intro e; exact h45 (Option.some.inj e)
  have hT : s.data.toList = pT s := by rw [pT, if_neg hh]
  have hS : pS s = 1 := if_neg hh
  have hTl : (s).size = (pT s).length := by rw [← hT]; rfl
  conv=>arg 4;cbv
  refine Sat.callb (w_impl_within ((s).size : Int) 1 9) rfl ledA (fun hA => ?_) (fun hA => ?_)
  rotate_left
  ·conv=>arg 4;cbv
   refine Sat.done (led_no (pI_no (fun ⟨h1, h2, _⟩ => ?_)))
   have := of_decide_eq_false hA
   exact arA
  have hA := of_decide_eq_true hA
  have hA1 : 1 ≤ (pT s).length ∧ (pT s).length ≤ 9 := by exact arA
  conv=>arg 4;cbv
  refine Sat.loopP (ι := Nat) (fun i => [(6, .int .i64 (fun _ => (dv ((pT s).take i) : Int))), (25, .int .i64 (fun _ => (i : Int)))]) (fun i => []) (fun i => i ≤ (pT s).length ∧ ∀ b ∈ (pT s).take i, isD b = true) (fun i => (pT s).length - i) 0 ?_ ⟨Nat.zero_le _, fun b hb => by simp at hb⟩ (fun i hi => ?_)
  ·refine les_of ?_ ?_ rfl
   iterate 2 (focus repeat' (first | exact trivial | refine And.intro ?_ ?_ | exact levA | refine lev_cons ?_ ?_ | refine LeV.agg rfl ?_ | exact Nat.le_of_ble_eq_true rfl | exact Or.inl ⟨_, rfl, .row rfl⟩ | refine Or.inl ⟨_, rfl, .row ?_⟩ | refine Or.inl ⟨_, rfl, .lit rfl ?_⟩ | exact Or.inr ⟨rfl, rfl⟩ | (exact .int (by simp [dv]))))
  obtain ⟨hi, hD⟩ := hi
  have hdv := dv_lt_of (k := 9) hD (by rw [List.length_take]; omega)
  conv=>arg 4;cbv
  refine Sat.cmp (fun h5 => ?_) (fun h5 => ?_) <;> simp only [Cmp.holds] at h5
  ·have hi2 : i < (s).size := by exact arA
   have hb : (pT s)[i]? = some ((s).get! (Int.toNat (i : Int))) := by rw [← hT]; exact byte_at hi2
   have h256 : ((s).get! (Int.toNat (i : Int))).toNat < 256 := UInt8.toNat_lt _
   conv=>arg 4;cbv
   refine Sat.need (by (try dsimp only); exact arA) ?_
   conv=>arg 4;cbv
   refine Sat.cmp (fun h6 => ?_) (fun h6 => ?_) <;> simp only [Cmp.holds] at h6
   ·conv=>arg 4;cbv
    refine Sat.pop ?_
    conv=>arg 4;cbv
    refine Sat.done (led_no (pI_low hb (.inl ?_)))
    exact arA
   conv=>arg 4;cbv
   refine Sat.need (by (try dsimp only); exact arA) ?_
   conv=>arg 4;cbv
   refine Sat.cmp (fun h7 => ?_) (fun h7 => ?_) <;> simp only [Cmp.holds] at h7
   ·conv=>arg 4;cbv
    refine Sat.pop ?_
    conv=>arg 4;cbv
    refine Sat.done (led_no (pI_low hb (.inr ?_)))
    exact arA
   have htk := take_snoc hb
   have hdg : isD ((s).get! (Int.toNat (i : Int))) = true := isD_iff.2 (by exact arA)
   have hdn : dv ((pT s).take (i + 1)) = 10 * dv ((pT s).take i) + (((s).get! (Int.toNat (i : Int))).toNat - 48) := by rw [htk, dv_snoc]
   conv=>arg 4;cbv
   refine Sat.ari64 (by (try dsimp only); exact arA) (by (try dsimp only); exact arA) ?_
   conv=>arg 4;cbv
   refine Sat.need (by (try dsimp only); exact arA) ?_
   conv=>arg 4;cbv
   refine Sat.ari8 (by (try dsimp only); exact arA) (by (try dsimp only); exact arA) ?_
   conv=>arg 4;cbv
   refine Sat.ari64 (by (try dsimp only); exact arA) (by (try dsimp only); exact arA) ?_
   conv=>arg 4;cbv
   refine Sat.ari64 (by (try dsimp only); exact arA) (by (try dsimp only); exact arA) ?_
   conv=>arg 4;cbv
   refine Sat.ari64 (by (try dsimp only); exact arA) (by (try dsimp only); exact arA) ?_
   conv=>arg 4;cbv
   refine Sat.next (i + 1) ?_ ?_ (by (try dsimp only); exact arA)
   ·refine les_of ?_ ?_ rfl
    iterate 2 (focus repeat' (first | exact trivial | refine And.intro ?_ ?_ | exact levA | refine lev_cons ?_ ?_ | refine LeV.agg rfl ?_ | exact Nat.le_of_ble_eq_true rfl | exact Or.inl ⟨_, rfl, .row rfl⟩ | refine Or.inl ⟨_, rfl, .row ?_⟩ | refine Or.inl ⟨_, rfl, .lit rfl ?_⟩ | exact Or.inr ⟨rfl, rfl⟩ | (exact .int (by exact arA))))
   ·refine ⟨by exact arA, fun b hbm => ?_⟩
    rw [htk, List.mem_append, List.mem_singleton] at hbm
    rcases hbm with hbm | rfl
    ·exact hD b hbm
    ·exact hdg
  ·have hie : i = (pT s).length := by exact arA
   rw [hie, List.take_length] at hD hdv
   have hall : (pT s).all isD = true := List.all_eq_true.2 hD
   have hV : pV s = 1 * (dv (pT s) : Int) := by rw [pV, hS]
   conv=>arg 4;cbv
   refine Sat.pop ?_
   conv=>arg 4;cbv
   rw [hie, List.take_length]
   refine Sat.ari64 (by (try dsimp only); exact arA) (by (try dsimp only); exact arA) ?_
   conv=>arg 4;cbv
   refine Sat.call (w_impl_FormatIntG (1 * (dv (pT s) : Int)) (by omega) (by omega)) rfl ledA ?_
   conv=>arg 4;cbv
   refine Sat.test (fun h8 => ?_) (fun h8 => ?_)
   ·conv=>arg 4;cbv
    have h8 := of_decide_eq_true h8
    refine Sat.ari64 (by (try dsimp only); exact arA) (by (try dsimp only); exact arA) ?_
    conv=>arg 4;cbv
    refine Sat.done ?_
    rw [pI_yes ⟨by omega, by omega, hall, by rw [hV]; exact h8⟩, hV]
    exact .same _
   ·conv=>arg 4;cbv
    have h8 := of_decide_eq_false h8
    refine Sat.done (led_no (pI_no (fun ⟨_, _, _, h4⟩ => h8 ?_)))
    rw [hV] at h4
    exact h4
end Go.V.T
