/- Contracts of the functions that FnOps reaches: what each returns. Conditions: those that each theorem states. -/
import Derived.Test.YtgjnigpoemkkaaaGreatDoorMLOps
namespace Go.V.T
open Go Go.V Go.RowKit
set_option maxRecDepth 100000
set_option linter.unusedVariables false
set_option linter.unusedSimpArgs false
@[ext] structure GConfig where
  Epoch : Int
  Primary : Int
  Replicas : List Int
  Witnesses : List Int
  deriving DecidableEq
def eGConfig (x : GConfig) : Nat → AV
 | 0 => .int .i64 (fun _ => x.Epoch)
 | 1 => .int .i64 (fun _ => x.Primary)
 | 2 => .sl 1 (encI .i64) (fun _ => x.Replicas)
 | 3 => .sl 1 (encI .i64) (fun _ => x.Witnesses)
 | _ => .any
abbrev cGConfig (x : GConfig) : List AV := [.int .i64 (fun _ => x.Epoch), .int .i64 (fun _ => x.Primary), .sl 1 (encI .i64) (fun _ => x.Replicas), .sl 1 (encI .i64) (fun _ => x.Witnesses)]
abbrev aGConfig (x : GConfig) : AV := .agg [.int .i64 (fun _ => x.Epoch), .int .i64 (fun _ => x.Primary), .sl 1 (encI .i64) (fun _ => x.Replicas), .sl 1 (encI .i64) (fun _ => x.Witnesses)]
@[ext] structure GOp where
  Client : Int
  Seq : Int
  Kind : Int
  Object : Int
  Old : Int
  Value : Int
  deriving DecidableEq
def eGOp (x : GOp) : Nat → AV
 | 0 => .int .i64 (fun _ => x.Client)
 | 1 => .int .i64 (fun _ => x.Seq)
 | 2 => .int .i64 (fun _ => x.Kind)
 | 3 => .int .i64 (fun _ => x.Object)
 | 4 => .int .i64 (fun _ => x.Old)
 | 5 => .int .i64 (fun _ => x.Value)
 | _ => .any
abbrev cGOp (x : GOp) : List AV := [.int .i64 (fun _ => x.Client), .int .i64 (fun _ => x.Seq), .int .i64 (fun _ => x.Kind), .int .i64 (fun _ => x.Object), .int .i64 (fun _ => x.Old), .int .i64 (fun _ => x.Value)]
abbrev aGOp (x : GOp) : AV := .agg [.int .i64 (fun _ => x.Client), .int .i64 (fun _ => x.Seq), .int .i64 (fun _ => x.Kind), .int .i64 (fun _ => x.Object), .int .i64 (fun _ => x.Old), .int .i64 (fun _ => x.Value)]
@[ext] structure GEntry where
  Epoch : Int
  Op : GOp
  deriving DecidableEq
def eGEntry (x : GEntry) : Nat → AV
 | 0 => .int .i64 (fun _ => x.Epoch)
 | 1 => .int .i64 (fun _ => x.Op.Client)
 | 2 => .int .i64 (fun _ => x.Op.Seq)
 | 3 => .int .i64 (fun _ => x.Op.Kind)
 | 4 => .int .i64 (fun _ => x.Op.Object)
 | 5 => .int .i64 (fun _ => x.Op.Old)
 | 6 => .int .i64 (fun _ => x.Op.Value)
 | _ => .any
abbrev cGEntry (x : GEntry) : List AV := [.int .i64 (fun _ => x.Epoch), .int .i64 (fun _ => x.Op.Client), .int .i64 (fun _ => x.Op.Seq), .int .i64 (fun _ => x.Op.Kind), .int .i64 (fun _ => x.Op.Object), .int .i64 (fun _ => x.Op.Old), .int .i64 (fun _ => x.Op.Value)]
abbrev aGEntry (x : GEntry) : AV := .agg [.int .i64 (fun _ => x.Epoch), .int .i64 (fun _ => x.Op.Client), .int .i64 (fun _ => x.Op.Seq), .int .i64 (fun _ => x.Op.Kind), .int .i64 (fun _ => x.Op.Object), .int .i64 (fun _ => x.Op.Old), .int .i64 (fun _ => x.Op.Value)]
@[ext] structure GResult where
  Done : Bool
  Value : Int
  deriving DecidableEq
def eGResult (x : GResult) : Nat → AV
 | 0 => .bo x.Done
 | 1 => .int .i64 (fun _ => x.Value)
 | _ => .any
abbrev cGResult (x : GResult) : List AV := [.bo x.Done, .int .i64 (fun _ => x.Value)]
abbrev aGResult (x : GResult) : AV := .agg [.bo x.Done, .int .i64 (fun _ => x.Value)]
@[ext] structure GSession where
  Client : Int
  Seq : Int
  Result : GResult
  deriving DecidableEq
def eGSession (x : GSession) : Nat → AV
 | 0 => .int .i64 (fun _ => x.Client)
 | 1 => .int .i64 (fun _ => x.Seq)
 | 2 => .bo x.Result.Done
 | 3 => .int .i64 (fun _ => x.Result.Value)
 | _ => .any
abbrev cGSession (x : GSession) : List AV := [.int .i64 (fun _ => x.Client), .int .i64 (fun _ => x.Seq), .bo x.Result.Done, .int .i64 (fun _ => x.Result.Value)]
abbrev aGSession (x : GSession) : AV := .agg [.int .i64 (fun _ => x.Client), .int .i64 (fun _ => x.Seq), .bo x.Result.Done, .int .i64 (fun _ => x.Result.Value)]
@[ext] structure GMachine where
  Objects : List Int
  Sessions : List GSession
  deriving DecidableEq
def eGMachine (x : GMachine) : Nat → AV
 | 0 => .sl 1 (encI .i64) (fun _ => x.Objects)
 | 1 => .sl 4 eGSession (fun _ => x.Sessions)
 | _ => .any
abbrev cGMachine (x : GMachine) : List AV := [.sl 1 (encI .i64) (fun _ => x.Objects), .sl 4 eGSession (fun _ => x.Sessions)]
abbrev aGMachine (x : GMachine) : AV := .agg [.sl 1 (encI .i64) (fun _ => x.Objects), .sl 4 eGSession (fun _ => x.Sessions)]
theorem w_spec_l1In (n a b : Int) : Fn Pr n_spec_l1In [.int .i64 (fun _ => n), .int .i64 (fun _ => a), .int .i64 (fun _ => b)] (.bo (decide (a ≤ n ∧ n ≤ b))) := by
 refine k_spec_l1In.fn (by kernel_rfl) ?_
 conv=>arg 4;cbv
 repeat' first
  | (refine Sat.cmp (fun h => ?_) (fun h => ?_) <;> simp only [Cmp.holds] at h <;> (conv=>arg 4;cbv))
  | (refine Sat.need ndA ?_; conv=>arg 4;cbv)
  | (refine Sat.idxk (by assumption) ?_; conv=>arg 4;cbv) | (refine Sat.idx ndA (fun v_ hv_ => ?_); conv=>arg 4;cbv)
  | (refine Sat.ari64 ndA ndA ?_; conv=>arg 4;cbv)
  | (refine Sat.pop ?_; conv=>arg 4;cbv)
  | refine Sat.done ?_
 all_goals refine led_bo ?_ <;> simp <;> omega
theorem w_impl_within (n a b : Int) : Fn Pr n_impl_within [.int .i64 (fun _ => n), .int .i64 (fun _ => a), .int .i64 (fun _ => b)] (.bo (decide (a ≤ n ∧ n ≤ b))) := by
 refine k_impl_within.fn (by kernel_rfl) ?_
 conv=>arg 4;cbv
 repeat' first
  | (refine Sat.cmp (fun h => ?_) (fun h => ?_) <;> simp only [Cmp.holds] at h <;> (conv=>arg 4;cbv))
  | (refine Sat.need ndA ?_; conv=>arg 4;cbv)
  | (refine Sat.idxk (by assumption) ?_; conv=>arg 4;cbv) | (refine Sat.idx ndA (fun v_ hv_ => ?_); conv=>arg 4;cbv)
  | (refine Sat.ari64 ndA ndA ?_; conv=>arg 4;cbv)
  | (refine Sat.pop ?_; conv=>arg 4;cbv)
  | refine Sat.done ?_
 all_goals refine led_bo ?_ <;> simp <;> omega
theorem take_ext {α : Type _} {l r : List α} {i : Nat} {x y : α} (hx : l[i]? = some x) (hy : r[i]? = some y) (h : l.take i = r.take i) (e : x = y) : l.take (i + 1) = r.take (i + 1) := by
 rw [List.take_add_one, List.take_add_one, hx, hy, h, e]
theorem ne_of_get {α : Type _} {l r : List α} {i : Nat} {x y : α} (hx : l[i]? = some x) (hy : r[i]? = some y) (h : ¬ x = y) : l ≠ r := fun e => h (by subst e; rw [hx] at hy; exact Option.some.inj hy)
theorem set_take {α : Type _} {l : List α} {i : Nat} {x z : α} (h : l[i]? = some x) : setAt (l.take i ++ List.replicate (l.length - i) z) i x = l.take (i + 1) ++ List.replicate (l.length - (i + 1)) z := by
 have hi := lt_of_get h
 have e : l.length - i = (l.length - (i + 1)) + 1 := by omega
 rw [setAt, e, List.replicate_succ, List.set_append_right _ _ (by simp; omega)]
 have : i - (l.take i).length = 0 := by simp; omega
 rw [this, List.set_cons_zero, List.take_add_one, h]
 simp
def szF (k : Nat) (n : Int) : Int := if n - k < 0 then -1 else n - k
theorem szF_rng {k : Nat} {n : Int} (hn : 0 ≤ n) : -1 ≤ szF k n ∧ szF k n ≤ n := by unfold szF; split <;> omega
theorem szF_le {k : Nat} {n : Int} (h : 0 ≤ szF k n) : (k : Int) ≤ n := by unfold szF at h; split at h <;> omega
def szL {α : Type} (f : α → Int → Int) : List α → Int → Int
 | [], n => n
 | x :: r, n => if f x n < 0 then -1 else szL f r (f x n)
theorem szL_rng {α : Type} {f : α → Int → Int} (hf : ∀ x n, 0 ≤ n → -1 ≤ f x n ∧ f x n ≤ n) : ∀ (l : List α) {n : Int}, 0 ≤ n → -1 ≤ szL f l n ∧ szL f l n ≤ n
 | [], n, h => by simp only [szL]; omega
 | x :: r, n, h => by
   rw [szL]
   have := hf x n h
   split
   ·omega
   ·have := szL_rng hf r (n := f x n) (by omega)
    omega
theorem drop_get {α : Type _} {l : List α} {i : Nat} {x : α} (h : l[i]? = some x) : l.drop i = x :: l.drop (i + 1) := by
 obtain ⟨hi, rfl⟩ := List.getElem?_eq_some_iff.1 h
 exact List.drop_eq_getElem_cons hi
def bIntS (x : List Int) : Prop := x.length * 8 ≤ 140737488351232
def bConfig (x : GConfig) : Prop := bIntS x.Replicas ∧ bIntS x.Witnesses
def bEntryS (x : List GEntry) : Prop := x.length * 56 ≤ 140737488351232
def bSessionS (x : List GSession) : Prop := x.length * 32 ≤ 140737488351232
def bMachine (x : GMachine) : Prop := bIntS x.Objects ∧ bSessionS x.Sessions
def idxF {α : Type} (p : α → Bool) : List α → Int
 | [] => -1
 | x :: r => if p x = true then 0 else if idxF p r < 0 then -1 else idxF p r + 1
theorem idxF_any {α : Type} {p : α → Bool} : ∀ {l : List α}, (0 ≤ idxF p l ↔ l.any p = true) ∧ -1 ≤ idxF p l
 | [] => by simp [idxF]
 | x :: r => by
   have := idxF_any (p := p) (l := r)
   rw [idxF, List.any_cons]
   by_cases h : p x = true
   ·simp [h]
   ·rw [if_neg h]
    simp only [Bool.not_eq_true] at h
    rw [h, Bool.false_or, ← this.1]
    split <;> omega
theorem idxF_step {α : Type} {p : α → Bool} {l : List α} {i : Nat} {x : α} (hx : l[i]? = some x) {k : Int} (h : k = if idxF p (l.drop i) < 0 then -1 else idxF p (l.drop i) + i) (hp : p x = false) : k = if idxF p (l.drop (i + 1)) < 0 then -1 else idxF p (l.drop (i + 1)) + (i + 1 : Nat) := by
 simp only [drop_get hx, idxF, hp, Bool.false_eq_true, if_false] at h
 rw [h]
 have := (idxF_any (p := p) (l := l.drop (i + 1))).2
 split <;> split <;> omega
theorem idxF_hit {α : Type} {p : α → Bool} {l : List α} {i : Nat} {x : α} (hx : l[i]? = some x) {k : Int} (h : k = if idxF p (l.drop i) < 0 then -1 else idxF p (l.drop i) + i) (hp : p x = true) : (i : Int) = k := by
 rw [drop_get hx, idxF, if_pos hp] at h
 rw [h]
 simp
theorem w_slices_Equal_intint (x y : List Int) (hb : bIntS x) : Fn Pr n_slices_Equal_intint [.sl 1 (encI .i64) (fun _ => x), .sl 1 (encI .i64) (fun _ => y)] (.bo (decide (x = y))) := by
 refine k_slices_Equal_intint.fn (by kernel_rfl) ?_
 have h0 : x.length * 8 ≤ 140737488351232 := hb
 conv=>arg 4;cbv
 refine Sat.cmp (fun hl => ?_) (fun hl => ?_) <;> simp only [Cmp.holds] at hl <;> (conv=>arg 4;cbv)
 ·refine Sat.loopP (ι := Nat) (fun i => [(13, .int .i64 (fun _ => (i : Int)))]) (fun i => []) (fun i => i ≤ x.length ∧ x.take i = y.take i) (fun i => x.length - i) 0 ?_ ⟨by omega, by simp⟩ (fun i hi => ?_)
  ·exact lesA
  conv=>arg 4;cbv
  repeat' first
   | (refine Sat.cmp (fun h => ?_) (fun h => ?_) <;> simp only [Cmp.holds] at h <;> (conv=>arg 4;cbv))
   | (refine Sat.need ndA ?_; conv=>arg 4;cbv)
   | (refine Sat.idxk (by assumption) ?_; conv=>arg 4;cbv) | (refine Sat.idx ndA (fun v_ hv_ => ?_); conv=>arg 4;cbv)
   | (refine Sat.ari64 ndA ndA ?_; conv=>arg 4;cbv)
   | (refine Sat.pop ?_; conv=>arg 4;cbv)
   | refine Sat.next (i + 1) ?_ ?_ (by (try dsimp only); exact arA)
   | refine Sat.done (led_bo (Eq.symm (decide_eq_false (ne_of_get (by assumption) (by assumption) (fun e => by subst e; first | contradiction | (simp_all; done))))))
   | refine Sat.done ?_
  ·exact lesA
  ·exact ⟨by exact arA, take_ext (by assumption) (by assumption) hi.2 (by assumption)⟩
  ·refine led_bo ?_
   have e1 : i = x.length := by exact arA
   have e2 : x.length = y.length := by exact arA
   have := hi.2
   rw [e1, List.take_length, e2, List.take_length] at this
   simp [this]
 ·refine Sat.done (led_bo ?_)
  have : x ≠ y := fun e => hl (by rw [e])
  simp [this]
theorem w_impl_EqualServers (x y : List Int) (hb : bIntS x) : Fn Pr n_impl_EqualServers [.sl 1 (encI .i64) (fun _ => x), .sl 1 (encI .i64) (fun _ => y)] (.bo (decide (x = y))) := by
 refine k_impl_EqualServers.fn (by kernel_rfl) ?_
 conv=>arg 4;cbv
 repeat' first
  | (refine Sat.cmp (fun h => ?_) (fun h => ?_) <;> simp only [Cmp.holds] at h <;> (conv=>arg 4;cbv))
  | (refine Sat.callb (w_slices_Equal_intint x y hb) rfl ledA (fun h => ?_) (fun h => ?_) <;> (try simp only [decide_eq_true_eq, decide_eq_false_iff_not] at h) <;> (conv=>arg 4;cbv))
  | (refine Sat.need ndA ?_; conv=>arg 4;cbv)
  | (refine Sat.idxk (by assumption) ?_; conv=>arg 4;cbv) | (refine Sat.idx ndA (fun v_ hv_ => ?_); conv=>arg 4;cbv)
  | (refine Sat.ari64 ndA ndA ?_; conv=>arg 4;cbv)
  | (refine Sat.pop ?_; conv=>arg 4;cbv)
  | refine Sat.done ?_
 all_goals refine led_bo ?_
 all_goals simp_all
theorem w_impl_EqualConfigs (x y : GConfig) (hb : bConfig x) : Fn Pr n_impl_EqualConfigs [aGConfig x, aGConfig y] (.bo (decide (x = y))) := by
 refine k_impl_EqualConfigs.fn (by kernel_rfl) ?_
 conv=>arg 4;cbv
 repeat' first
  | (refine Sat.cmp (fun h => ?_) (fun h => ?_) <;> simp only [Cmp.holds] at h <;> (conv=>arg 4;cbv))
  | (refine Sat.callb (w_impl_EqualServers x.Replicas y.Replicas hb.1) rfl ledA (fun h => ?_) (fun h => ?_) <;> (try simp only [decide_eq_true_eq, decide_eq_false_iff_not] at h) <;> (conv=>arg 4;cbv))
  | (refine Sat.callb (w_impl_EqualServers x.Witnesses y.Witnesses hb.2) rfl ledA (fun h => ?_) (fun h => ?_) <;> (try simp only [decide_eq_true_eq, decide_eq_false_iff_not] at h) <;> (conv=>arg 4;cbv))
  | (refine Sat.need ndA ?_; conv=>arg 4;cbv)
  | (refine Sat.idxk (by assumption) ?_; conv=>arg 4;cbv) | (refine Sat.idx ndA (fun v_ hv_ => ?_); conv=>arg 4;cbv)
  | (refine Sat.ari64 ndA ndA ?_; conv=>arg 4;cbv)
  | (refine Sat.pop ?_; conv=>arg 4;cbv)
  | refine Sat.done ?_
 all_goals refine led_bo ?_
 all_goals (cases x; cases y; simp_all)
def okOp (o : GOp) : Bool := decide ((0 ≤ o.Client ∧ o.Client ≤ 2) ∧ (1 ≤ o.Seq ∧ o.Seq ≤ 99) ∧ (0 ≤ o.Object ∧ o.Object ≤ 2) ∧ (0 ≤ o.Value ∧ o.Value ≤ 9) ∧ ((o.Kind = 1 ∧ o.Old = 0) ∨ (o.Kind = 2 ∧ 0 ≤ o.Old ∧ o.Old ≤ 9)))
theorem w_impl_IsValidOp (o : GOp) : Fn Pr n_impl_IsValidOp [aGOp o] (.bo (okOp o)) := by
 refine k_impl_IsValidOp.fn (by kernel_rfl) ?_
 conv=>arg 4;cbv
 repeat' first
  | (refine Sat.cmp (fun h => ?_) (fun h => ?_) <;> simp only [Cmp.holds] at h <;> (conv=>arg 4;cbv))
  | (refine Sat.callb (w_impl_within _ _ _) rfl ledA (fun h => ?_) (fun h => ?_) <;> (try simp only [decide_eq_true_eq, decide_eq_false_iff_not] at h) <;> (conv=>arg 4;cbv))
  | (refine Sat.need ndA ?_; conv=>arg 4;cbv)
  | (refine Sat.idxk (by assumption) ?_; conv=>arg 4;cbv) | (refine Sat.idx ndA (fun v_ hv_ => ?_); conv=>arg 4;cbv)
  | (refine Sat.ari64 ndA ndA ?_; conv=>arg 4;cbv)
  | (refine Sat.pop ?_; conv=>arg 4;cbv)
  | refine Sat.done ?_
 all_goals refine led_bo ?_
 all_goals (simp only [okOp]; first | (refine (decide_eq_true ?_).symm; omega) | (refine (decide_eq_false ?_).symm; omega))
theorem w_spec_IsValidOp (o : GOp) : Fn Pr n_spec_IsValidOp [aGOp o] (.bo (okOp o)) := by
 refine k_spec_IsValidOp.fn (by kernel_rfl) ?_
 conv=>arg 4;cbv
 repeat' first
  | (refine Sat.cmp (fun h => ?_) (fun h => ?_) <;> simp only [Cmp.holds] at h <;> (conv=>arg 4;cbv))
  | (refine Sat.callb (w_spec_l1In _ _ _) rfl ledA (fun h => ?_) (fun h => ?_) <;> (try simp only [decide_eq_true_eq, decide_eq_false_iff_not] at h) <;> (conv=>arg 4;cbv))
  | (refine Sat.need ndA ?_; conv=>arg 4;cbv)
  | (refine Sat.idxk (by assumption) ?_; conv=>arg 4;cbv) | (refine Sat.idx ndA (fun v_ hv_ => ?_); conv=>arg 4;cbv)
  | (refine Sat.ari64 ndA ndA ?_; conv=>arg 4;cbv)
  | (refine Sat.pop ?_; conv=>arg 4;cbv)
  | refine Sat.done ?_
 all_goals refine led_bo ?_
 all_goals (simp only [okOp]; first | (refine (decide_eq_true ?_).symm; omega) | (refine (decide_eq_false ?_).symm; omega))
def okLogFrom (p : Int) : List GEntry → Bool
 | [] => true
 | e :: r => decide (1 ≤ e.Epoch ∧ e.Epoch ≤ 20) && okOp e.Op && decide (p ≤ e.Epoch) && okLogFrom e.Epoch r
def isLog (l : List GEntry) : Bool := okLogFrom 0 l && decide (l.length ≤ 16)
def prevE (l : List GEntry) : Nat → Int
 | 0 => 0
 | i + 1 => match l[i]? with | some e => e.Epoch | none => 0
theorem prevE_get {l : List GEntry} {i : Nat} {e : GEntry} (h : l[i]? = some e) : prevE l (i + 1) = e.Epoch := by simp [prevE, h]
theorem okLog_step {l : List GEntry} {i : Nat} {e : GEntry} {b : Bool} (hb : b = okLogFrom (prevE l i) (l.drop i)) (h : l[i]? = some e) (h1 : 1 ≤ e.Epoch ∧ e.Epoch ≤ 20) (h2 : okOp e.Op = true) (h3 : prevE l i ≤ e.Epoch) : b = okLogFrom (prevE l (i + 1)) (l.drop (i + 1)) := by
 rw [hb, drop_get h, okLogFrom, prevE_get h, h2, decide_eq_true h1, decide_eq_true h3]
 simp
theorem okLog_bad {l : List GEntry} {i : Nat} {e : GEntry} {b : Bool} (hb : b = okLogFrom (prevE l i) (l.drop i)) (h : l[i]? = some e) (hn : ¬ ((1 ≤ e.Epoch ∧ e.Epoch ≤ 20) ∧ okOp e.Op = true ∧ prevE l i ≤ e.Epoch)) : b = false := by
 rw [hb, drop_get h, okLogFrom]
 cases e1 : okOp e.Op with
 | false => simp
 | true =>
   by_cases h1 : 1 ≤ e.Epoch ∧ e.Epoch ≤ 20
   ·by_cases h3 : prevE l i ≤ e.Epoch
    ·exact absurd ⟨h1, e1, h3⟩ hn
    ·rw [decide_eq_false h3]; simp
   ·rw [decide_eq_false h1]; simp
theorem okLog_end {l : List GEntry} {i : Nat} {b : Bool} (hb : b = okLogFrom (prevE l i) (l.drop i)) (h : i = l.length) : b = true := by
 rw [hb, h, List.drop_length, okLogFrom]
theorem prevE_zero {l : List GEntry} {i : Nat} (h : i = 0) : prevE l i = 0 := by subst h; rfl
theorem prevE_pos {l : List GEntry} {i j : Nat} {e : GEntry} (h : l[j]? = some e) (hj : i = j + 1) : prevE l i = e.Epoch := by subst hj; exact prevE_get h
theorem w_spec_IsLog (l : List GEntry) (hb : bEntryS l) : Fn Pr n_spec_IsLog [.sl 7 eGEntry (fun _ => l)] (.bo (isLog l)) := by
 refine k_spec_IsLog.fn (by kernel_rfl) ?_
 have h0 : l.length * 56 ≤ 140737488351232 := hb
 conv=>arg 4;cbv
 refine Sat.loopP (ι := Nat) (fun i => [(3, .int .i64 (fun _ => (i : Int)))]) (fun i => []) (fun i => i ≤ l.length ∧ okLogFrom 0 l = okLogFrom (prevE l i) (l.drop i)) (fun i => l.length - i) 0 ?_ ⟨by omega, by simp [prevE]⟩ (fun i hi => ?_)
 ·exact lesA
 conv=>arg 4;cbv
 repeat' first
  | (refine Sat.cmp (fun h => ?_) (fun h => ?_) <;> simp only [Cmp.holds] at h <;> (conv=>arg 4;cbv))
  | (refine Sat.need ndA ?_; conv=>arg 4;cbv)
  | (refine Sat.idxk (by assumption) ?_; conv=>arg 4;cbv) | (refine Sat.idx ndA (fun v_ hv_ => ?_); conv=>arg 4;cbv)
  | (refine Sat.callb (w_spec_l1In _ _ _) rfl ledA (fun h => ?_) (fun h => ?_) <;> (try simp only [decide_eq_true_eq, decide_eq_false_iff_not] at h) <;> (conv=>arg 4;cbv))
  | (refine Sat.callb (w_spec_IsValidOp (GEntry.Op _)) rfl ledA (fun h => ?_) (fun h => ?_) <;> (conv=>arg 4;cbv))
  | (refine Sat.ari64 ndA ndA ?_; conv=>arg 4;cbv)
  | (refine Sat.pop ?_; conv=>arg 4;cbv)
  | refine Sat.next (i + 1) ?_ ?_ (by (try dsimp only); exact arA)
  | refine Sat.done ?_
 ·refine led_bo ?_
  rw [isLog, okLog_bad (i := i) hi.2 (by assumption) (fun q => by have := prevE_pos (l := l) (i := i) hv_ (by exact arA); omega)]; rfl
 ·exact lesA
 ·have := prevE_pos (l := l) (i := i) hv_ (by exact arA)
  exact ⟨by exact arA, okLog_step hi.2 (by assumption) (by assumption) (by assumption) (by omega)⟩
 ·exact lesA
 ·have := prevE_zero (l := l) (i := i) (by exact arA)
  exact ⟨by exact arA, okLog_step hi.2 (by assumption) (by assumption) (by assumption) (by omega)⟩
 ·refine led_bo ?_
  rw [isLog, okLog_bad (i := i) hi.2 (by assumption) (fun q => by simp_all)]; rfl
 ·refine led_bo ?_
  rw [isLog, okLog_bad (i := i) hi.2 (by assumption) (fun q => h q.1)]; rfl
 all_goals
  refine led_bo ?_
  rw [isLog, okLog_end hi.2 (by exact arA), Bool.true_and]
  simp only [ncast] at h
 ·exact (decide_eq_true (by omega)).symm
 ·exact (decide_eq_false (by omega)).symm
theorem w_impl_IsLog (l : List GEntry) (hb : bEntryS l) : Fn Pr n_impl_IsLog [.sl 7 eGEntry (fun _ => l)] (.bo (isLog l)) := by
 refine k_impl_IsLog.fn (by kernel_rfl) ?_
 have h0 : l.length * 56 ≤ 140737488351232 := hb
 conv=>arg 4;cbv
 refine Sat.loopP (ι := Nat) (fun i => [(7, .int .i64 (fun _ => (i : Int)))]) (fun i => []) (fun i => i ≤ l.length ∧ okLogFrom 0 l = okLogFrom (prevE l i) (l.drop i)) (fun i => l.length - i) 0 ?_ ⟨by omega, by simp [prevE]⟩ (fun i hi => ?_)
 ·exact lesA
 conv=>arg 4;cbv
 repeat' first
  | (refine Sat.cmp (fun h => ?_) (fun h => ?_) <;> simp only [Cmp.holds] at h <;> (conv=>arg 4;cbv))
  | (refine Sat.need ndA ?_; conv=>arg 4;cbv)
  | (refine Sat.idxk (by assumption) ?_; conv=>arg 4;cbv) | (refine Sat.idx ndA (fun v_ hv_ => ?_); conv=>arg 4;cbv)
  | (refine Sat.callb (w_impl_within _ _ _) rfl ledA (fun h => ?_) (fun h => ?_) <;> (try simp only [decide_eq_true_eq, decide_eq_false_iff_not] at h) <;> (conv=>arg 4;cbv))
  | (refine Sat.callb (w_impl_IsValidOp (GEntry.Op _)) rfl ledA (fun h => ?_) (fun h => ?_) <;> (conv=>arg 4;cbv))
  | (refine Sat.ari64 ndA ndA ?_; conv=>arg 4;cbv)
  | (refine Sat.pop ?_; conv=>arg 4;cbv)
  | refine Sat.next (i + 1) ?_ ?_ (by (try dsimp only); exact arA)
  | refine Sat.done ?_
 ·refine led_bo ?_
  rw [isLog, okLog_bad (i := i) hi.2 (by assumption) (fun q => by have := prevE_pos (l := l) (i := i) hv_ (by exact arA); omega)]; rfl
 ·exact lesA
 ·have := prevE_pos (l := l) (i := i) hv_ (by exact arA)
  exact ⟨by exact arA, okLog_step hi.2 (by assumption) (by assumption) (by assumption) (by omega)⟩
 ·refine led_bo ?_
  rw [isLog, okLog_bad (i := i) hi.2 (by assumption) (fun q => by have := q.2.1; simp_all)]; rfl
 ·exact lesA
 ·have := prevE_zero (l := l) (i := i) (by exact arA)
  exact ⟨by exact arA, okLog_step hi.2 (by assumption) (by assumption) (by assumption) (by omega)⟩
 ·refine led_bo ?_
  rw [isLog, okLog_bad (i := i) hi.2 (by assumption) (fun q => by have := q.2.1; simp_all)]; rfl
 ·refine led_bo ?_
  rw [isLog, okLog_bad (i := i) hi.2 (by assumption) (fun q => h q.1)]; rfl
 all_goals
  refine led_bo ?_
  rw [isLog, okLog_end hi.2 (by exact arA), Bool.true_and]
  simp only [ncast] at h
 ·exact (decide_eq_true (by omega)).symm
 ·exact (decide_eq_false (by omega)).symm
def cpre : List GEntry → List GEntry → Nat
 | a :: r, b :: q => if a = b then cpre r q + 1 else 0
 | _, _ => 0
theorem cpre_le : ∀ (a b : List GEntry), cpre a b ≤ a.length ∧ cpre a b ≤ b.length
 | [], b => by simp [cpre]
 | a :: r, [] => by simp [cpre]
 | a :: r, b :: q => by
   have := cpre_le r q
   rw [cpre]
   split <;> simp <;> omega
theorem cpre_all : ∀ {a b : List GEntry}, a.length = b.length → (cpre a b = a.length ↔ a = b)
 | [], b, h => by
   cases b with
   | nil => simp [cpre]
   | cons => simp at h
 | a :: r, [], h => by simp at h
 | a :: r, b :: q, h => by
   have := cpre_all (a := r) (b := q) (by simpa using h)
   rw [cpre]
   split
   ·rename_i e; subst e; simp [this]
   ·rename_i e; simp [e]
theorem cpre_step {a b : List GEntry} {i k : Nat} {x y : GEntry} (h : k = i + cpre (a.drop i) (b.drop i)) (hx : a[i]? = some x) (hy : b[i]? = some y) (e : x = y) : k = i + 1 + cpre (a.drop (i + 1)) (b.drop (i + 1)) := by
 rw [h, drop_get hx, drop_get hy, cpre, if_pos e]; omega
theorem cpre_stop {a b : List GEntry} {i k : Nat} {x y : GEntry} (h : k = i + cpre (a.drop i) (b.drop i)) (hx : a[i]? = some x) (hy : b[i]? = some y) (e : ¬ x = y) : k = i := by
 rw [h, drop_get hx, drop_get hy, cpre, if_neg e]; omega
theorem cpre_end {a b : List GEntry} {i k : Nat} (h : k = i + cpre (a.drop i) (b.drop i)) (hl : a.length ≤ i ∨ b.length ≤ i) : k = i := by
 have := cpre_le (a.drop i) (b.drop i)
 simp only [List.length_drop] at this
 omega
theorem cpre_iff {a b : List GEntry} : a = b ↔ ((a.length : Int) = (b.length : Int) ∧ cpre a b = a.length) := by
 constructor
 ·intro h
  exact ⟨by rw [h], (cpre_all (by rw [h])).2 h⟩
 ·intro h
  exact (cpre_all (by omega)).1 h.2
def genL {α : Type} (f : Nat → α) (n : Nat) : List α := (List.range n).map f
@[simp] theorem genL_length {α : Type} {f : Nat → α} {n : Nat} : (genL f n).length = n := by simp [genL]
theorem gen_get {α : Type} {f : Nat → α} {n i : Nat} (h : i < n) : (genL f n)[i]? = some (f i) := by simp [genL, h]
theorem set_self {α : Type} {l : List α} {i : Nat} {z : α} (h : i < l.length) : (setAt l i z)[i]? = some z := by simp [setAt, h]
theorem gen_set {α : Type} {f : Nat → α} {l : List α} {i : Nat} (h : i < l.length) : setAt (genL f i ++ l.drop i) i (f i) = genL f (i + 1) ++ l.drop (i + 1) := by
 rw [setAt, List.set_append_right _ _ (by simp)]
 simp only [genL_length, Nat.sub_self]
 rw [List.drop_eq_getElem_cons h, List.set_cons_zero]
 simp [genL, List.range_succ]
theorem held_k {c : Prop} [Decidable c] {a : Int} (h : ¬ (if c then a else -1) < 0) : (if c then a else -1) = a := by
 by_cases e : c
 ·rw [if_pos e]
 ·rw [if_neg e] at h; omega
theorem Sat.typedG {P : Program} {Q : AV → Prop} {As : List (St → Prop)} {α : Type} {sz : Nat} {enc : α → Nat → AV} {cells : List AV} {c : α → Tree} (z0 : α) (h : ∀ (j : Nat) (x : AV), cells[j]? = some x → LeD x (enc z0 j)) (hc : ∀ z, z = z0 → Sat P Q As (c z)) : Sat P Q As (.typed sz enc cells c) := .typed z0 h (hc z0 rfl)
theorem set_set {α : Type} {l : List α} {i : Nat} {a b : α} : setAt (setAt l i a) i b = setAt l i b := by simp [setAt]
theorem flat_encI (k : IntKind) (y : Int) (j : Nat) (hj : j < 1) : flat (encI k y j) = true := rfl
def oins (x : Int) : List Int → List Int
 | [] => [x]
 | y :: r => if x < y then x :: y :: r else y :: oins x r
def isort (l : List Int) : List Int := l.foldl (fun p x => oins x p) []
def Asc (l : List Int) : Prop := l.Pairwise (· ≤ ·)
theorem oins_len {x : Int} : ∀ {l : List Int}, (oins x l).length = l.length + 1
 | [] => rfl
 | y :: r => by
   rw [oins]
   split
   ·rfl
   ·simp [oins_len (x := x) (l := r)]
theorem isort_snoc {l : List Int} {x : Int} : isort (l ++ [x]) = oins x (isort l) := by simp [isort]
theorem fold_len : ∀ {l p : List Int}, (l.foldl (fun p x => oins x p) p).length = p.length + l.length
 | [], p => by simp
 | x :: r, p => by
   rw [List.foldl_cons, fold_len (l := r), oins_len, List.length_cons]
   omega
theorem isort_len {l : List Int} : (isort l).length = l.length := by rw [isort, fold_len]; simp
theorem oins_mem {x y : Int} : ∀ {l : List Int}, y ∈ oins x l ↔ y = x ∨ y ∈ l
 | [] => by simp [oins]
 | z :: r => by
   rw [oins]
   split
   ·simp
   ·rw [List.mem_cons, oins_mem (l := r), List.mem_cons]
    constructor
    ·rintro (h | h | h)
     ·exact .inr (.inl h)
     ·exact .inl h
     ·exact .inr (.inr h)
    ·rintro (h | h | h)
     ·exact .inr (.inl h)
     ·exact .inl h
     ·exact .inr (.inr h)
theorem oins_asc {x : Int} : ∀ {l : List Int}, Asc l → Asc (oins x l)
 | [], _ => by simp [oins, Asc]
 | y :: r, h => by
   obtain ⟨h1, h2⟩ := List.pairwise_cons.1 h
   rw [oins]
   split
   ·rename_i hlt
    refine List.pairwise_cons.2 ⟨fun z hz => ?_, h⟩
    rcases List.mem_cons.1 hz with rfl | hz
    ·omega
    ·have := h1 z hz; omega
   ·rename_i hlt
    refine List.pairwise_cons.2 ⟨fun z hz => ?_, oins_asc h2⟩
    rcases oins_mem.1 hz with rfl | hz
    ·omega
    ·exact h1 z hz
theorem fold_asc : ∀ {l p : List Int}, Asc p → Asc (l.foldl (fun p x => oins x p) p)
 | [], p, h => h
 | x :: r, p, h => fold_asc (l := r) (oins_asc h)
theorem isort_asc (l : List Int) : Asc (isort l) := fold_asc List.Pairwise.nil
theorem fold_mem {y : Int} : ∀ {l p : List Int}, y ∈ l.foldl (fun p x => oins x p) p ↔ y ∈ p ∨ y ∈ l
 | [], p => by simp
 | x :: r, p => by
   rw [List.foldl_cons, fold_mem (l := r), oins_mem, List.mem_cons]
   constructor
   ·rintro ((h | h) | h)
    ·exact .inr (.inl h)
    ·exact .inl h
    ·exact .inr (.inr h)
   ·rintro (h | h | h)
    ·exact .inl (.inr h)
    ·exact .inl (.inl h)
    ·exact .inr h
theorem isort_mem {y : Int} {l : List Int} : y ∈ isort l ↔ y ∈ l := by rw [isort, fold_mem]; simp
theorem oins_at {x : Int} : ∀ {p q : List Int}, (∀ y ∈ p, y ≤ x) → (∀ y ∈ q, x < y) → oins x (p ++ q) = p ++ x :: q
 | [], [], _, _ => rfl
 | [], y :: q, _, h => by
   have := h y (List.mem_cons_self ..)
   rw [List.nil_append, oins, if_pos this, List.nil_append]
 | z :: p, q, h1, h2 => by
   have := h1 z (List.mem_cons_self ..)
   rw [List.cons_append, oins, if_neg (by omega), oins_at (fun y hy => h1 y (List.mem_cons_of_mem _ hy)) h2, List.cons_append]
theorem get_at {α : Type _} {p q : List α} {x : α} {k : Nat} (h : k = p.length) : (p ++ x :: q)[k]? = some x := by subst h; simp
theorem set_at {α : Type} {p q : List α} {x z : α} {k : Nat} (h : k = p.length) : setAt (p ++ x :: q) k z = p ++ z :: q := by subst h; simp [setAt]
theorem snoc_or {α : Type _} (l : List α) : l = [] ∨ ∃ L b, l = L ++ [b] := by
 rcases List.eq_nil_or_concat l with h | ⟨L, b, h⟩
 ·exact .inl h
 ·exact .inr ⟨L, b, by rw [h, List.concat_eq_append]⟩
theorem get_at2 {α : Type _} {p t : List α} {y : α} {k : Nat} (h : k = p.length) : ((p ++ [y]) ++ t)[k]? = some y := by subst h; simp
theorem set_at2 {α : Type} {p t : List α} {y z : α} {k : Nat} (h : k = p.length) : setAt ((p ++ [y]) ++ t) k z = (p ++ [z]) ++ t := by subst h; simp [setAt]
theorem w_cmp_isNaN_int (x : Int) : Fn Pr n_cmp_isNaN_int [.int .i64 (fun _ => x)] (.bo false) := by
 refine k_cmp_isNaN_int.fn (by kernel_rfl) ?_
 conv=>arg 4;cbv
 repeat' first
  | (refine Sat.cmp (fun h => ?_) (fun h => ?_) <;> simp only [Cmp.holds] at h <;> (conv=>arg 4;cbv))
  | (refine Sat.need ndA ?_; conv=>arg 4;cbv)
  | (refine Sat.idxk (by assumption) ?_; conv=>arg 4;cbv) | (refine Sat.idx ndA (fun v_ hv_ => ?_); conv=>arg 4;cbv)
  | (refine Sat.ari64 ndA ndA ?_; conv=>arg 4;cbv)
  | (refine Sat.pop ?_; conv=>arg 4;cbv)
  | refine Sat.done ?_
 all_goals first | exact led_bo rfl | contradiction | (exfalso; simp_all; done)
theorem w_cmp_Less_int (x y : Int) : Fn Pr n_cmp_Less_int [.int .i64 (fun _ => x), .int .i64 (fun _ => y)] (.bo (decide (x < y))) := by
 refine k_cmp_Less_int.fn (by kernel_rfl) ?_
 conv=>arg 4;cbv
 repeat' first
  | (refine Sat.cmp (fun h => ?_) (fun h => ?_) <;> simp only [Cmp.holds] at h <;> (conv=>arg 4;cbv))
  | (refine Sat.call (w_cmp_isNaN_int _) rfl ledA ?_; conv=>arg 4;cbv)
  | (refine Sat.need ndA ?_; conv=>arg 4;cbv)
  | (refine Sat.idxk (by assumption) ?_; conv=>arg 4;cbv) | (refine Sat.idx ndA (fun v_ hv_ => ?_); conv=>arg 4;cbv)
  | (refine Sat.ari64 ndA ndA ?_; conv=>arg 4;cbv)
  | (refine Sat.pop ?_; conv=>arg 4;cbv)
  | refine Sat.done ?_
 all_goals refine led_bo ?_
 all_goals simp <;> omega
set_option maxHeartbeats 1000000 in
theorem w_slices_insertionSortOrdered_int (l : List Int) (hb : l.length ≤ 1000000) : FnM Pr n_slices_insertionSortOrdered_int [.ptr 0 0, .int .i64 (fun _ => 0), .int .i64 (fun _ => l.length)] [.sl 1 (encI .i64) (fun _ => l)] (.agg [.tup []]) [.sl 1 (encI .i64) (fun _ => isort l)] := by
 refine k_slices_insertionSortOrdered_int.fnm (by kernel_rfl) ⟨.mk isort_len, trivial⟩ ?_
 conv=>arg 4;cbv
 (refine Sat.ari64 ndA ndA ?_; conv=>arg 4;cbv)
 have hst : isort (l.take 1) = l.take 1 := by
  cases l with
  | nil => rfl
  | cons a r => simp [isort, oins]
 refine Sat.loopP (ι := Nat) (fun i => [(6, .int .i64 (fun _ => (i : Int)))]) (fun i => [(0, .row 1 (encI .i64) (fun _ => isort (l.take i) ++ l.drop i) true)]) (fun i => 1 ≤ i ∧ i ≤ max 1 l.length) (fun i => l.length - i) 1 ?_ (by omega) (fun i hi => ?_)
 ·refine les_of ?_ ?_ rfl
  iterate 2 (focus repeat' (first | exact trivial | refine And.intro ?_ ?_ | exact levA | refine lev_cons ?_ ?_ | refine LeV.agg rfl ?_ | exact Nat.le_of_ble_eq_true rfl | exact Or.inl ⟨_, rfl, .row rfl⟩ | refine Or.inl ⟨_, rfl, .row ?_⟩ | refine Or.inl ⟨_, rfl, .lit rfl ?_⟩ | exact Or.inr ⟨rfl, rfl⟩ | (first | exact .int (by (try dsimp only); exact arA) | (show l = isort (l.take 1) ++ l.drop 1; rw [hst, List.take_append_drop]))))
 have hl0 : (isort (l.take i)).length = min i l.length := by rw [isort_len]; simp
 conv=>arg 4;cbv
 refine Sat.cmp (fun h => ?_) (fun h => ?_) <;> simp only [Cmp.holds] at h <;> (conv=>arg 4;cbv)
 ·have hil : i < l.length := by exact arA
  obtain ⟨x, hx⟩ : ∃ x, l[i]? = some x := ⟨_, List.getElem?_eq_getElem hil⟩
  refine Sat.loopP (ι := List Int × List Int) (fun p => [(7, .int .i64 (fun _ => (p.1.length : Int)))]) (fun p => [(0, .row 1 (encI .i64) (fun _ => p.1 ++ x :: (p.2 ++ l.drop (i + 1))) true)]) (fun p => p.1 ++ p.2 = isort (l.take i) ∧ ∀ y ∈ p.2, x < y) (fun p => p.1.length) (isort (l.take i), []) ?_ ⟨by simp, by simp⟩ (fun p hp => ?_)
  ·refine les_of ?_ ?_ rfl
   iterate 2 (focus repeat' (first | exact trivial | refine And.intro ?_ ?_ | exact levA | refine lev_cons ?_ ?_ | refine LeV.agg rfl ?_ | exact Nat.le_of_ble_eq_true rfl | exact Or.inl ⟨_, rfl, .row rfl⟩ | refine Or.inl ⟨_, rfl, .row ?_⟩ | refine Or.inl ⟨_, rfl, .lit rfl ?_⟩ | exact Or.inr ⟨rfl, rfl⟩ | (first | exact .int (by (try dsimp only); exact arA) | (rw [drop_get hx]; simp; done))))
  obtain ⟨p1, p2⟩ := p
  obtain ⟨hp1, hp2⟩ := hp
  have hlen : p1.length + p2.length = i := by have := congrArg List.length hp1; rw [List.length_append, hl0] at this; simp only at this; omega
  have hdl : (l.drop (i + 1)).length = l.length - (i + 1) := by simp
  conv=>arg 4;cbv
  dsimp only at hp1 hp2
  rcases snoc_or p1 with rfl | ⟨p0, y, rfl⟩
  ·
   have hi2 : oins x (isort (l.take i)) = [] ++ x :: p2 := by rw [← hp1]; exact oins_at (p := []) (by simp) hp2
   refine Sat.cmp (fun h => ?_) (fun h => ?_) <;> simp only [Cmp.holds] at h <;> (conv=>arg 4;cbv)
   ·exact absurd h (by simp)
   repeat' first
    | (refine Sat.pop ?_; conv=>arg 4;cbv)
    | (refine Sat.ari64 ndA ndA ?_; conv=>arg 4;cbv)
    | refine Sat.next (i + 1) ?_ ?_ (by (try dsimp only); exact arA)
   ·refine les_of ?_ ?_ rfl
    iterate 2 (focus repeat' (first | exact trivial | refine And.intro ?_ ?_ | exact levA | refine lev_cons ?_ ?_ | refine LeV.agg rfl ?_ | exact Nat.le_of_ble_eq_true rfl | exact Or.inl ⟨_, rfl, .row rfl⟩ | refine Or.inl ⟨_, rfl, .row ?_⟩ | refine Or.inl ⟨_, rfl, .lit rfl ?_⟩ | exact Or.inr ⟨rfl, rfl⟩ | (first | exact .int (by (try dsimp only); exact arA) | (show [] ++ x :: (p2 ++ l.drop (i + 1)) = isort (l.take (i + 1)) ++ l.drop (i + 1); rw [List.take_add_one, hx]; simp [isort_snoc, hi2]))))
   ·exact arA
  ·have hy1 : y ∈ isort (l.take i) := by rw [← hp1]; simp
   have hle : ∀ z ∈ p0, z ≤ y := fun z hz => by
    have ha := isort_asc (l.take i)
    rw [← hp1, Asc, List.pairwise_append] at ha
    exact (List.pairwise_append.1 ha.1).2.2 z hz y (by simp)
   have hi2 : y ≤ x → oins x (isort (l.take i)) = (p0 ++ [y]) ++ x :: p2 := fun hyx => by
    rw [← hp1]
    refine oins_at (fun z hz => ?_) hp2
    rcases List.mem_append.1 hz with hz | hz
    ·have := hle z hz; omega
    ·simp at hz; omega
   simp only [List.length_append, List.length_singleton] at hlen
   repeat' first
    | (refine Sat.cmp (fun h => ?_) (fun h => ?_) <;> simp only [Cmp.holds] at h <;> (conv=>arg 4;cbv))
    | (refine Sat.need (by (try dsimp only); simp only [ncast, setAt, List.length_set, List.length_append, List.length_cons, List.length_nil] at *; omega) ?_; conv=>arg 4;cbv)
    | (refine Sat.idxk (get_at (by (try dsimp only); simp only [ncast, List.length_append, List.length_cons, List.length_nil] at *; omega)) ?_; conv=>arg 4;cbv)
    | (refine Sat.idxk (get_at2 (by (try dsimp only); simp only [ncast, List.length_append, List.length_cons, List.length_nil] at *; omega)) ?_; conv=>arg 4;cbv)
    | (refine Sat.idx (by (try dsimp only); simp only [ncast, setAt, List.length_set, List.length_append, List.length_cons, List.length_nil] at *; omega) (fun v_ hv_ => ?_); conv=>arg 4;cbv)
    | (refine Sat.callb (w_cmp_Less_int _ _) rfl ledA (fun h => ?_) (fun h => ?_) <;> (try simp only [decide_eq_true_eq, decide_eq_false_iff_not] at h) <;> (conv=>arg 4;cbv))
    | (refine Sat.typed _ tcA ?_; conv=>arg 4;cbv)
    | (refine Sat.ari64 (by (try dsimp only); simp only [ncast, List.length_append, List.length_cons, List.length_nil] at *; omega) (by (try dsimp only); simp only [ncast, List.length_append, List.length_cons, List.length_nil] at *; omega) ?_; conv=>arg 4;cbv)
    | refine Sat.next (p0, y :: p2) ?_ ?_ (by simp)
    | (refine Sat.pop ?_; conv=>arg 4;cbv)
    | refine Sat.next (i + 1) ?_ ?_ (by (try dsimp only); exact arA)
   ·refine les_of ?_ ?_ rfl
    iterate 2 (focus repeat' (first | exact trivial | refine And.intro ?_ ?_ | exact levA | refine lev_cons ?_ ?_ | refine LeV.agg rfl ?_ | exact Nat.le_of_ble_eq_true rfl | exact Or.inl ⟨_, rfl, .row rfl⟩ | refine Or.inl ⟨_, rfl, .row ?_⟩ | refine Or.inl ⟨_, rfl, .lit rfl ?_⟩ | exact Or.inr ⟨rfl, rfl⟩ | (first | exact .int (by (try dsimp only); simp only [ncast, List.length_append, List.length_cons, List.length_nil] at *; omega) | (show setAt (setAt ((p0 ++ [y]) ++ x :: (p2 ++ l.drop (i + 1))) _ y) _ x = p0 ++ x :: ((y :: p2) ++ l.drop (i + 1)); rw [set_at (by (try dsimp only); simp only [ncast, List.length_append, List.length_cons, List.length_nil] at *; omega), set_at2 (by (try dsimp only); simp only [ncast, List.length_append, List.length_cons, List.length_nil] at *; omega)]; simp))))
   ·exact ⟨by rw [← hp1]; simp, fun z hz => by
     rcases List.mem_cons.1 hz with rfl | hz
     ·exact h
     ·exact hp2 z hz⟩
   ·refine les_of ?_ ?_ rfl
    iterate 2 (focus repeat' (first | exact trivial | refine And.intro ?_ ?_ | exact levA | refine lev_cons ?_ ?_ | refine LeV.agg rfl ?_ | exact Nat.le_of_ble_eq_true rfl | exact Or.inl ⟨_, rfl, .row rfl⟩ | refine Or.inl ⟨_, rfl, .row ?_⟩ | refine Or.inl ⟨_, rfl, .lit rfl ?_⟩ | exact Or.inr ⟨rfl, rfl⟩ | (first | exact .int (by (try dsimp only); exact arA) | (show (p0 ++ [y]) ++ x :: (p2 ++ l.drop (i + 1)) = isort (l.take (i + 1)) ++ l.drop (i + 1); rw [List.take_add_one, hx]; simp [isort_snoc, hi2 (by omega)]))))
   ·exact arA
   all_goals exact absurd (by simp only [ncast, List.length_append, List.length_cons, List.length_nil]; omega) h
 ·repeat' first
   | (refine Sat.pop ?_; conv=>arg 4;cbv)
   | refine Sat.done ?_
  have e : l.take i = l := List.take_of_length_le (by exact arA)
  refine .tup rfl (led_cons (.same _) (led_cons (.sl ?_) led_nil))
  rw [e]; simp; exact arA
theorem Sat.ariu64 {P : Program} {Q : AV → Prop} {As : List (St → Prop)} {v : Unit → Int} {c : (Unit → Int) → Tree} (h1 : 0 ≤ v ()) (h2 : v () ≤ 18446744073709551615) (hc : Sat P Q As (c v)) : Sat P Q As (.ari .u64 v c) := .ari (IntWalk.u64_in _ ⟨h1, h2⟩) hc
theorem Sat.ariu8 {P : Program} {Q : AV → Prop} {As : List (St → Prop)} {v : Unit → Int} {c : (Unit → Int) → Tree} (h1 : 0 ≤ v ()) (h2 : v () ≤ 255) (hc : Sat P Q As (c v)) : Sat P Q As (.ari .u8 v c) := .ari (IntWalk.u8_in _ ⟨h1, h2⟩) hc
def len4 (n : Int) : Int := if n = 0 then 0 else if n < 2 then 1 else if n < 4 then 2 else if n < 8 then 3 else 4
theorem w_math_bits_Len64 (n : Int) (hn : 0 ≤ n ∧ n ≤ 12) : Fn Pr n_math_bits_Len64 [.int .u64 (fun _ => n)] (.int .i64 (fun _ => len4 n)) := by
 have hk : n = 0 ∨ n = 1 ∨ n = 2 ∨ n = 3 ∨ n = 4 ∨ n = 5 ∨ n = 6 ∨ n = 7 ∨ n = 8 ∨ n = 9 ∨ n = 10 ∨ n = 11 ∨ n = 12 := by omega
 rcases hk with rfl | rfl | rfl | rfl | rfl | rfl | rfl | rfl | rfl | rfl | rfl | rfl | rfl
 all_goals
  refine k_math_bits_Len64.fn (by kernel_rfl) ?_
  conv=>arg 4;cbv
  repeat' first
   | (refine Sat.cmp (fun h => by exfalso; simp only [Cmp.holds] at h; omega) (fun h => ?_); conv=>arg 4;cbv)
   | (refine Sat.need (by (try dsimp only); exact ⟨by decide, by decide⟩) ?_; conv=>arg 4;cbv)
   | (refine Sat.ariu8 (by (try dsimp only); omega) (by (try dsimp only); omega) ?_; conv=>arg 4;cbv)
   | (refine Sat.ari64 ndA ndA ?_; conv=>arg 4;cbv)
   | (refine Sat.ari64 (by (try dsimp only); decide) (by (try dsimp only); decide) ?_; conv=>arg 4;cbv)
   | refine Sat.done (.int ?_)
  rfl
theorem w_math_bits_Len (n : Int) (hn : 0 ≤ n ∧ n ≤ 12) : Fn Pr n_math_bits_Len [.int .u64 (fun _ => n)] (.int .i64 (fun _ => len4 n)) := by
 refine k_math_bits_Len.fn (by kernel_rfl) ?_
 conv=>arg 4;cbv
 repeat' first
  | (refine Sat.cmp (fun h => ?_) (fun h => ?_) <;> simp only [Cmp.holds] at h <;> (conv=>arg 4;cbv))
  | (refine Sat.call (w_math_bits_Len64 n hn) rfl ledA ?_; conv=>arg 4;cbv)
  | (refine Sat.need ndA ?_; conv=>arg 4;cbv)
  | (refine Sat.idxk (by assumption) ?_; conv=>arg 4;cbv) | (refine Sat.idx ndA (fun v_ hv_ => ?_); conv=>arg 4;cbv)
  | (refine Sat.ari64 ndA ndA ?_; conv=>arg 4;cbv)
  | (refine Sat.pop ?_; conv=>arg 4;cbv)
  | refine Sat.done ?_
 all_goals exact .int rfl
theorem w_slices_pdqsortOrdered_int (l : List Int) (k : Int) (hb : l.length ≤ 12) : FnM Pr n_slices_pdqsortOrdered_int [.ptr 0 0, .int .i64 (fun _ => 0), .int .i64 (fun _ => l.length), .int .i64 (fun _ => k)] [.sl 1 (encI .i64) (fun _ => l)] (.agg [.tup []]) [.sl 1 (encI .i64) (fun _ => isort l)] := by
 refine k_slices_pdqsortOrdered_int.fnm (by kernel_rfl) ⟨.mk isort_len, trivial⟩ ?_
 conv=>arg 4;cbv
 refine Sat.loopP (ι := Unit) (fun i => []) (fun i => []) (fun i => True) (fun i => 0) () ?_ trivial (fun i hi => ?_)
 ·exact lesA
 conv=>arg 4;cbv
 (refine Sat.ari64 ndA ndA ?_; conv=>arg 4;cbv)
 refine Sat.cmp (fun h => ?_) (fun h => by exfalso; simp only [Cmp.holds] at h; exact arA)
 conv=>arg 4;cbv
 repeat' first
  | (refine Sat.cmp (fun h => ?_) (fun h => ?_) <;> simp only [Cmp.holds] at h <;> (conv=>arg 4;cbv))
  | (refine Sat.callm (w_slices_insertionSortOrdered_int l (by omega)) rfl ledA rfl ledA ?_; conv=>arg 4;cbv)
  | (refine Sat.need ndA ?_; conv=>arg 4;cbv)
  | (refine Sat.need (by (repeat' (first | exact trivial | refine And.intro ?_ ?_ | rfl | (dsimp only; simp [genL_length]; done))); (first | done | fail)) ?_; conv=>arg 4;cbv)
  | (refine Sat.idxk (by assumption) ?_; conv=>arg 4;cbv) | (refine Sat.idx ndA (fun v_ hv_ => ?_); conv=>arg 4;cbv)
  | (refine Sat.ari64 ndA ndA ?_; conv=>arg 4;cbv)
  | (refine Sat.pop ?_; conv=>arg 4;cbv)
  | refine Sat.done ?_
 all_goals refine .tup rfl (led_cons (.same _) (led_cons (.sl rfl) led_nil))
theorem w_slices_Sort_intint (l : List Int) (hb : l.length ≤ 12) : FnM Pr n_slices_Sort_intint [.ptr 0 0] [.sl 1 (encI .i64) (fun _ => l)] (.agg [.tup []]) [.sl 1 (encI .i64) (fun _ => isort l)] := by
 refine k_slices_Sort_intint.fnm (by kernel_rfl) ⟨.mk isort_len, trivial⟩ ?_
 conv=>arg 4;cbv
 repeat' first
  | (refine Sat.cmp (fun h => ?_) (fun h => ?_) <;> simp only [Cmp.holds] at h <;> (conv=>arg 4;cbv))
  | (refine Sat.call (w_math_bits_Len (l.length : Int) (by omega)) rfl ledA ?_; conv=>arg 4;cbv)
  | (refine Sat.callm (w_slices_pdqsortOrdered_int l (len4 (l.length : Int)) hb) rfl ledA rfl ledA ?_; conv=>arg 4;cbv)
  | (refine Sat.ariu64 (by (try dsimp only); exact arA) (by (try dsimp only); exact arA) ?_; conv=>arg 4;cbv)
  | (refine Sat.need ndA ?_; conv=>arg 4;cbv)
  | (refine Sat.need (by (repeat' (first | exact trivial | refine And.intro ?_ ?_ | rfl | (dsimp only; simp [genL_length]; done))); (first | done | fail)) ?_; conv=>arg 4;cbv)
  | (refine Sat.idxk (by assumption) ?_; conv=>arg 4;cbv) | (refine Sat.idx ndA (fun v_ hv_ => ?_); conv=>arg 4;cbv)
  | (refine Sat.ari64 ndA ndA ?_; conv=>arg 4;cbv)
  | (refine Sat.pop ?_; conv=>arg 4;cbv)
  | refine Sat.done ?_
 all_goals refine .tup rfl (led_cons (.same _) (led_cons (.sl rfl) led_nil))
theorem w_slices_Index_intint (l : List Int) (v : Int) (hb : bIntS l) : Fn Pr n_slices_Index_intint [.sl 1 (encI .i64) (fun _ => l), .int .i64 (fun _ => v)] (.int .i64 (fun _ => idxF (fun x => decide (v = x)) l)) := by
 refine k_slices_Index_intint.fn (by kernel_rfl) ?_
 have h0 : l.length * 8 ≤ 140737488351232 := hb
 conv=>arg 4;cbv
 refine Sat.loopP (ι := Nat) (fun i => [(8, .int .i64 (fun _ => (i : Int)))]) (fun i => []) (fun i => i ≤ l.length ∧ idxF (fun x => decide (v = x)) l = if idxF (fun x => decide (v = x)) (l.drop i) < 0 then -1 else idxF (fun x => decide (v = x)) (l.drop i) + i) (fun i => l.length - i) 0 ?_ ⟨by omega, by have := (idxF_any (p := fun x => decide (v = x)) (l := l)).2; simp; omega⟩ (fun i hi => ?_)
 ·exact lesA
 conv=>arg 4;cbv
 repeat' first
  | (refine Sat.cmp (fun h => ?_) (fun h => ?_) <;> simp only [Cmp.holds] at h <;> (conv=>arg 4;cbv))
  | (refine Sat.need ndA ?_; conv=>arg 4;cbv)
  | (refine Sat.idxk (by assumption) ?_; conv=>arg 4;cbv) | (refine Sat.idx ndA (fun v_ hv_ => ?_); conv=>arg 4;cbv)
  | (refine Sat.ari64 ndA ndA ?_; conv=>arg 4;cbv)
  | (refine Sat.pop ?_; conv=>arg 4;cbv)
  | refine Sat.next (i + 1) ?_ ?_ (by (try dsimp only); exact arA)
  | refine Sat.done ?_
 ·refine .int ?_
  exact idxF_hit (by assumption) hi.2 (decide_eq_true h)
 ·exact lesA
 ·exact ⟨by exact arA, idxF_step (by assumption) hi.2 (decide_eq_false h)⟩
 ·refine .int ?_
  have e1 : i = l.length := by exact arA
  rw [hi.2, e1, List.drop_length, idxF]
  simp
theorem any_mem {v : Int} {l : List Int} : l.any (fun x => decide (v = x)) = decide (v ∈ l) := by
 rw [Bool.eq_iff_iff, List.any_eq_true, decide_eq_true_eq]
 constructor
 ·rintro ⟨x, h1, h2⟩; simp at h2; subst h2; exact h1
 ·exact fun h => ⟨v, h, by simp⟩
theorem w_slices_Contains_intint (l : List Int) (v : Int) (hb : bIntS l) : Fn Pr n_slices_Contains_intint [.sl 1 (encI .i64) (fun _ => l), .int .i64 (fun _ => v)] (.bo (decide (v ∈ l))) := by
 refine k_slices_Contains_intint.fn (by kernel_rfl) ?_
 conv=>arg 4;cbv
 repeat' first
  | (refine Sat.cmp (fun h => ?_) (fun h => ?_) <;> simp only [Cmp.holds] at h <;> (conv=>arg 4;cbv))
  | (refine Sat.call (w_slices_Index_intint l v hb) rfl ledA ?_; conv=>arg 4;cbv)
  | (refine Sat.need ndA ?_; conv=>arg 4;cbv)
  | (refine Sat.idxk (by assumption) ?_; conv=>arg 4;cbv) | (refine Sat.idx ndA (fun v_ hv_ => ?_); conv=>arg 4;cbv)
  | (refine Sat.ari64 ndA ndA ?_; conv=>arg 4;cbv)
  | (refine Sat.pop ?_; conv=>arg 4;cbv)
  | refine Sat.done ?_
 all_goals refine led_bo ?_
 all_goals have q := (idxF_any (p := fun x => decide (v = x)) (l := l)).1
 all_goals rw [any_mem, decide_eq_true_eq] at q
 ·exact (decide_eq_true (q.1 h)).symm
 ·exact (decide_eq_false (fun e => h (q.2 e))).symm
theorem w_impl_HasServer (l : List Int) (v : Int) (hb : bIntS l) : Fn Pr n_impl_HasServer [.sl 1 (encI .i64) (fun _ => l), .int .i64 (fun _ => v)] (.bo (decide (v ∈ l))) := by
 refine k_impl_HasServer.fn (by kernel_rfl) ?_
 conv=>arg 4;cbv
 repeat' first
  | (refine Sat.cmp (fun h => ?_) (fun h => ?_) <;> simp only [Cmp.holds] at h <;> (conv=>arg 4;cbv))
  | (refine Sat.callb (w_slices_Contains_intint l v hb) rfl ledA (fun h => ?_) (fun h => ?_) <;> (try simp only [decide_eq_true_eq, decide_eq_false_iff_not] at h) <;> (conv=>arg 4;cbv))
  | (refine Sat.need ndA ?_; conv=>arg 4;cbv)
  | (refine Sat.idxk (by assumption) ?_; conv=>arg 4;cbv) | (refine Sat.idx ndA (fun v_ hv_ => ?_); conv=>arg 4;cbv)
  | (refine Sat.ari64 ndA ndA ?_; conv=>arg 4;cbv)
  | (refine Sat.pop ?_; conv=>arg 4;cbv)
  | refine Sat.done ?_
 all_goals refine led_bo ?_
 all_goals simp_all
theorem w_spec_HasServer (l : List Int) (v : Int) (hb : bIntS l) : Fn Pr n_spec_HasServer [.sl 1 (encI .i64) (fun _ => l), .int .i64 (fun _ => v)] (.bo (decide (v ∈ l))) := by
 refine k_spec_HasServer.fn (by kernel_rfl) ?_
 have h0 : l.length * 8 ≤ 140737488351232 := hb
 conv=>arg 4;cbv
 refine Sat.loopP (ι := Nat) (fun i => [(5, .int .i64 (fun _ => (i : Int)))]) (fun i => []) (fun i => i ≤ l.length ∧ (v ∈ l ↔ v ∈ l.drop i)) (fun i => l.length - i) 0 ?_ ⟨by omega, by simp⟩ (fun i hi => ?_)
 ·exact lesA
 conv=>arg 4;cbv
 repeat' first
  | (refine Sat.cmp (fun h => ?_) (fun h => ?_) <;> simp only [Cmp.holds] at h <;> (conv=>arg 4;cbv))
  | (refine Sat.need ndA ?_; conv=>arg 4;cbv)
  | (refine Sat.idxk (by assumption) ?_; conv=>arg 4;cbv) | (refine Sat.idx ndA (fun v_ hv_ => ?_); conv=>arg 4;cbv)
  | (refine Sat.ari64 ndA ndA ?_; conv=>arg 4;cbv)
  | (refine Sat.pop ?_; conv=>arg 4;cbv)
  | refine Sat.next (i + 1) ?_ ?_ (by (try dsimp only); exact arA)
  | refine Sat.done ?_
 ·refine led_bo (decide_eq_true ?_).symm
  rw [hi.2, drop_get (i := i) hv_, h]
  exact List.mem_cons_self ..
 ·exact lesA
 ·refine ⟨by exact arA, ?_⟩
  rw [hi.2, drop_get (i := i) hv_, List.mem_cons]
  exact ⟨fun q => q.elim (fun e => absurd e.symm h) id, .inr⟩
 ·refine led_bo (decide_eq_false ?_).symm
  have e1 : i = l.length := by exact arA
  rw [hi.2, e1, List.drop_length]
  simp
def ddf (p : List Int) (x : Int) : List Int := if p.getLast? = some x then p else p ++ [x]
def dd (l : List Int) : List Int := l.foldl ddf []
theorem dd_snoc {l : List Int} {x : Int} : dd (l ++ [x]) = if (dd l).getLast? = some x then dd l else dd l ++ [x] := by rw [dd, List.foldl_append]; rfl
theorem snoc_ind {α : Type} {p : List α → Prop} (h0 : p []) (h1 : ∀ l x, p l → p (l ++ [x])) (l : List α) : p l := by
 have key : ∀ n (l : List α), l.length = n → p l := by
  intro n
  induction n with
  | zero => intro l hl; rw [List.eq_nil_of_length_eq_zero hl]; exact h0
  | succ n ih =>
    intro l hl
    rcases List.eq_nil_or_concat l with rfl | ⟨L, b, rfl⟩
    ·simp at hl
    ·rw [List.concat_eq_append] at hl ⊢
     exact h1 L b (ih L (by simpa using hl))
 exact key _ l rfl
theorem dd_last (l : List Int) : (dd l).getLast? = l.getLast? := by
 refine snoc_ind (p := fun l => (dd l).getLast? = l.getLast?) rfl (fun l x h => ?_) l
 rw [dd_snoc]
 split
 ·rename_i e; rw [e]; simp
 ·simp
theorem dd_len (l : List Int) : (dd l).length ≤ l.length := by
 refine snoc_ind (p := fun l => (dd l).length ≤ l.length) (by simp [dd]) (fun l x h => ?_) l
 rw [dd_snoc]
 split <;> simp <;> omega
theorem dd_mem {y : Int} (l : List Int) : y ∈ dd l ↔ y ∈ l := by
 refine snoc_ind (p := fun l => y ∈ dd l ↔ y ∈ l) (by simp [dd]) (fun l x h => ?_) l
 rw [dd_snoc]
 split
 ·rename_i e
  rw [List.mem_append, h, List.mem_singleton]
  exact ⟨.inl, fun q => q.elim id (fun q => by subst q; exact h.1 (List.mem_of_getLast? e))⟩
 ·rw [List.mem_append, List.mem_append, h]
def SAsc (l : List Int) : Prop := l.Pairwise (· < ·)
theorem dd_strict (l : List Int) : Asc l → SAsc (dd l) := by
 refine snoc_ind (p := fun l => Asc l → SAsc (dd l)) (fun _ => by simp [dd, SAsc]) (fun l x h ha => ?_) l
 rw [Asc, List.pairwise_append] at ha
 rw [dd_snoc]
 split
 ·exact h ha.1
 ·rename_i e
  rw [SAsc, List.pairwise_append]
  refine ⟨h ha.1, by simp, fun y hy z hz => ?_⟩
  rw [List.mem_singleton] at hz
  subst hz
  have h1 := ha.2.2 y ((dd_mem l).1 hy) z (by simp)
  rcases Int.lt_or_eq_of_le h1 with h1 | h1
  ·exact h1
  ·exfalso
   subst h1
   have hs := h ha.1
   rcases List.eq_nil_or_concat (dd l) with e2 | ⟨L, b, e2⟩
   ·rw [e2] at hy; cases hy
   ·rw [List.concat_eq_append] at e2
    rw [e2] at e hs hy
    rw [SAsc, List.pairwise_append] at hs
    have hbz : b ≤ y := ha.2.2 b ((dd_mem l).1 (by rw [e2]; simp)) y (by simp)
    rcases List.mem_append.1 hy with hy | hy
    ·have := hs.2.2 y hy b (by simp); omega
    ·simp at hy; subst hy; simp at e
theorem sasc_eq : ∀ {a b : List Int}, SAsc a → SAsc b → (∀ y, y ∈ a ↔ y ∈ b) → a = b
 | [], [], _, _, _ => rfl
 | [], y :: b, _, _, h => by have := (h y).2 (List.mem_cons_self ..); cases this
 | x :: a, [], _, _, h => by have := (h x).1 (List.mem_cons_self ..); cases this
 | x :: a, y :: b, ha, hb, h => by
   obtain ⟨ha1, ha2⟩ := List.pairwise_cons.1 ha
   obtain ⟨hb1, hb2⟩ := List.pairwise_cons.1 hb
   have hx := (h x).1 (List.mem_cons_self ..)
   have hy := (h y).2 (List.mem_cons_self ..)
   have e : x = y := by
    rcases List.mem_cons.1 hx with e | hx
    ·exact e
    ·rcases List.mem_cons.1 hy with e | hy
     ·exact e.symm
     ·have := ha1 y hy; have := hb1 x hx; omega
   subst e
   rw [sasc_eq ha2 hb2 (fun z => ?_)]
   have hz := h z
   rw [List.mem_cons, List.mem_cons] at hz
   constructor
   ·intro q
    have := ha1 z q
    rcases hz.1 (.inr q) with e | e
    ·omega
    ·exact e
   ·intro q
    have := hb1 z q
    rcases hz.2 (.inr q) with e | e
    ·omega
    ·exact e
def ddZ (l : List Int) : List Int := dd l ++ List.replicate (l.length - (dd l).length) 0
theorem ddZ_len (l : List Int) : (ddZ l).length = l.length := by have := dd_len l; simp [ddZ]; omega
theorem take_last {l : List Int} {i : Nat} {x : Int} (h : l[i]? = some x) : (l.take (i + 1)).getLast? = some x := by
 rw [List.take_add_one, h]; simp
theorem dd_take {l : List Int} {i : Nat} {x y : Int} (hx : l[i + 1]? = some x) (hy : l[i]? = some y) : dd (l.take (i + 1 + 1)) = if x = y then dd (l.take (i + 1)) else dd (l.take (i + 1)) ++ [x] := by
 rw [List.take_add_one (i := i + 1), hx]
 show dd (l.take (i + 1) ++ [x]) = _
 rw [dd_snoc, dd_last, take_last hy]
 by_cases e : x = y
 ·rw [if_pos (by rw [e]), if_pos e]
 ·rw [if_neg (fun q => e (Option.some.inj q).symm), if_neg e]
theorem set_run {D M t : List Int} {z x : Int} {k : Nat} (h : k = D.length) : setAt (D ++ (M ++ z :: x :: t)) k x = D ++ x :: ((M ++ [z]).tail ++ x :: t) := by
 cases M with
 | nil => exact set_at h
 | cons a M => rw [List.cons_append, set_at h]; simp
set_option maxHeartbeats 1000000 in
theorem w_slices_Compact_intint (l : List Int) (hb : l.length ≤ 1048576) : FnM Pr n_slices_Compact_intint [.ptr 0 0] [.sl 1 (encI .i64) (fun _ => l)] (.clo 0 [.int .i64 (fun _ => 0), .int .i64 (fun _ => ((dd l).length : Int))]) [.sl 1 (encI .i64) (fun _ => ddZ l)] := by
 refine k_slices_Compact_intint.fnm (by kernel_rfl) ⟨.mk (ddZ_len l), trivial⟩ ?_
 have fin : dd l = l → LeD (.tup [.clo 0 [.int .i64 (fun _ => 0), .int .i64 (fun _ => (l.length : Int))], .sl 1 (encI .i64) (fun _ => l)]) (.tup [.clo 0 [.int .i64 (fun _ => 0), .int .i64 (fun _ => ((dd l).length : Int))], .sl 1 (encI .i64) (fun _ => ddZ l)]) := fun e => by
  have e2 : ddZ l = l := by simp [ddZ, e]
  rw [e, e2]
  exact .same _
 conv=>arg 4;cbv
 refine Sat.cmp (fun h => ?_) (fun h => ?_) <;> simp only [Cmp.holds] at h <;> (conv=>arg 4;cbv)
 ·refine Sat.done (fin ?_)
  have : l.length < 2 := by exact arA
  match l, this with
  | [], _ => rfl
  | [x], _ => rfl
 have hl2 : 2 ≤ l.length := by exact arA
 refine Sat.loopP (ι := Nat) (fun k => [(3, .int .i64 (fun _ => (k : Int)))]) (fun k => []) (fun k => 1 ≤ k ∧ k ≤ l.length ∧ dd (l.take k) = l.take k) (fun k => l.length - k) 1 ?_ ⟨by omega, by omega, by cases l with | nil => rfl | cons a r => rfl⟩ (fun k hk => ?_)
 ·exact lesA
 conv=>arg 4;cbv
 obtain ⟨hk1, hk2, hk3⟩ := hk
 refine Sat.cmp (fun h => ?_) (fun h => ?_) <;> simp only [Cmp.holds] at h <;> (conv=>arg 4;cbv)
 ·obtain ⟨k0, rfl⟩ : ∃ k0, k = k0 + 1 := ⟨k - 1, by omega⟩
  have hkl : k0 + 1 < l.length := by exact arA
  obtain ⟨x, hx⟩ : ∃ x, l[k0 + 1]? = some x := ⟨_, List.getElem?_eq_getElem hkl⟩
  obtain ⟨y, hy⟩ : ∃ y, l[k0]? = some y := ⟨_, List.getElem?_eq_getElem (by omega)⟩
  have hdt := dd_take hx hy
  have ix : ∀ {n : Nat}, n = k0 + 1 → l[n]? = some x := fun e => e ▸ hx
  have iy : ∀ {n : Nat}, n = k0 → l[n]? = some y := fun e => e ▸ hy
  repeat' first
   | (refine Sat.cmp (fun h => ?_) (fun h => ?_) <;> simp only [Cmp.holds] at h <;> (conv=>arg 4;cbv))
   | (refine Sat.need ndA ?_; conv=>arg 4;cbv)
   | (refine Sat.idxk (ix (by (try dsimp only); exact arA)) ?_; conv=>arg 4;cbv)
   | (refine Sat.idxk (iy (by (try dsimp only); exact arA)) ?_; conv=>arg 4;cbv)
   | (refine Sat.ari64 ndA ndA ?_; conv=>arg 4;cbv)
   | (refine Sat.pop ?_; conv=>arg 4;cbv)
   | refine Sat.next (k0 + 1 + 1) ?_ ?_ (by (try dsimp only); exact arA)
  ·subst h
   rw [if_pos rfl] at hdt
   have hd0 : dd (l.take (k0 + 1 + 1)) = l.take (k0 + 1) := hdt.trans hk3
   refine Sat.loopP (ι := Nat × List Int × Int) (fun q => [(3, .int .i64 (fun _ => ((dd (l.take q.1)).length : Int))), (5, .int .i64 (fun _ => (q.1 : Int) - (k0 + 1)))]) (fun q => [(0, .row 1 (encI .i64) (fun _ => dd (l.take q.1) ++ (q.2.1 ++ q.2.2 :: l.drop q.1)) true)]) (fun q => k0 + 2 ≤ q.1 ∧ q.1 ≤ l.length ∧ (dd (l.take q.1)).length + q.2.1.length + 1 = q.1 ∧ l[q.1 - 1]? = some q.2.2) (fun q => l.length - q.1) (k0 + 1 + 1, [], x) ?_ ⟨by (try dsimp only); omega, by (try dsimp only); omega, by rw [hd0]; simp; omega, hx⟩ (fun q hq => ?_)
   ·refine les_of ?_ ?_ rfl
    iterate 2 (focus repeat' (first | exact trivial | refine And.intro ?_ ?_ | exact levA | refine lev_cons ?_ ?_ | refine LeV.agg rfl ?_ | exact Nat.le_of_ble_eq_true rfl | exact Or.inl ⟨_, rfl, .row rfl⟩ | refine Or.inl ⟨_, rfl, .row ?_⟩ | refine Or.inl ⟨_, rfl, .lit rfl ?_⟩ | exact Or.inr ⟨rfl, rfl⟩ | (first | exact .int (by (try dsimp only); first | (rw [hd0]; simp; omega) | exact arA) | (show l = dd (l.take (k0 + 1 + 1)) ++ ([] ++ x :: l.drop (k0 + 1 + 1)); rw [hd0, List.nil_append, ← drop_get hx, List.take_append_drop]))))
   obtain ⟨j, M, z⟩ := q
   obtain ⟨hj1, hj2, hj3, hj4⟩ := hq
   dsimp only at hj1 hj2 hj3 hj4
   have hld : (l.drop j).length = l.length - j := by simp
   conv=>arg 4;cbv
   refine Sat.cmp (fun h => ?_) (fun h => ?_) <;> simp only [Cmp.holds] at h <;> (conv=>arg 4;cbv)
   ·have hjl : j < l.length := by exact arA
    obtain ⟨w, hw⟩ : ∃ w, l[j]? = some w := ⟨_, List.getElem?_eq_getElem hjl⟩
    have hdj := drop_get hw
    have hd1 := dd_take (i := j - 1) (x := w) (y := z) (by rw [show j - 1 + 1 = j by omega]; exact hw) hj4
    rw [show j - 1 + 1 = j by omega] at hd1
    have iw : ∀ {n : Nat}, n = j → (dd (l.take j) ++ (M ++ z :: l.drop j))[n]? = some w := fun e => by
     rw [hdj, show dd (l.take j) ++ (M ++ z :: w :: l.drop (j + 1)) = (dd (l.take j) ++ M ++ [z]) ++ w :: l.drop (j + 1) by simp]
     exact get_at (by simp; omega)
    have iz : ∀ {n : Nat}, n = j - 1 → (dd (l.take j) ++ (M ++ z :: l.drop j))[n]? = some z := fun e => by
     rw [← List.append_assoc]
     exact get_at (by simp; omega)
    repeat' first
     | (refine Sat.cmp (fun h => ?_) (fun h => ?_) <;> simp only [Cmp.holds] at h <;> (conv=>arg 4;cbv))
     | (refine Sat.need (by (try dsimp only); simp only [ncast, List.length_append, List.length_cons, List.length_nil, List.length_drop] at *; omega) ?_; conv=>arg 4;cbv)
     | (refine Sat.idxk (iw (by (try dsimp only); exact arA)) ?_; conv=>arg 4;cbv)
     | (refine Sat.idxk (iz (by (try dsimp only); exact arA)) ?_; conv=>arg 4;cbv)
     | (refine Sat.idx (by (try dsimp only); simp only [ncast, setAt, List.length_set, List.length_append, List.length_cons, List.length_nil, List.length_drop] at *; omega) (fun v_ hv_ => ?_); conv=>arg 4;cbv)
     | (refine Sat.typed w tcA ?_; conv=>arg 4;cbv)
     | (refine Sat.ari64 ndA ndA ?_; conv=>arg 4;cbv)
     | (refine Sat.pop ?_; conv=>arg 4;cbv)
    ·have hdA : dd (l.take (j + 1)) = dd (l.take j) := by rw [hd1, if_pos h]
     refine Sat.next (j + 1, M ++ [z], w) ?_ ⟨by (try dsimp only); omega, by (try dsimp only); omega, by rw [hdA]; simp; omega, hw⟩ (by (try dsimp only); omega)
     refine les_of ?_ ?_ rfl
     iterate 2 (focus repeat' (first | exact trivial | refine And.intro ?_ ?_ | exact levA | refine lev_cons ?_ ?_ | refine LeV.agg rfl ?_ | exact Nat.le_of_ble_eq_true rfl | exact Or.inl ⟨_, rfl, .row rfl⟩ | refine Or.inl ⟨_, rfl, .row ?_⟩ | refine Or.inl ⟨_, rfl, .lit rfl ?_⟩ | exact Or.inr ⟨rfl, rfl⟩ | (first | exact .int (by (try dsimp only); rw [hdA]) | exact .int (by (try dsimp only); exact arA) | (show dd (l.take j) ++ (M ++ z :: l.drop j) = dd (l.take (j + 1)) ++ ((M ++ [z]) ++ w :: l.drop (j + 1)); rw [hdA, hdj]; simp))))
    ·have hdB : dd (l.take (j + 1)) = dd (l.take j) ++ [w] := by rw [hd1, if_neg h]
     refine Sat.next (j + 1, (M ++ [z]).tail, w) ?_ ⟨by (try dsimp only); omega, by (try dsimp only); omega, by rw [hdB]; simp; omega, hw⟩ (by (try dsimp only); omega)
     refine les_of ?_ ?_ rfl
     iterate 2 (focus repeat' (first | exact trivial | refine And.intro ?_ ?_ | exact levA | refine lev_cons ?_ ?_ | refine LeV.agg rfl ?_ | exact Nat.le_of_ble_eq_true rfl | exact Or.inl ⟨_, rfl, .row rfl⟩ | refine Or.inl ⟨_, rfl, .row ?_⟩ | refine Or.inl ⟨_, rfl, .lit rfl ?_⟩ | exact Or.inr ⟨rfl, rfl⟩ | (first | exact .int (by (try dsimp only); rw [hdB]; simp; done) | exact .int (by (try dsimp only); exact arA) | (show setAt (dd (l.take j) ++ (M ++ z :: l.drop j)) _ w = dd (l.take (j + 1)) ++ ((M ++ [z]).tail ++ w :: l.drop (j + 1)); rw [hdj, set_run (by (try dsimp only); exact arA), hdB]; simp))))
   ·have hjl : j = l.length := by exact arA
    subst hjl
    rw [List.take_length] at hj3
    repeat' first
     | (refine Sat.pop ?_; conv=>arg 4;cbv)
     | (refine Sat.need (by (try dsimp only); simp only [ncast, List.take_length, List.length_append, List.length_cons, List.length_nil, List.length_drop] at *; omega) ?_; conv=>arg 4;cbv)
     | (refine Sat.need (fun _ _ _ _ => rfl) ?_; conv=>arg 4;cbv)
     | (refine Sat.typed (0 : Int) tcA ?_; conv=>arg 4;cbv)
     | refine Sat.done ?_
    refine .tup rfl (led_cons (.clo rfl (led_cons (.int ?_) (led_cons (.int ?_) led_nil))) (led_cons (.sl ?_) led_nil))
    ·rfl
    ·(try dsimp only); rw [List.take_length]; exact arA
    ·(try dsimp only)
     simp only [ncast, List.take_length, List.drop_length, Int.toNat_natCast, Nat.zero_add]
     rw [List.take_left, List.drop_eq_nil_of_le (by simp; omega), List.append_nil]
     rfl
  ·exact lesA
  ·refine ⟨by omega, by omega, ?_⟩
   rw [hdt, if_neg h, hk3, List.take_add_one (i := k0 + 1), hx]
   rfl
 ·repeat' first
   | (refine Sat.pop ?_; conv=>arg 4;cbv)
   | refine Sat.done (fin ?_)
  rw [List.take_of_length_le (by exact arA)] at hk3
  exact hk3
theorem w_slices_Clone_intint (l : List Int) (hb : bIntS l) : Fn Pr n_slices_Clone_intint [.sl 1 (encI .i64) (fun _ => l)] (.sl 1 (encI .i64) (fun _ => l)) := by
 refine k_slices_Clone_intint.fn (by kernel_rfl) ?_
 have h0 : l.length * 8 ≤ 140737488351232 := hb
 conv=>arg 4;cbv
 repeat' first
  | (refine Sat.cmp (fun h => ?_) (fun h => ?_) <;> simp only [Cmp.holds] at h <;> (conv=>arg 4;cbv))
  | (refine Sat.need ⟨fun y _ => flat_encI .i64 y, by exact arA⟩ ?_; conv=>arg 4;cbv)
  | (refine Sat.may (fun h => ?_) ?_ <;> (conv=>arg 4;cbv))
  | (refine Sat.need ndA ?_; conv=>arg 4;cbv)
  | (refine Sat.idxk (by assumption) ?_; conv=>arg 4;cbv) | (refine Sat.idx ndA (fun v_ hv_ => ?_); conv=>arg 4;cbv)
  | (refine Sat.ari64 ndA ndA ?_; conv=>arg 4;cbv)
  | (refine Sat.pop ?_; conv=>arg 4;cbv)
  | refine Sat.done ?_
 all_goals first | exact .nil (by assumption) | exact .sl (by simp)
def asc (l : List Int) : List Int := dd (isort l)
theorem asc_mem {y : Int} {l : List Int} : y ∈ asc l ↔ y ∈ l := by rw [asc, dd_mem, isort_mem]
theorem asc_strict (l : List Int) : SAsc (asc l) := dd_strict _ (isort_asc l)
theorem asc_len (l : List Int) : (asc l).length ≤ l.length := by have := dd_len (isort l); rw [isort_len] at this; exact this
theorem asc_eq {a b : List Int} (h : ∀ y, y ∈ a ↔ y ∈ b) : asc a = asc b := sasc_eq (asc_strict a) (asc_strict b) (fun y => by rw [asc_mem, asc_mem, h])
theorem asc_of {a : List Int} (h : SAsc a) : asc a = a := sasc_eq (asc_strict a) h (fun y => asc_mem)
theorem w_impl_ascending (l : List Int) (hb : l.length ≤ 12) : Fn Pr n_impl_ascending [.sl 1 (encI .i64) (fun _ => l)] (.sl 1 (encI .i64) (fun _ => asc l)) := by
 have h0 : bIntS l := by show l.length * 8 ≤ _; omega
 have h1 := isort_len (l := l)
 have h2 := dd_len (isort l)
 refine k_impl_ascending.fn (by kernel_rfl) ?_
 conv=>arg 4;cbv
 repeat' first
  | (refine Sat.cmp (fun h => ?_) (fun h => ?_) <;> simp only [Cmp.holds] at h <;> (conv=>arg 4;cbv))
  | (refine Sat.call (w_slices_Clone_intint l h0) rfl ledA ?_; conv=>arg 4;cbv)
  | (refine Sat.callm (w_slices_Sort_intint l hb) rfl ledA rfl ledA ?_; conv=>arg 4;cbv)
  | (refine Sat.callm (w_slices_Compact_intint (isort l) (by omega)) rfl ledA rfl ledA ?_; conv=>arg 4;cbv)
  | (refine Sat.need (And.intro (And.intro rfl isort_len.symm) trivial) ?_; conv=>arg 4;cbv)
  | (refine Sat.need ndA ?_; conv=>arg 4;cbv)
  | (refine Sat.need (by (repeat' (first | exact trivial | refine And.intro ?_ ?_ | rfl | (dsimp only; simp [genL_length]; done))); (first | done | fail)) ?_; conv=>arg 4;cbv)
  | (refine Sat.idxk (by assumption) ?_; conv=>arg 4;cbv) | (refine Sat.idx ndA (fun v_ hv_ => ?_); conv=>arg 4;cbv)
  | (refine Sat.ari64 ndA ndA ?_; conv=>arg 4;cbv)
  | (refine Sat.pop ?_; conv=>arg 4;cbv)
  | refine Sat.done ?_
 all_goals refine .sl ?_
 all_goals simp [ddZ, asc]
theorem w_slices_IndexFunc_intint (l b : List Int) (f : Nat) (p : Int → Bool) (hf : ∀ x, Fn Pr f [.int .i64 (fun _ => x), .rptr [.sl 1 (encI .i64) (fun _ => b)]] (.bo (p x))) (hb : bIntS l) : Fn Pr n_slices_IndexFunc_intint [.sl 1 (encI .i64) (fun _ => l), .clo f [.rptr [.sl 1 (encI .i64) (fun _ => b)]]] (.int .i64 (fun _ => idxF p l)) := by
 refine k_slices_IndexFunc_intint.fn (by kernel_rfl) ?_
 have h0 : l.length * 8 ≤ 140737488351232 := hb
 conv=>arg 4;cbv
 refine Sat.loopP (ι := Nat) (fun i => [(8, .int .i64 (fun _ => (i : Int)))]) (fun i => []) (fun i => i ≤ l.length ∧ idxF p l = if idxF p (l.drop i) < 0 then -1 else idxF p (l.drop i) + i) (fun i => l.length - i) 0 ?_ ⟨by omega, by have := (idxF_any (p := p) (l := l)).2; simp; omega⟩ (fun i hi => ?_)
 ·refine les_of ?_ ?_ rfl
  iterate 2 (focus repeat' (first | exact trivial | refine And.intro ?_ ?_ | exact levA | refine lev_cons ?_ ?_ | refine LeV.agg rfl ?_ | exact Nat.le_of_ble_eq_true rfl | exact Or.inl ⟨_, rfl, .row rfl⟩ | refine Or.inl ⟨_, rfl, .row ?_⟩ | refine Or.inl ⟨_, rfl, .lit rfl ?_⟩ | exact Or.inr ⟨rfl, rfl⟩ | (exact .clo rfl (lev_cons (.rptr _) lev_nil))))
 conv=>arg 4;cbv
 repeat' first
  | (refine Sat.cmp (fun h => ?_) (fun h => ?_) <;> simp only [Cmp.holds] at h <;> (conv=>arg 4;cbv))
  | (refine Sat.need ndA ?_; conv=>arg 4;cbv)
  | (refine Sat.idxk (by assumption) ?_; conv=>arg 4;cbv) | (refine Sat.idx ndA (fun v_ hv_ => ?_); conv=>arg 4;cbv)
  | (refine Sat.callb (hf _) rfl ledA (fun h => ?_) (fun h => ?_) <;> (conv=>arg 4;cbv))
  | (refine Sat.ari64 ndA ndA ?_; conv=>arg 4;cbv)
  | (refine Sat.pop ?_; conv=>arg 4;cbv)
  | refine Sat.next (i + 1) ?_ ?_ (by (try dsimp only); exact arA)
  | refine Sat.done ?_
 ·refine .int ?_
  exact idxF_hit (by assumption) hi.2 h
 ·refine les_of ?_ ?_ rfl
  iterate 2 (focus repeat' (first | exact trivial | refine And.intro ?_ ?_ | exact levA | refine lev_cons ?_ ?_ | refine LeV.agg rfl ?_ | exact Nat.le_of_ble_eq_true rfl | exact Or.inl ⟨_, rfl, .row rfl⟩ | refine Or.inl ⟨_, rfl, .row ?_⟩ | refine Or.inl ⟨_, rfl, .lit rfl ?_⟩ | exact Or.inr ⟨rfl, rfl⟩ | (exact .clo rfl (lev_cons (.rptr _) lev_nil))))
 ·exact ⟨by exact arA, idxF_step (by assumption) hi.2 h⟩
 ·refine .int ?_
  have e1 : i = l.length := by exact arA
  rw [hi.2, e1, List.drop_length, idxF]
  simp
theorem idxF_spec {α : Type} {p : α → Bool} : ∀ {l : List α}, (idxF p l = -1 ∧ ∀ x ∈ l, p x = false) ∨ ∃ i : Nat, ∃ a, idxF p l = i ∧ l[i]? = some a ∧ p a = true ∧ ∀ x ∈ l.take i, p x = false
 | [] => .inl ⟨rfl, by simp⟩
 | x :: r => by
   rw [idxF]
   cases hx : p x with
   | true => exact .inr ⟨0, x, by simp, rfl, hx, by simp⟩
   | false =>
     rw [if_neg (by simp)]
     rcases idxF_spec (p := p) (l := r) with ⟨h1, h2⟩ | ⟨i, a, h1, h2, h3, h4⟩
     ·refine .inl ⟨by rw [h1]; simp, fun y hy => ?_⟩
      rcases List.mem_cons.1 hy with rfl | hy
      ·exact hx
      ·exact h2 y hy
     ·refine .inr ⟨i + 1, a, by rw [h1, if_neg (by omega)]; simp, by simpa using h2, h3, fun y hy => ?_⟩
      rw [List.take_succ_cons] at hy
      rcases List.mem_cons.1 hy with rfl | hy
      ·exact hx
      ·exact h4 y hy
def keep (p : Int → Bool) (l : List Int) : List Int := l.filter (fun x => !p x)
def keepZ (p : Int → Bool) (l : List Int) : List Int := keep p l ++ List.replicate (l.length - (keep p l).length) 0
theorem keep_len {p : Int → Bool} {l : List Int} : (keep p l).length ≤ l.length := List.length_filter_le _ _
theorem keepZ_len {p : Int → Bool} {l : List Int} : (keepZ p l).length = l.length := by have := keep_len (p := p) (l := l); simp [keepZ]; omega
theorem keep_all {p : Int → Bool} {l : List Int} (h : ∀ x ∈ l, p x = false) : keep p l = l := by
 rw [keep, List.filter_eq_self]
 intro x hx
 rw [h x hx]; rfl
theorem keep_snoc {p : Int → Bool} {l : List Int} {j : Nat} {x : Int} (h : l[j]? = some x) : keep p (l.take (j + 1)) = if p x = true then keep p (l.take j) else keep p (l.take j) ++ [x] := by
 rw [List.take_add_one, h, keep, keep, List.filter_append]
 cases e : p x <;> simp [e]
set_option maxHeartbeats 1000000 in
theorem w_slices_DeleteFunc_intint (l b : List Int) (f : Nat) (p : Int → Bool) (hf : ∀ x, Fn Pr f [.int .i64 (fun _ => x), .rptr [.sl 1 (encI .i64) (fun _ => b)]] (.bo (p x))) (hb : l.length ≤ 1048576) : FnM Pr n_slices_DeleteFunc_intint [.ptr 0 0, .clo f [.rptr [.sl 1 (encI .i64) (fun _ => b)]]] [.sl 1 (encI .i64) (fun _ => l)] (.clo 0 [.int .i64 (fun _ => 0), .int .i64 (fun _ => ((keep p l).length : Int))]) [.sl 1 (encI .i64) (fun _ => keepZ p l)] := by
 refine k_slices_DeleteFunc_intint.fnm (by kernel_rfl) ⟨.mk keepZ_len, trivial⟩ ?_
 have h0 : bIntS l := by show l.length * 8 ≤ _; omega
 conv=>arg 4;cbv
 rcases idxF_spec (p := p) (l := l) with ⟨h1, h2⟩ | ⟨i, a, h1, h2, h3, h4⟩
 ·repeat' first
   | (refine Sat.call (w_slices_IndexFunc_intint l b f p hf h0) rfl ledA ?_; conv=>arg 4;cbv)
   | (refine Sat.cmp (fun h => ?_) (fun h => by exfalso; simp only [Cmp.holds] at h; omega); conv=>arg 4;cbv)
   | refine Sat.done ?_
  have e := keep_all h2
  have e2 : keepZ p l = l := by simp [keepZ, e]
  rw [e, e2]
  exact .same _
 have hil := lt_of_get h2
 have hk0 : keep p (l.take (i + 1)) = l.take i := by rw [keep_snoc h2, if_pos h3, keep_all h4]
 repeat' first
  | (refine Sat.call (w_slices_IndexFunc_intint l b f p hf h0) rfl ledA ?_; conv=>arg 4;cbv)
  | (refine Sat.cmp (fun h => by exfalso; simp only [Cmp.holds] at h; omega) (fun h => ?_); conv=>arg 4;cbv)
  | (refine Sat.ari64 ndA ndA ?_; conv=>arg 4;cbv)
 refine Sat.loopP (ι := Nat × List Int) (fun q => [(5, .int .i64 (fun _ => ((keep p (l.take q.1)).length : Int))), (6, .int .i64 (fun _ => (q.1 : Int)))]) (fun q => [(0, .row 1 (encI .i64) (fun _ => keep p (l.take q.1) ++ (q.2 ++ l.drop q.1)) true)]) (fun q => q.1 ≤ l.length ∧ (keep p (l.take q.1)).length + q.2.length = q.1 ∧ q.2 ≠ []) (fun q => l.length - q.1) (i + 1, [a]) ?_ ⟨by (try dsimp only); omega, by rw [hk0]; simp; omega, by simp⟩ (fun q hq => ?_)
 ·refine les_of ?_ ?_ rfl
  iterate 2 (focus repeat' (first | exact trivial | refine And.intro ?_ ?_ | exact levA | refine lev_cons ?_ ?_ | refine LeV.agg rfl ?_ | exact Nat.le_of_ble_eq_true rfl | exact Or.inl ⟨_, rfl, .row rfl⟩ | refine Or.inl ⟨_, rfl, .row ?_⟩ | refine Or.inl ⟨_, rfl, .lit rfl ?_⟩ | exact Or.inr ⟨rfl, rfl⟩ | (first | exact .clo rfl (lev_cons (.rptr _) lev_nil) | exact .int (by (try dsimp only); first | (rw [hk0, h1]; simp; omega) | exact arA) | (show l = keep p (l.take (i + 1)) ++ ([a] ++ l.drop (i + 1)); rw [hk0, List.singleton_append, ← drop_get h2, List.take_append_drop]))))
 obtain ⟨j, M⟩ := q
 obtain ⟨hj1, hj2, hj3⟩ := hq
 dsimp only at hj1 hj2 hj3
 have hld : (l.drop j).length = l.length - j := by simp
 conv=>arg 4;cbv
 refine Sat.cmp (fun h => ?_) (fun h => ?_) <;> simp only [Cmp.holds] at h <;> (conv=>arg 4;cbv)
 ·have hjl : j < l.length := by exact arA
  obtain ⟨w, hw⟩ : ∃ w, l[j]? = some w := ⟨_, List.getElem?_eq_getElem hjl⟩
  have hdj := drop_get hw
  have hks := keep_snoc (p := p) hw
  obtain ⟨m, M', rfl⟩ : ∃ m M', M = m :: M' := by
   cases M with
   | nil => exact absurd rfl hj3
   | cons m M' => exact ⟨m, M', rfl⟩
  simp only [List.length_cons] at hj2
  have iw : ∀ {n : Nat}, n = j → (keep p (l.take j) ++ (m :: M' ++ l.drop j))[n]? = some w := fun e => by
   rw [hdj, ← List.append_assoc]
   exact get_at (by simp; omega)
  repeat' first
   | (refine Sat.need (by (try dsimp only); simp only [ncast, List.length_append, List.length_cons, List.length_nil, List.length_drop] at *; omega) ?_; conv=>arg 4;cbv)
   | (refine Sat.idxk (iw (by (try dsimp only); exact arA)) ?_; conv=>arg 4;cbv)
   | (refine Sat.callb (hf w) rfl ledA (fun h => ?_) (fun h => ?_) <;> (conv=>arg 4;cbv))
   | (refine Sat.idx (by (try dsimp only); simp only [ncast, setAt, List.length_set, List.length_append, List.length_cons, List.length_nil, List.length_drop] at *; omega) (fun v_ hv_ => ?_); conv=>arg 4;cbv)
   | (refine Sat.typed w tcA ?_; conv=>arg 4;cbv)
   | (refine Sat.ari64 ndA ndA ?_; conv=>arg 4;cbv)
   | (refine Sat.pop ?_; conv=>arg 4;cbv)
  ·rw [if_pos h] at hks
   refine Sat.next (j + 1, m :: M' ++ [w]) ?_ ⟨by (try dsimp only); omega, by rw [hks]; simp; omega, by simp⟩ (by (try dsimp only); omega)
   refine les_of ?_ ?_ rfl
   iterate 2 (focus repeat' (first | exact trivial | refine And.intro ?_ ?_ | exact levA | refine lev_cons ?_ ?_ | refine LeV.agg rfl ?_ | exact Nat.le_of_ble_eq_true rfl | exact Or.inl ⟨_, rfl, .row rfl⟩ | refine Or.inl ⟨_, rfl, .row ?_⟩ | refine Or.inl ⟨_, rfl, .lit rfl ?_⟩ | exact Or.inr ⟨rfl, rfl⟩ | (first | exact .clo rfl (lev_cons (.rptr _) lev_nil) | exact .int (by (try dsimp only); rw [hks]) | exact .int (by (try dsimp only); exact arA) | (show keep p (l.take j) ++ (m :: M' ++ l.drop j) = keep p (l.take (j + 1)) ++ ((m :: M' ++ [w]) ++ l.drop (j + 1)); rw [hks, hdj]; simp))))
  ·rw [if_neg (by rw [h]; simp)] at hks
   refine Sat.next (j + 1, M' ++ [w]) ?_ ⟨by (try dsimp only); omega, by rw [hks]; simp; omega, by simp⟩ (by (try dsimp only); omega)
   refine les_of ?_ ?_ rfl
   iterate 2 (focus repeat' (first | exact trivial | refine And.intro ?_ ?_ | exact levA | refine lev_cons ?_ ?_ | refine LeV.agg rfl ?_ | exact Nat.le_of_ble_eq_true rfl | exact Or.inl ⟨_, rfl, .row rfl⟩ | refine Or.inl ⟨_, rfl, .row ?_⟩ | refine Or.inl ⟨_, rfl, .lit rfl ?_⟩ | exact Or.inr ⟨rfl, rfl⟩ | (first | exact .clo rfl (lev_cons (.rptr _) lev_nil) | exact .int (by (try dsimp only); rw [hks]; simp; done) | exact .int (by (try dsimp only); exact arA) | (show setAt (keep p (l.take j) ++ (m :: M' ++ l.drop j)) _ w = keep p (l.take (j + 1)) ++ ((M' ++ [w]) ++ l.drop (j + 1)); rw [List.cons_append, set_at (by (try dsimp only); exact arA), hks, hdj]; simp))))
 ·have hjl : j = l.length := by exact arA
  subst hjl
  rw [List.take_length] at hj2
  repeat' first
   | (refine Sat.pop ?_; conv=>arg 4;cbv)
   | (refine Sat.need (by (try dsimp only); simp only [ncast, List.take_length, List.length_append, List.length_cons, List.length_nil, List.length_drop] at *; omega) ?_; conv=>arg 4;cbv)
   | (refine Sat.need (fun _ _ _ _ => rfl) ?_; conv=>arg 4;cbv)
   | (refine Sat.typed (0 : Int) tcA ?_; conv=>arg 4;cbv)
   | refine Sat.done ?_
  refine .tup rfl (led_cons (.clo rfl (led_cons (.int ?_) (led_cons (.int ?_) led_nil))) (led_cons (.sl ?_) led_nil))
  ·rfl
  ·(try dsimp only); rw [List.take_length]; exact arA
  ·(try dsimp only)
   simp only [ncast, List.take_length, List.drop_length, Int.toNat_natCast, Nat.zero_add]
   rw [List.take_left, List.drop_eq_nil_of_le (by simp; omega), List.append_nil]
   rfl
def okSrv (p : Int) : List Int → Bool
 | [] => true
 | x :: r => decide (0 ≤ x ∧ x ≤ 4) && decide (p < x) && okSrv x r
def areServers (l : List Int) : Bool := okSrv (-1) l
def prevS (l : List Int) : Nat → Int
 | 0 => -1
 | i + 1 => match l[i]? with | some e => e | none => 0
theorem prevS_get {l : List Int} {i : Nat} {e : Int} (h : l[i]? = some e) : prevS l (i + 1) = e := by simp [prevS, h]
theorem okSrv_step {l : List Int} {i : Nat} {e : Int} {b : Bool} (hb : b = okSrv (prevS l i) (l.drop i)) (h : l[i]? = some e) (h1 : 0 ≤ e ∧ e ≤ 4) (h3 : prevS l i < e) : b = okSrv (prevS l (i + 1)) (l.drop (i + 1)) := by
 rw [hb, drop_get h, okSrv, prevS_get h, decide_eq_true h1, decide_eq_true h3]
 simp
theorem okSrv_bad {l : List Int} {i : Nat} {e : Int} {b : Bool} (hb : b = okSrv (prevS l i) (l.drop i)) (h : l[i]? = some e) (hn : ¬ ((0 ≤ e ∧ e ≤ 4) ∧ prevS l i < e)) : b = false := by
 rw [hb, drop_get h, okSrv]
 by_cases h1 : 0 ≤ e ∧ e ≤ 4
 ·by_cases h3 : prevS l i < e
  ·exact absurd ⟨h1, h3⟩ hn
  ·rw [decide_eq_false h3]; simp
 ·rw [decide_eq_false h1]; simp
theorem okSrv_end {l : List Int} {i : Nat} {b : Bool} (hb : b = okSrv (prevS l i) (l.drop i)) (h : i = l.length) : b = true := by
 rw [hb, h, List.drop_length, okSrv]
theorem prevS_zero {l : List Int} {i : Nat} (h : i = 0) : prevS l i = -1 := by subst h; rfl
theorem prevS_pos {l : List Int} {i j : Nat} {e : Int} (h : l[j]? = some e) (hj : i = j + 1) : prevS l i = e := by subst hj; exact prevS_get h
theorem okSrv_spec : ∀ {l : List Int} {p : Int}, okSrv p l = true → p ≤ 4 → ((l.length : Int) ≤ 4 - p) ∧ (∀ x ∈ l, 0 ≤ x ∧ x ≤ 4 ∧ p < x) ∧ SAsc l
 | [], p, _, hp => ⟨by simp; omega, by simp, List.Pairwise.nil⟩
 | x :: r, p, h, hp => by
   simp only [okSrv, Bool.and_eq_true, decide_eq_true_eq] at h
   obtain ⟨h1, h2, h3⟩ := okSrv_spec h.2 h.1.1.2
   refine ⟨by simp only [List.length_cons]; omega, fun y hy => ?_, List.pairwise_cons.2 ⟨fun y hy => (h2 y hy).2.2, h3⟩⟩
   rcases List.mem_cons.1 hy with rfl | hy
   ·exact ⟨h.1.1.1, h.1.1.2, h.1.2⟩
   ·have := h2 y hy; omega
theorem areServers_len {l : List Int} (h : areServers l = true) : l.length ≤ 5 := by have := (okSrv_spec h (by omega)).1; omega
theorem areServers_rng {l : List Int} (h : areServers l = true) : ∀ x ∈ l, 0 ≤ x ∧ x ≤ 4 := fun x hx => by have := (okSrv_spec h (by omega)).2.1 x hx; omega
theorem areServers_sasc {l : List Int} (h : areServers l = true) : SAsc l := (okSrv_spec h (by omega)).2.2
theorem w_spec_AreServers (l : List Int) (hb : bIntS l) : Fn Pr n_spec_AreServers [.sl 1 (encI .i64) (fun _ => l)] (.bo (areServers l)) := by
 refine k_spec_AreServers.fn (by kernel_rfl) ?_
 have h0 : l.length * 8 ≤ 140737488351232 := hb
 conv=>arg 4;cbv
 refine Sat.loopP (ι := Nat) (fun i => [(3, .int .i64 (fun _ => (i : Int)))]) (fun i => []) (fun i => i ≤ l.length ∧ okSrv (-1) l = okSrv (prevS l i) (l.drop i)) (fun i => l.length - i) 0 ?_ ⟨by omega, by simp [prevS]⟩ (fun i hi => ?_)
 ·exact lesA
 conv=>arg 4;cbv
 repeat' first
  | (refine Sat.cmp (fun h => ?_) (fun h => ?_) <;> simp only [Cmp.holds] at h <;> (conv=>arg 4;cbv))
  | (refine Sat.need ndA ?_; conv=>arg 4;cbv)
  | (refine Sat.idxk (by assumption) ?_; conv=>arg 4;cbv) | (refine Sat.idx ndA (fun v_ hv_ => ?_); conv=>arg 4;cbv)
  | (refine Sat.callb (w_spec_l1In _ _ _) rfl ledA (fun h => ?_) (fun h => ?_) <;> (try simp only [decide_eq_true_eq, decide_eq_false_iff_not] at h) <;> (conv=>arg 4;cbv))
  | (refine Sat.ari64 ndA ndA ?_; conv=>arg 4;cbv)
  | (refine Sat.pop ?_; conv=>arg 4;cbv)
  | refine Sat.next (i + 1) ?_ ?_ (by (try dsimp only); exact arA)
  | refine Sat.done ?_
 ·refine led_bo ?_
  rw [areServers, okSrv_bad (i := i) hi.2 (by assumption) (fun q => by have := prevS_pos (l := l) (i := i) hv_ (by exact arA); omega)]
 ·exact lesA
 ·have := prevS_pos (l := l) (i := i) hv_ (by exact arA)
  exact ⟨by exact arA, okSrv_step hi.2 (by assumption) (by assumption) (by omega)⟩
 ·exact lesA
 ·have := prevS_zero (l := l) (i := i) (by exact arA)
  exact ⟨by exact arA, okSrv_step hi.2 (by assumption) (by assumption) (by omega)⟩
 ·refine led_bo ?_
  rw [areServers, okSrv_bad (i := i) hi.2 (by assumption) (fun q => h q.1)]
 ·refine led_bo ?_
  rw [areServers, okSrv_end hi.2 (by exact arA)]
theorem w_impl_AreServers (l : List Int) (hb : bIntS l) : Fn Pr n_impl_AreServers [.sl 1 (encI .i64) (fun _ => l)] (.bo (areServers l)) := by
 refine k_impl_AreServers.fn (by kernel_rfl) ?_
 have h0 : l.length * 8 ≤ 140737488351232 := hb
 conv=>arg 4;cbv
 refine Sat.loopP (ι := Nat) (fun i => [(7, .int .i64 (fun _ => (i : Int)))]) (fun i => []) (fun i => i ≤ l.length ∧ okSrv (-1) l = okSrv (prevS l i) (l.drop i)) (fun i => l.length - i) 0 ?_ ⟨by omega, by simp [prevS]⟩ (fun i hi => ?_)
 ·exact lesA
 conv=>arg 4;cbv
 repeat' first
  | (refine Sat.cmp (fun h => ?_) (fun h => ?_) <;> simp only [Cmp.holds] at h <;> (conv=>arg 4;cbv))
  | (refine Sat.need ndA ?_; conv=>arg 4;cbv)
  | (refine Sat.idxk (by assumption) ?_; conv=>arg 4;cbv) | (refine Sat.idx ndA (fun v_ hv_ => ?_); conv=>arg 4;cbv)
  | (refine Sat.callb (w_impl_within _ _ _) rfl ledA (fun h => ?_) (fun h => ?_) <;> (try simp only [decide_eq_true_eq, decide_eq_false_iff_not] at h) <;> (conv=>arg 4;cbv))
  | (refine Sat.ari64 ndA ndA ?_; conv=>arg 4;cbv)
  | (refine Sat.pop ?_; conv=>arg 4;cbv)
  | refine Sat.next (i + 1) ?_ ?_ (by (try dsimp only); exact arA)
  | refine Sat.done ?_
 ·refine led_bo ?_
  rw [areServers, okSrv_bad (i := i) hi.2 (by assumption) (fun q => by have := prevS_pos (l := l) (i := i) hv_ (by exact arA); omega)]
 ·exact lesA
 ·have := prevS_pos (l := l) (i := i) hv_ (by exact arA)
  exact ⟨by exact arA, okSrv_step hi.2 (by assumption) (by assumption) (by omega)⟩
 ·exact lesA
 ·have := prevS_zero (l := l) (i := i) (by exact arA)
  exact ⟨by exact arA, okSrv_step hi.2 (by assumption) (by assumption) (by omega)⟩
 ·refine led_bo ?_
  rw [areServers, okSrv_bad (i := i) hi.2 (by assumption) (fun q => h q.1)]
 ·refine led_bo ?_
  rw [areServers, okSrv_end hi.2 (by exact arA)]
def put (x : Int) : List Int → List Int
 | [] => [x]
 | y :: r => if x < y then x :: y :: r else if x = y then y :: r else y :: put x r
theorem put_mem {x y : Int} : ∀ {l : List Int}, y ∈ put x l ↔ y = x ∨ y ∈ l
 | [] => by simp [put]
 | z :: r => by
   rw [put]
   split
   ·simp
   ·split
    ·rename_i e; subst e; simp
    ·rw [List.mem_cons, put_mem (l := r), List.mem_cons]
     constructor
     ·rintro (h | h | h)
      ·exact .inr (.inl h)
      ·exact .inl h
      ·exact .inr (.inr h)
     ·rintro (h | h | h)
      ·exact .inr (.inl h)
      ·exact .inl h
      ·exact .inr (.inr h)
theorem put_sasc {x : Int} : ∀ {l : List Int}, SAsc l → SAsc (put x l)
 | [], _ => by simp [put, SAsc]
 | y :: r, h => by
   obtain ⟨h1, h2⟩ := List.pairwise_cons.1 h
   rw [put]
   split
   ·rename_i hlt
    refine List.pairwise_cons.2 ⟨fun z hz => ?_, h⟩
    rcases List.mem_cons.1 hz with rfl | hz
    ·exact hlt
    ·have := h1 z hz; omega
   ·split
    ·exact h
    ·refine List.pairwise_cons.2 ⟨fun z hz => ?_, put_sasc h2⟩
     rcases put_mem.1 hz with rfl | hz
     ·omega
     ·exact h1 z hz
theorem put_asc {l : List Int} {x : Int} : put x (asc l) = asc (l ++ [x]) := sasc_eq (put_sasc (asc_strict l)) (asc_strict _) (fun y => by rw [put_mem, asc_mem, asc_mem, List.mem_append, List.mem_singleton]; exact Or.comm)
theorem put_at {x : Int} : ∀ {p q : List Int}, (∀ y ∈ p, y < x) → (∀ y, q.head? = some y → x < y) → put x (p ++ q) = p ++ x :: q
 | [], [], _, _ => rfl
 | [], y :: q, _, h => by rw [List.nil_append, put, if_pos (h y rfl), List.nil_append]
 | z :: p, q, h1, h2 => by
   have := h1 z (List.mem_cons_self ..)
   rw [List.cons_append, put, if_neg (by omega), if_neg (by omega), put_at (fun y hy => h1 y (List.mem_cons_of_mem _ hy)) h2, List.cons_append]
theorem put_same {x : Int} : ∀ {p q : List Int}, (∀ y ∈ p, y < x) → put x (p ++ x :: q) = p ++ x :: q
 | [], q, _ => by rw [List.nil_append, put, if_neg (by omega), if_pos rfl]
 | z :: p, q, h1 => by
   have := h1 z (List.mem_cons_self ..)
   rw [List.cons_append, put, if_neg (by omega), if_neg (by omega), put_same (fun y hy => h1 y (List.mem_cons_of_mem _ hy))]
theorem put_len {x : Int} : ∀ {l : List Int}, (put x l).length ≤ l.length + 1
 | [] => by simp [put]
 | y :: r => by
   have := put_len (x := x) (l := r)
   rw [put]
   split
   ·simp
   ·split
    ·simp
    ·simp; omega
theorem w_spec_l2Put (l : List Int) (x : Int) (hb : l.length ≤ 2000000) : Fn Pr n_spec_l2Put [.sl 1 (encI .i64) (fun _ => l), .int .i64 (fun _ => x)] (.sl 1 (encI .i64) (fun _ => put x l)) := by
 refine k_spec_l2Put.fn (by kernel_rfl) ?_
 conv=>arg 4;cbv
 refine Sat.loopP (ι := Nat) (fun i => [(5, .int .i64 (fun _ => (i : Int)))]) (fun i => []) (fun i => i ≤ l.length ∧ ∀ y ∈ l.take i, y < x) (fun i => l.length - i) 0 ?_ ⟨by omega, by simp⟩ (fun i hi => ?_)
 ·exact lesA
 have hdr : (l.drop i).head? = l[i]? := by simp
 have htd := List.take_append_drop i l
 have hins : (∀ y, l[i]? = some y → x < y) → put x l = l.take i ++ x :: l.drop i := fun h => by
  have := put_at (x := x) (p := l.take i) (q := l.drop i) hi.2 (fun y hy => h y (by rw [← hdr]; exact hy))
  rwa [htd] at this
 have hsame : l[i]? = some x → put x l = l := fun h => by
  have := put_same (x := x) (p := l.take i) (q := l.drop (i + 1)) hi.2
  rwa [← drop_get h, htd] at this
 conv=>arg 4;cbv
 repeat' first
  | (refine Sat.cmp (fun h => ?_) (fun h => ?_) <;> simp only [Cmp.holds] at h <;> (conv=>arg 4;cbv))
  | (refine Sat.need ⟨fun y _ => flat_encI .i64 y, by (try dsimp only); exact arA⟩ ?_; conv=>arg 4;cbv)
  | (refine Sat.need ⟨rfl, rfl, rfl, by (try dsimp only); exact arA⟩ ?_; conv=>arg 4;cbv)
  | (refine Sat.need ⟨rfl, fun y _ => flat_encI .i64 y, by (try dsimp only); exact arA⟩ ?_; conv=>arg 4;cbv)
  | (refine Sat.need ndA ?_; conv=>arg 4;cbv)
  | (refine Sat.idxk (by assumption) ?_; conv=>arg 4;cbv) | (refine Sat.idx ndA (fun v_ hv_ => ?_); conv=>arg 4;cbv)
  | (refine Sat.typed x tcA ?_; conv=>arg 4;cbv)
  | (refine Sat.same ?_; conv=>arg 4;cbv)
  | (refine Sat.ari64 ndA ndA ?_; conv=>arg 4;cbv)
  | (refine Sat.pop ?_; conv=>arg 4;cbv)
  | refine Sat.next (i + 1) ?_ ?_ (by (try dsimp only); exact arA)
  | refine Sat.done ?_
 ·exact lesA
 ·refine ⟨by exact arA, fun y hy => ?_⟩
  rw [List.take_add_one, show l[i]? = some v_ from hv_] at hy
  simp only [Option.toList_some, List.mem_append, List.mem_singleton] at hy
  rcases hy with hy | rfl
  ·exact hi.2 y hy
  ·exact h
 ·refine .sl ?_
  rw [hsame (by subst h; exact hv_)]; simp
 ·refine .sl ?_
  rw [hins (fun y hy => by rw [show l[i]? = some v_ from hv_] at hy; cases hy; omega)]
  simp only [List.drop_zero]
  rw [List.take_of_length_le (by simp; omega)]; simp
 all_goals first
  | (exfalso; exact arA)
  | (refine .sl ?_
     rw [hins (fun y hy => by have := lt_of_get hy; exfalso; exact arA)]
     simp only [List.drop_zero]
     rw [List.take_of_length_le (by simp; omega)]; simp; done)
def without (a b : List Int) : List Int := asc (a.filter (fun x => !decide (x ∈ b)))
def common (a b : List Int) : List Int := asc (a.filter (fun x => decide (x ∈ b)))
def unite (a b : List Int) : List Int := asc (a ++ b)
theorem without_len {a b : List Int} : (without a b).length ≤ a.length := Nat.le_trans (asc_len _) (List.length_filter_le _ _)
theorem common_len {a b : List Int} : (common a b).length ≤ a.length := Nat.le_trans (asc_len _) (List.length_filter_le _ _)
theorem unite_len {a b : List Int} : (unite a b).length ≤ a.length + b.length := by have := asc_len (a ++ b); simpa [unite] using this
theorem without_mem {a b : List Int} {x : Int} : x ∈ without a b ↔ x ∈ a ∧ x ∉ b := by simp [without, asc_mem]
theorem common_mem {a b : List Int} {x : Int} : x ∈ common a b ↔ x ∈ a ∧ x ∈ b := by simp [common, asc_mem]
theorem unite_mem {a b : List Int} {x : Int} : x ∈ unite a b ↔ x ∈ a ∨ x ∈ b := by simp [unite, asc_mem]
theorem filter_sasc {p : Int → Bool} {l : List Int} (h : SAsc l) : SAsc (l.filter p) := List.Pairwise.filter p h
set_option maxHeartbeats 1000000 in
theorem w_spec_WithoutServers (a b : List Int) (ha : a.length ≤ 2000000) (hb : bIntS b) : Fn Pr n_spec_WithoutServers [.sl 1 (encI .i64) (fun _ => a), .sl 1 (encI .i64) (fun _ => b)] (.sl 1 (encI .i64) (fun _ => without a b)) := by
 refine k_spec_WithoutServers.fn (by kernel_rfl) ?_
 have hla : ∀ i, (asc ((a.take i).filter (fun x => !decide (x ∈ b)))).length ≤ a.length := fun i => Nat.le_trans (asc_len _) (Nat.le_trans (List.length_filter_le _ _) (by simp; omega))
 conv=>arg 4;cbv
 refine Sat.loopP (ι := Nat) (fun i => [(6, .int .i64 (fun _ => (i : Int))), (5, .ref 64 (fun _ => 0) (fun _ => (asc ((a.take i).filter (fun x => !decide (x ∈ b)))).length))]) (fun i => [(64, .row 1 (encI .i64) (fun _ => asc ((a.take i).filter (fun x => !decide (x ∈ b)))) false)]) (fun i => i ≤ a.length) (fun i => a.length - i) 0 ?_ (by omega) (fun i hi => ?_)
 ·refine les_of ?_ ?_ rfl
  iterate 2 (focus repeat' (first | exact trivial | refine And.intro ?_ ?_ | exact levA | refine lev_cons ?_ ?_ | refine LeV.agg rfl ?_ | exact Nat.le_of_ble_eq_true rfl | exact Or.inl ⟨_, rfl, .row rfl⟩ | refine Or.inl ⟨_, rfl, .row ?_⟩ | refine Or.inl ⟨_, rfl, .lit rfl ?_⟩ | exact Or.inr ⟨rfl, rfl⟩ | (first | exact .empref (fun h => nomatch h) rfl rfl rfl | rfl)))
 have hl := hla i
 conv=>arg 4;cbv
 repeat' first
  | (refine Sat.cmp (fun h => ?_) (fun h => ?_) <;> simp only [Cmp.holds] at h <;> (conv=>arg 4;cbv))
  | (refine Sat.need ndA ?_; conv=>arg 4;cbv)
  | (refine Sat.idxk (by assumption) ?_; conv=>arg 4;cbv) | (refine Sat.idx ndA (fun v_ hv_ => ?_); conv=>arg 4;cbv)
  | (refine Sat.callb (w_spec_HasServer b _ hb) rfl ledA (fun h => ?_) (fun h => ?_) <;> (try simp only [decide_eq_true_eq, decide_eq_false_iff_not] at h) <;> (conv=>arg 4;cbv))
  | (refine Sat.call (w_spec_l2Put (asc ((a.take i).filter (fun x => !decide (x ∈ b)))) _ (by omega)) rfl ledA ?_; conv=>arg 4;cbv)
  | (refine Sat.ari64 ndA ndA ?_; conv=>arg 4;cbv)
  | (refine Sat.pop ?_; conv=>arg 4;cbv)
  | refine Sat.done ?_
 ·have hs : asc ((a.take (i + 1)).filter (fun x => !decide (x ∈ b))) = asc ((a.take i).filter (fun x => !decide (x ∈ b))) := by rw [List.take_add_one, show a[i]? = some v_ from hv_]; simp [h]
  refine Sat.next (i + 1) ?_ (by exact arA) (by exact arA)
  refine les_of ?_ ?_ rfl
  iterate 2 (focus repeat' (first | exact trivial | refine And.intro ?_ ?_ | exact levA | refine lev_cons ?_ ?_ | refine LeV.agg rfl ?_ | exact Nat.le_of_ble_eq_true rfl | exact Or.inl ⟨_, rfl, .row rfl⟩ | refine Or.inl ⟨_, rfl, .row ?_⟩ | refine Or.inl ⟨_, rfl, .lit rfl ?_⟩ | exact Or.inr ⟨rfl, rfl⟩ | (first | exact .ref (fun h => nomatch h) (fun h => nomatch h) rfl (by (try dsimp only); rw [hs]) | (show asc ((a.take i).filter (fun x => !decide (x ∈ b))) = asc ((a.take (i + 1)).filter (fun x => !decide (x ∈ b))); rw [hs]))))
 ·have hs : asc ((a.take (i + 1)).filter (fun x => !decide (x ∈ b))) = put v_ (asc ((a.take i).filter (fun x => !decide (x ∈ b)))) := by rw [put_asc, List.take_add_one, show a[i]? = some v_ from hv_]; simp [h]
  refine Sat.nextR 321 64 (i + 1) rfl rfl rfl rfl ?_ (by exact arA) (by exact arA)
  refine les_of ?_ ?_ rfl
  iterate 2 (focus repeat' (first | exact trivial | refine And.intro ?_ ?_ | exact levA | refine lev_cons ?_ ?_ | refine LeV.agg rfl ?_ | exact Nat.le_of_ble_eq_true rfl | exact Or.inl ⟨_, rfl, .row rfl⟩ | refine Or.inl ⟨_, rfl, .row ?_⟩ | refine Or.inl ⟨_, rfl, .lit rfl ?_⟩ | exact Or.inr ⟨rfl, rfl⟩ | (first | exact .ref (fun h => nomatch h) (fun h => nomatch h) rfl (by (try dsimp only); rw [hs]) | (show put v_ (asc ((a.take i).filter (fun x => !decide (x ∈ b)))) = asc ((a.take (i + 1)).filter (fun x => !decide (x ∈ b))); rw [hs]))))
 ·refine .sl ?_
  have e : i = a.length := by exact arA
  subst e
  simp [without]
set_option maxHeartbeats 1000000 in
theorem w_spec_CommonServers (a b : List Int) (ha : a.length ≤ 2000000) (hb : bIntS b) : Fn Pr n_spec_CommonServers [.sl 1 (encI .i64) (fun _ => a), .sl 1 (encI .i64) (fun _ => b)] (.sl 1 (encI .i64) (fun _ => common a b)) := by
 refine k_spec_CommonServers.fn (by kernel_rfl) ?_
 have hla : ∀ i, (asc ((a.take i).filter (fun x => decide (x ∈ b)))).length ≤ a.length := fun i => Nat.le_trans (asc_len _) (Nat.le_trans (List.length_filter_le _ _) (by simp; omega))
 conv=>arg 4;cbv
 refine Sat.loopP (ι := Nat) (fun i => [(6, .int .i64 (fun _ => (i : Int))), (5, .ref 64 (fun _ => 0) (fun _ => (asc ((a.take i).filter (fun x => decide (x ∈ b)))).length))]) (fun i => [(64, .row 1 (encI .i64) (fun _ => asc ((a.take i).filter (fun x => decide (x ∈ b)))) false)]) (fun i => i ≤ a.length) (fun i => a.length - i) 0 ?_ (by omega) (fun i hi => ?_)
 ·refine les_of ?_ ?_ rfl
  iterate 2 (focus repeat' (first | exact trivial | refine And.intro ?_ ?_ | exact levA | refine lev_cons ?_ ?_ | refine LeV.agg rfl ?_ | exact Nat.le_of_ble_eq_true rfl | exact Or.inl ⟨_, rfl, .row rfl⟩ | refine Or.inl ⟨_, rfl, .row ?_⟩ | refine Or.inl ⟨_, rfl, .lit rfl ?_⟩ | exact Or.inr ⟨rfl, rfl⟩ | (first | exact .empref (fun h => nomatch h) rfl rfl rfl | rfl)))
 have hl := hla i
 conv=>arg 4;cbv
 repeat' first
  | (refine Sat.cmp (fun h => ?_) (fun h => ?_) <;> simp only [Cmp.holds] at h <;> (conv=>arg 4;cbv))
  | (refine Sat.need ndA ?_; conv=>arg 4;cbv)
  | (refine Sat.idxk (by assumption) ?_; conv=>arg 4;cbv) | (refine Sat.idx ndA (fun v_ hv_ => ?_); conv=>arg 4;cbv)
  | (refine Sat.callb (w_spec_HasServer b _ hb) rfl ledA (fun h => ?_) (fun h => ?_) <;> (try simp only [decide_eq_true_eq, decide_eq_false_iff_not] at h) <;> (conv=>arg 4;cbv))
  | (refine Sat.call (w_spec_l2Put (asc ((a.take i).filter (fun x => decide (x ∈ b)))) _ (by omega)) rfl ledA ?_; conv=>arg 4;cbv)
  | (refine Sat.ari64 ndA ndA ?_; conv=>arg 4;cbv)
  | (refine Sat.pop ?_; conv=>arg 4;cbv)
  | refine Sat.done ?_
 ·have hs : asc ((a.take (i + 1)).filter (fun x => decide (x ∈ b))) = put v_ (asc ((a.take i).filter (fun x => decide (x ∈ b)))) := by rw [put_asc, List.take_add_one, show a[i]? = some v_ from hv_]; simp [h]
  refine Sat.nextR 305 64 (i + 1) rfl rfl rfl rfl ?_ (by exact arA) (by exact arA)
  refine les_of ?_ ?_ rfl
  iterate 2 (focus repeat' (first | exact trivial | refine And.intro ?_ ?_ | exact levA | refine lev_cons ?_ ?_ | refine LeV.agg rfl ?_ | exact Nat.le_of_ble_eq_true rfl | exact Or.inl ⟨_, rfl, .row rfl⟩ | refine Or.inl ⟨_, rfl, .row ?_⟩ | refine Or.inl ⟨_, rfl, .lit rfl ?_⟩ | exact Or.inr ⟨rfl, rfl⟩ | (first | exact .ref (fun h => nomatch h) (fun h => nomatch h) rfl (by (try dsimp only); rw [hs]) | (show put v_ (asc ((a.take i).filter (fun x => decide (x ∈ b)))) = asc ((a.take (i + 1)).filter (fun x => decide (x ∈ b))); rw [hs]))))
 ·have hs : asc ((a.take (i + 1)).filter (fun x => decide (x ∈ b))) = asc ((a.take i).filter (fun x => decide (x ∈ b))) := by rw [List.take_add_one, show a[i]? = some v_ from hv_]; simp [h]
  refine Sat.next (i + 1) ?_ (by exact arA) (by exact arA)
  refine les_of ?_ ?_ rfl
  iterate 2 (focus repeat' (first | exact trivial | refine And.intro ?_ ?_ | exact levA | refine lev_cons ?_ ?_ | refine LeV.agg rfl ?_ | exact Nat.le_of_ble_eq_true rfl | exact Or.inl ⟨_, rfl, .row rfl⟩ | refine Or.inl ⟨_, rfl, .row ?_⟩ | refine Or.inl ⟨_, rfl, .lit rfl ?_⟩ | exact Or.inr ⟨rfl, rfl⟩ | (first | exact .ref (fun h => nomatch h) (fun h => nomatch h) rfl (by (try dsimp only); rw [hs]) | (show asc ((a.take i).filter (fun x => decide (x ∈ b))) = asc ((a.take (i + 1)).filter (fun x => decide (x ∈ b))); rw [hs]))))
 ·refine .sl ?_
  have e : i = a.length := by exact arA
  subst e
  simp [common]
theorem keep_asc {a b : List Int} : keep (fun x => decide (x ∈ b)) (asc a) = without a b := sasc_eq (filter_sasc (asc_strict a)) (asc_strict _) (fun y => by simp [keep, without, asc_mem])
theorem common_without {a b : List Int} : without a (without a b) = common a b := asc_eq (fun y => by
 by_cases h1 : y ∈ a <;> by_cases h2 : y ∈ b <;> simp [List.mem_filter, without_mem, h1, h2])
theorem w_impl_WithoutServers_c1 (b : List Int) (hb : bIntS b) (x : Int) : Fn Pr n_impl_WithoutServers_c1 [.int .i64 (fun _ => x), .rptr [.sl 1 (encI .i64) (fun _ => b)]] (.bo (decide (x ∈ b))) := by
 refine k_impl_WithoutServers_c1.fn (by kernel_rfl) ?_
 conv=>arg 4;cbv
 repeat' first
  | (refine Sat.cmp (fun h => ?_) (fun h => ?_) <;> simp only [Cmp.holds] at h <;> (conv=>arg 4;cbv))
  | (refine Sat.callb (w_impl_HasServer b x hb) rfl ledA (fun h => ?_) (fun h => ?_) <;> (try simp only [decide_eq_true_eq, decide_eq_false_iff_not] at h) <;> (conv=>arg 4;cbv))
  | (refine Sat.need ndA ?_; conv=>arg 4;cbv)
  | (refine Sat.idxk (by assumption) ?_; conv=>arg 4;cbv) | (refine Sat.idx ndA (fun v_ hv_ => ?_); conv=>arg 4;cbv)
  | (refine Sat.ari64 ndA ndA ?_; conv=>arg 4;cbv)
  | (refine Sat.pop ?_; conv=>arg 4;cbv)
  | refine Sat.done ?_
 all_goals refine led_bo ?_
 all_goals simp_all
theorem w_impl_WithoutServers (a b : List Int) (ha : a.length ≤ 12) (hb : bIntS b) : Fn Pr n_impl_WithoutServers [.sl 1 (encI .i64) (fun _ => a), .sl 1 (encI .i64) (fun _ => b)] (.sl 1 (encI .i64) (fun _ => without a b)) := by
 have hl := asc_len a
 refine k_impl_WithoutServers.fn (by kernel_rfl) ?_
 conv=>arg 4;cbv
 repeat' first
  | (refine Sat.cmp (fun h => ?_) (fun h => ?_) <;> simp only [Cmp.holds] at h <;> (conv=>arg 4;cbv))
  | (refine Sat.call (w_impl_ascending a ha) rfl ledA ?_; conv=>arg 4;cbv)
  | (refine Sat.callm (w_slices_DeleteFunc_intint (asc a) b n_impl_WithoutServers_c1 (fun x => decide (x ∈ b)) (w_impl_WithoutServers_c1 b hb) (by omega)) rfl ledA rfl ledA ?_; conv=>arg 4;cbv)
  | (refine Sat.need ndA ?_; conv=>arg 4;cbv)
  | (refine Sat.need (by (repeat' (first | exact trivial | refine And.intro ?_ ?_ | rfl | (dsimp only; simp [genL_length]; done))); (first | done | fail)) ?_; conv=>arg 4;cbv)
  | (refine Sat.idxk (by assumption) ?_; conv=>arg 4;cbv) | (refine Sat.idx ndA (fun v_ hv_ => ?_); conv=>arg 4;cbv)
  | (refine Sat.ari64 ndA ndA ?_; conv=>arg 4;cbv)
  | (refine Sat.pop ?_; conv=>arg 4;cbv)
  | refine Sat.done ?_
 all_goals refine .sl ?_
 all_goals simp [keepZ, keep_asc]
theorem w_impl_CommonServers (a b : List Int) (ha : a.length ≤ 12) (hb : bIntS b) : Fn Pr n_impl_CommonServers [.sl 1 (encI .i64) (fun _ => a), .sl 1 (encI .i64) (fun _ => b)] (.sl 1 (encI .i64) (fun _ => common a b)) := by
 have hw : bIntS (without a b) := by have := without_len (a := a) (b := b); show (without a b).length * 8 ≤ _; omega
 refine k_impl_CommonServers.fn (by kernel_rfl) ?_
 conv=>arg 4;cbv
 repeat' first
  | (refine Sat.cmp (fun h => ?_) (fun h => ?_) <;> simp only [Cmp.holds] at h <;> (conv=>arg 4;cbv))
  | (refine Sat.call (w_impl_WithoutServers a b ha hb) rfl ledA ?_; conv=>arg 4;cbv)
  | (refine Sat.call (w_impl_WithoutServers a (without a b) ha hw) rfl ledA ?_; conv=>arg 4;cbv)
  | (refine Sat.need ndA ?_; conv=>arg 4;cbv)
  | (refine Sat.idxk (by assumption) ?_; conv=>arg 4;cbv) | (refine Sat.idx ndA (fun v_ hv_ => ?_); conv=>arg 4;cbv)
  | (refine Sat.ari64 ndA ndA ?_; conv=>arg 4;cbv)
  | (refine Sat.pop ?_; conv=>arg 4;cbv)
  | refine Sat.done ?_
 all_goals refine .sl ?_
 all_goals simp [common_without]
def validC (c : GConfig) : Bool := decide (1 ≤ c.Epoch ∧ c.Epoch ≤ 20) && areServers c.Replicas && areServers c.Witnesses && decide (c.Primary ∈ c.Replicas) && decide (((common c.Replicas c.Witnesses).length : Int) = 0)
theorem validC_spec {c : GConfig} (h : validC c = true) : (1 ≤ c.Epoch ∧ c.Epoch ≤ 20) ∧ areServers c.Replicas = true ∧ areServers c.Witnesses = true ∧ c.Primary ∈ c.Replicas ∧ ∀ x ∈ c.Replicas, x ∉ c.Witnesses := by
 simp only [validC, Bool.and_eq_true, decide_eq_true_eq] at h
 obtain ⟨⟨⟨⟨h1, h2⟩, h3⟩, h4⟩, h5⟩ := h
 refine ⟨h1, h2, h3, h4, fun x hx hw => ?_⟩
 have e : common c.Replicas c.Witnesses = [] := List.eq_nil_of_length_eq_zero (by omega)
 have := common_mem.2 ⟨hx, hw⟩
 rw [e] at this
 cases this
theorem w_impl_IsValidConfig (c : GConfig) (hb : bConfig c) : Fn Pr n_impl_IsValidConfig [aGConfig c] (.bo (validC c)) := by
 refine k_impl_IsValidConfig.fn (by kernel_rfl) ?_
 conv=>arg 4;cbv
 repeat' first
  | (refine Sat.cmp (fun h => ?_) (fun h => ?_) <;> simp only [Cmp.holds] at h <;> (conv=>arg 4;cbv))
  | (refine Sat.callb (w_impl_within _ _ _) rfl ledA (fun h => ?_) (fun h => ?_) <;> (try simp only [decide_eq_true_eq, decide_eq_false_iff_not] at h) <;> (conv=>arg 4;cbv))
  | (refine Sat.callb (w_impl_AreServers c.Replicas hb.1) rfl ledA (fun h => ?_) (fun h => ?_) <;> (try simp only [decide_eq_true_eq, decide_eq_false_iff_not] at h) <;> (conv=>arg 4;cbv))
  | (refine Sat.callb (w_impl_AreServers c.Witnesses hb.2) rfl ledA (fun h => ?_) (fun h => ?_) <;> (try simp only [decide_eq_true_eq, decide_eq_false_iff_not] at h) <;> (conv=>arg 4;cbv))
  | (refine Sat.callb (w_impl_HasServer c.Replicas _ hb.1) rfl ledA (fun h => ?_) (fun h => ?_) <;> (try simp only [decide_eq_true_eq, decide_eq_false_iff_not] at h) <;> (conv=>arg 4;cbv))
  | (refine Sat.call (w_impl_CommonServers c.Replicas c.Witnesses (by have := areServers_len (l := c.Replicas) (by assumption); omega) hb.2) rfl ledA ?_; conv=>arg 4;cbv)
  | (refine Sat.need ndA ?_; conv=>arg 4;cbv)
  | (refine Sat.idxk (by assumption) ?_; conv=>arg 4;cbv) | (refine Sat.idx ndA (fun v_ hv_ => ?_); conv=>arg 4;cbv)
  | (refine Sat.ari64 ndA ndA ?_; conv=>arg 4;cbv)
  | (refine Sat.pop ?_; conv=>arg 4;cbv)
  | refine Sat.done ?_
 all_goals refine led_bo ?_
 all_goals (try simp only [ncast] at *)
 all_goals first | (simp_all [validC]; done) | (simp_all [validC]; intros; omega)
theorem w_spec_IsValidConfig (c : GConfig) (hb : bConfig c) : Fn Pr n_spec_IsValidConfig [aGConfig c] (.bo (validC c)) := by
 refine k_spec_IsValidConfig.fn (by kernel_rfl) ?_
 conv=>arg 4;cbv
 repeat' first
  | (refine Sat.cmp (fun h => ?_) (fun h => ?_) <;> simp only [Cmp.holds] at h <;> (conv=>arg 4;cbv))
  | (refine Sat.callb (w_spec_l1In _ _ _) rfl ledA (fun h => ?_) (fun h => ?_) <;> (try simp only [decide_eq_true_eq, decide_eq_false_iff_not] at h) <;> (conv=>arg 4;cbv))
  | (refine Sat.callb (w_spec_AreServers c.Replicas hb.1) rfl ledA (fun h => ?_) (fun h => ?_) <;> (try simp only [decide_eq_true_eq, decide_eq_false_iff_not] at h) <;> (conv=>arg 4;cbv))
  | (refine Sat.callb (w_spec_AreServers c.Witnesses hb.2) rfl ledA (fun h => ?_) (fun h => ?_) <;> (try simp only [decide_eq_true_eq, decide_eq_false_iff_not] at h) <;> (conv=>arg 4;cbv))
  | (refine Sat.callb (w_spec_HasServer c.Replicas _ hb.1) rfl ledA (fun h => ?_) (fun h => ?_) <;> (try simp only [decide_eq_true_eq, decide_eq_false_iff_not] at h) <;> (conv=>arg 4;cbv))
  | (refine Sat.call (w_spec_CommonServers c.Replicas c.Witnesses (by have := areServers_len (l := c.Replicas) (by assumption); omega) hb.2) rfl ledA ?_; conv=>arg 4;cbv)
  | (refine Sat.need ndA ?_; conv=>arg 4;cbv)
  | (refine Sat.idxk (by assumption) ?_; conv=>arg 4;cbv) | (refine Sat.idx ndA (fun v_ hv_ => ?_); conv=>arg 4;cbv)
  | (refine Sat.ari64 ndA ndA ?_; conv=>arg 4;cbv)
  | (refine Sat.pop ?_; conv=>arg 4;cbv)
  | refine Sat.done ?_
 all_goals refine led_bo ?_
 all_goals (try simp only [ncast] at *)
 all_goals first | (simp_all [validC]; done) | (simp_all [validC]; intros; omega)
theorem Sat.nextR2 {ι : Type} {As : List (St → Prop)} {Q : AV → Prop} {s : St} {G : ι → Prop} {μ : ι → Nat} {S : ι → St} {x : ι} (b c b' c' : Nat) (y : ι) (hc : noFx c s.st = true) (hb : noFx b s.st = true) (hlt : Nat.blt c s.nx = true) (hlt2 : Nat.blt b s.nx = true) (hc' : noFx c' (renS b c s).st = true) (hb' : noFx b' (renS b c s).st = true) (hlt' : Nat.blt c' (renS b c s).nx = true) (hlt2' : Nat.blt b' (renS b c s).nx = true) (h : LeS (renS b' c' (renS b c s)) (S y)) (hg : G y) (hm : μ y < μ x) : Sat Pr Q ((fun s' => ∃ y, LeS s' (S y) ∧ G y ∧ μ y < μ x) :: As) (.again s) :=
 .again (.step b c hc hb hlt hlt2 (.step b' c' hc' hb' hlt' hlt2' (.refl _))) ⟨y, h, hg, hm⟩
theorem w_spec_l1New (code : List Int) (hc : code.length ≤ 1048576) : FnN Pr n_spec_l1New [.sl 1 (encI .u8) (fun _ => code)] (fun cs => ∃ i h : Int, (0 ≤ i ∧ i ≤ (code.length : Int)) ∧ cs = curA code i h) := by
 refine k_spec_l1New.fnn (by kernel_rfl) ?_
 conv=>arg 4;cbv
 repeat' first
  | (refine Sat.ari64 ndA ndA ?_; conv=>arg 4;cbv)
  | (refine Sat.cmp (fun h => ?_) (fun h => ?_) <;> simp only [Cmp.holds] at h <;> (conv=>arg 4;cbv))
 refine Sat.loopP (ι := Nat × Int) (fun p => [(3, .int .i64 (fun _ => p.2)), (4, .int .i64 (fun _ => (p.1 : Int)))]) (fun p => []) (fun p => p.1 ≤ code.length) (fun p => code.length - p.1) (0, 10101 + (code.length : Int)) ?_ (by simp) (fun p hp => ?_)
 ·exact lesA
 conv=>arg 4;cbv
 repeat' first
  | (refine Sat.cmp (fun h => ?_) (fun h => ?_) <;> simp only [Cmp.holds] at h <;> (conv=>arg 4;cbv))
  | (refine Sat.need ndA ?_; conv=>arg 4;cbv)
  | (refine Sat.idxk (by assumption) ?_; conv=>arg 4;cbv) | (refine Sat.idx ndA (fun v_ hv_ => ?_); conv=>arg 4;cbv)
  | (refine Sat.ari64 ndA ndA ?_; conv=>arg 4;cbv)
  | (refine Sat.pop ?_; conv=>arg 4;cbv)
  | (refine Sat.ariw ?_; conv=>arg 4;cbv)
 ·generalize bitI BinOp.and IntKind.i64 _ _ = z
  refine Sat.next (p.1 + 1, z) ?_ (by exact arA) (by exact arA)
  exact lesA
 all_goals exact Sat.done ⟨curA code 0 p.2, ⟨0, p.2, ⟨by omega, by omega⟩, rfl⟩, .same _⟩
def isInt (lo hi : Int) : AV → Prop := fun r => ∃ v : Int, r = .int .i64 (fun _ => v) ∧ lo ≤ v ∧ v ≤ hi
theorem w_spec_l1Byte (code : List Int) (hc : code.length ≤ 1048576) (i h : Int) (hi : 0 ≤ i ∧ i ≤ (code.length : Int)) : FnP Pr n_spec_l1Byte [.ptr 0 0] [curA code i h] (Dr code (isInt 0 255)) := by
 refine k_spec_l1Byte.fnp (by kernel_rfl) ?_
 conv=>arg 4;cbv
 repeat' first
  | (refine Sat.cmp (fun h => ?_) (fun h => ?_) <;> simp only [Cmp.holds] at h <;> (conv=>arg 4;cbv))
  | (refine Sat.need ndA ?_; conv=>arg 4;cbv)
  | (refine Sat.idxk (by assumption) ?_; conv=>arg 4;cbv) | (refine Sat.idx ndA (fun v_ hv_ => ?_); conv=>arg 4;cbv)
  | (refine Sat.ari64 ndA ndA ?_; conv=>arg 4;cbv)
  | (refine Sat.pop ?_; conv=>arg 4;cbv)
  | (refine Sat.ariw ?_; conv=>arg 4;cbv)
 all_goals generalize hz : bitI BinOp.and IntKind.i64 _ _ = z
 all_goals have hb : 0 ≤ z ∧ z ≤ 255 := by rw [← hz]; exact and_le (m := 255) (by omega)
 ·have hi2 : 0 ≤ i + 1 ∧ i + 1 ≤ (code.length : Int) := ⟨by omega, by (simp only [ncast] at *; omega)⟩
  exact Sat.done (dr_end (ret := .int .i64 (fun _ => z)) ⟨z, rfl, hb.1, hb.2⟩ (.int rfl) hi2 rfl)
 ·exact Sat.done (dr_end (ret := .int .i64 (fun _ => z)) ⟨z, rfl, hb.1, hb.2⟩ (.int rfl) hi rfl)
theorem w_spec_l1Below (code : List Int) (hc : code.length ≤ 1048576) (n : Int) (i h : Int) (hi : 0 ≤ i ∧ i ≤ (code.length : Int)) : FnP Pr n_spec_l1Below [.ptr 0 0, .int .i64 (fun _ => n)] [curA code i h] (Dr code (isInt 0 (max 0 (n - 1)))) := by
 refine k_spec_l1Below.fnp (by kernel_rfl) ?_
 conv=>arg 4;cbv
 repeat' first
  | (refine Sat.cmp (fun h => ?_) (fun h => ?_) <;> simp only [Cmp.holds] at h <;> (conv=>arg 4;cbv))
  | (refine Sat.need ndA ?_; conv=>arg 4;cbv)
  | (refine Sat.draw (w_spec_l1Byte code hc) (by (try dsimp only); omega) (fun ret i' h' hi' hR => ?_); obtain ⟨v, rfl, hv0, hv1⟩ := hR; conv=>arg 4;cbv)
  | (refine Sat.ari64 ndA ndA ?_; conv=>arg 4;cbv)
  | (refine Sat.pop ?_; conv=>arg 4;cbv)
 ·exact Sat.done (dr_end (ret := .int .i64 (fun _ => 0)) ⟨0, rfl, by omega, by omega⟩ (.int rfl) hi rfl)
 ·have h1 := Int.tmod_nonneg n hv0
  have h2 := Int.tmod_lt_of_pos v (show 0 < n by omega)
  exact Sat.done (dr_end (ret := .int .i64 (fun _ => v.tmod n)) ⟨_, rfl, by omega, by omega⟩ (.int rfl) hi' rfl)
 ·rename_i i1 k1 hi1 v1 a1 b1 i2 k2 hi2 v2 a2 b2 i3 k3 hi3 v3 a3 b3
  have h1 := Int.tmod_nonneg n (show 0 ≤ v1 * 16777216 + v2 * 65536 + v3 * 256 + v by omega)
  have h2 := Int.tmod_lt_of_pos (v1 * 16777216 + v2 * 65536 + v3 * 256 + v) (show 0 < n by omega)
  exact Sat.done (dr_end (ret := .int .i64 (fun _ => (v1 * 16777216 + v2 * 65536 + v3 * 256 + v).tmod n)) ⟨_, rfl, by omega, by omega⟩ (.int rfl) hi' rfl)
def isB : AV → Prop := fun r => ∃ b : Bool, r = .bo b
theorem w_spec_l1Once (code : List Int) (hc : code.length ≤ 1048576) (n : Int) (i h : Int) (hi : 0 ≤ i ∧ i ≤ (code.length : Int)) : FnP Pr n_spec_l1Once [.ptr 0 0, .int .i64 (fun _ => n)] [curA code i h] (Dr code isB) := by
 refine k_spec_l1Once.fnp (by kernel_rfl) ?_
 conv=>arg 4;cbv
 repeat' first
  | (refine Sat.cmp (fun h => ?_) (fun h => ?_) <;> simp only [Cmp.holds] at h <;> (conv=>arg 4;cbv))
  | (refine Sat.need ndA ?_; conv=>arg 4;cbv)
  | (refine Sat.draw (w_spec_l1Below code hc n) (by (try dsimp only); omega) (fun ret i' h' hi' hR => ?_); obtain ⟨v, rfl, hv0, hv1⟩ := hR; conv=>arg 4;cbv)
  | (refine Sat.ari64 ndA ndA ?_; conv=>arg 4;cbv)
  | (refine Sat.pop ?_; conv=>arg 4;cbv)
 ·exact Sat.done (dr_end (ret := .bo true) ⟨_, rfl⟩ (.same _) hi' rfl)
 ·exact Sat.done (dr_end (ret := .bo false) ⟨_, rfl⟩ (.same _) hi' rfl)
def isAny : AV → Prop := fun r => ∃ v : Int, r = .int .i64 (fun _ => v)
theorem w_spec_l1PickInt (code : List Int) (hc : code.length ≤ 1048576) (l : List Int) (hl : 1 ≤ l.length) (hm : l.length ≤ 1000000) (i h : Int) (hi : 0 ≤ i ∧ i ≤ (code.length : Int)) : FnP Pr n_spec_l1PickInt [.ptr 0 0, .sl 1 (encI .i64) (fun _ => l)] [curA code i h] (Dr code isAny) := by
 refine k_spec_l1PickInt.fnp (by kernel_rfl) ?_
 conv=>arg 4;cbv
 repeat' first
  | (refine Sat.cmp (fun h => ?_) (fun h => ?_) <;> simp only [Cmp.holds] at h <;> (conv=>arg 4;cbv))
  | (refine Sat.need ndA ?_; conv=>arg 4;cbv)
  | (refine Sat.draw (w_spec_l1Below code hc (l.length : Int)) (by (try dsimp only); omega) (fun ret i' h' hi' hR => ?_); obtain ⟨v, rfl, hv0, hv1⟩ := hR; conv=>arg 4;cbv)
  | (refine Sat.idxk (by assumption) ?_; conv=>arg 4;cbv) | (refine Sat.idx ndA (fun v_ hv_ => ?_); conv=>arg 4;cbv)
  | (refine Sat.ari64 ndA ndA ?_; conv=>arg 4;cbv)
  | (refine Sat.pop ?_; conv=>arg 4;cbv)
 exact Sat.done (dr_end (ret := .int .i64 (fun _ => v_)) ⟨_, rfl⟩ (.int rfl) hi' rfl)
def isL (n : Nat) : AV → Prop := fun r => ∃ l : List Int, r = .sl 1 (encI .i64) (fun _ => l) ∧ l.length ≤ n
theorem w_spec_l2Some (code : List Int) (hc : code.length ≤ 1048576) (i h : Int) (hi : 0 ≤ i ∧ i ≤ (code.length : Int)) : FnP Pr n_spec_l2Some [.ptr 0 0] [curA code i h] (Dr code (isL 5)) := by
 refine k_spec_l2Some.fnp (by kernel_rfl) ?_
 conv=>arg 4;cbv
 refine Sat.loopP (ι := Nat × List Int × Int × Int) (fun p => [(3, .ref 64 (fun _ => 0) (fun _ => p.2.1.length)), (4, .int .i64 (fun _ => (p.1 : Int)))]) (fun p => [(0, .lit 99 [.sl 1 (encI .u8) (fun _ => code), .int .i64 (fun _ => p.2.2.1), .int .i64 (fun _ => p.2.2.2)]), (64, .row 1 (encI .i64) (fun _ => p.2.1) false)]) (fun p => p.1 ≤ 5 ∧ p.2.1.length ≤ p.1 ∧ 0 ≤ p.2.2.1 ∧ p.2.2.1 ≤ (code.length : Int)) (fun p => 5 - p.1) (0, [], i, h) ?_ (by simp; omega) (fun p hp => ?_)
 ·refine les_of ?_ ?_ rfl
  iterate 2 (focus repeat' (first | exact trivial | refine And.intro ?_ ?_ | exact levA | refine lev_cons ?_ ?_ | refine LeV.agg rfl ?_ | exact Nat.le_of_ble_eq_true rfl | exact Or.inl ⟨_, rfl, .row rfl⟩ | refine Or.inl ⟨_, rfl, .row ?_⟩ | refine Or.inl ⟨_, rfl, .lit rfl ?_⟩ | exact Or.inr ⟨rfl, rfl⟩ | (first | exact .empref (fun h => nomatch h) rfl rfl rfl | rfl)))
 conv=>arg 4;cbv
 repeat' first
  | (refine Sat.cmp (fun h => ?_) (fun h => ?_) <;> simp only [Cmp.holds] at h <;> (conv=>arg 4;cbv))
  | (refine Sat.need ndA ?_; conv=>arg 4;cbv)
  | (refine Sat.draw (w_spec_l1Once code hc 2) hp.2.2 (fun ret i' h' hi' hR => ?_); obtain ⟨b, rfl⟩ := hR; cases b <;> (conv=>arg 4;cbv))
  | (refine Sat.idxk (by assumption) ?_; conv=>arg 4;cbv) | (refine Sat.idx ndA (fun v_ hv_ => ?_); conv=>arg 4;cbv)
  | (refine Sat.ari64 ndA ndA ?_; conv=>arg 4;cbv)
  | (refine Sat.pop ?_; conv=>arg 4;cbv)
  | (refine Sat.need ⟨rfl, fun y hy j hj => rfl, by (try dsimp only); omega⟩ ?_; conv=>arg 4;cbv)
  | (refine Sat.same ?_; conv=>arg 4;cbv)
 ·refine Sat.next (p.1 + 1, p.2.1, i', h') ?_ ⟨by exact arA, by (try dsimp only); omega, hi'⟩ (by (try dsimp only); exact arA)
  exact lesA
 ·refine Sat.next (p.1 + 1, p.2.1 ++ [(p.1 : Int)], i', h') ?_ ⟨by exact arA, by (try dsimp only); simp; omega, hi'⟩ (by (try dsimp only); exact arA)
  refine les_of ?_ ?_ rfl
  iterate 2 (focus repeat' (first | exact trivial | refine And.intro ?_ ?_ | exact levA | refine lev_cons ?_ ?_ | refine LeV.agg rfl ?_ | exact Nat.le_of_ble_eq_true rfl | exact Or.inl ⟨_, rfl, .row rfl⟩ | refine Or.inl ⟨_, rfl, .row ?_⟩ | refine Or.inl ⟨_, rfl, .lit rfl ?_⟩ | exact Or.inr ⟨rfl, rfl⟩ | (first | exact .ref (fun h => nomatch h) (fun h => nomatch h) rfl (by simp) | (simp; done))))
 ·exact Sat.done (dr_end (ret := .sl 1 (encI .i64) (fun _ => p.2.1)) ⟨_, rfl, by omega⟩ (.sl (by simp)) hp.2.2 rfl)
theorem w_spec_l2Any (code : List Int) (hc : code.length ≤ 1048576) (i h : Int) (hi : 0 ≤ i ∧ i ≤ (code.length : Int)) : FnP Pr n_spec_l2Any [.ptr 0 0] [curA code i h] (Dr code (isL 6)) := by
 refine k_spec_l2Any.fnp (by kernel_rfl) ?_
 conv=>arg 4;cbv
 repeat' first
  | (refine Sat.cmp (fun h => ?_) (fun h => ?_) <;> simp only [Cmp.holds] at h <;> (conv=>arg 4;cbv))
  | (refine Sat.need ndA ?_; conv=>arg 4;cbv)
  | (refine Sat.draw (w_spec_l2Some code hc) (by (try dsimp only); omega) (fun ret i' h' hi' hR => ?_); obtain ⟨l, rfl, hl⟩ := hR; conv=>arg 4;cbv)
  | (refine Sat.draw (w_spec_l1Once code hc 8) (by (try dsimp only); omega) (fun ret i' h' hi' hR => ?_); obtain ⟨b, rfl⟩ := hR; cases b <;> (conv=>arg 4;cbv))
  | (refine Sat.draw (w_spec_l1PickInt code hc [-1, 0, 4, 5] (by decide) (by decide)) (by (try dsimp only); omega) (fun ret i' h' hi' hR => ?_); obtain ⟨v, rfl⟩ := hR; conv=>arg 4;cbv)
  | (refine Sat.idxk (by assumption) ?_; conv=>arg 4;cbv) | (refine Sat.idx ndA (fun v_ hv_ => ?_); conv=>arg 4;cbv)
  | (refine Sat.ari64 ndA ndA ?_; conv=>arg 4;cbv)
  | (refine Sat.pop ?_; conv=>arg 4;cbv)
 ·exact Sat.done (dr_end (ret := .sl 1 (encI .i64) (fun _ => l)) ⟨_, rfl, by omega⟩ (.sl (by simp)) hi' rfl)
 ·refine Sat.need ⟨rfl, fun y hy j hj => ?_, by (try dsimp only); omega⟩ ?_
  ·rfl
  conv=>arg 4;cbv
  refine Sat.same ?_
  conv=>arg 4;cbv
  exact Sat.done (dr_end (ret := .sl 1 (encI .i64) (fun _ => l ++ [v])) ⟨_, rfl, by simp; omega⟩ (.sl (by simp)) hi' rfl)
theorem w_laws_big (code : List Int) (hb : code.length * 1 ≤ 140737488351232) : Fn Pr n_laws_big [.sl 1 (encI .u8) (fun _ => code)] (.bo (decide ((1048576 : Int) < code.length))) := by
 refine k_laws_big.fn (by kernel_rfl) ?_
 conv=>arg 4;cbv
 repeat' first
  | (refine Sat.cmp (fun h => ?_) (fun h => ?_) <;> simp only [Cmp.holds] at h <;> (conv=>arg 4;cbv))
  | (refine Sat.need ndA ?_; conv=>arg 4;cbv)
  | (refine Sat.idxk (by assumption) ?_; conv=>arg 4;cbv) | (refine Sat.idx ndA (fun v_ hv_ => ?_); conv=>arg 4;cbv)
  | (refine Sat.ari64 ndA ndA ?_; conv=>arg 4;cbv)
  | (refine Sat.pop ?_; conv=>arg 4;cbv)
  | refine Sat.done ?_
 all_goals refine led_bo ?_
 all_goals (simp only [ncast] at *; simp; omega)
def isOp : AV → Prop := fun r => ∃ o : GOp, r = aGOp o
theorem w_spec_l3Op (code : List Int) (hc : code.length ≤ 1048576) (i h : Int) (hi : 0 ≤ i ∧ i ≤ (code.length : Int)) : FnP Pr n_spec_l3Op [.ptr 0 0] [curA code i h] (Dr code isOp) := by
 refine k_spec_l3Op.fnp (by kernel_rfl) ?_
 conv=>arg 4;cbv
 refine Sat.draw (w_spec_l1Below code hc _) hi (fun ret ia ha hia hR => ?_)
 obtain ⟨va, rfl, va0, va1⟩ := hR
 conv=>arg 4;cbv
 refine Sat.draw (w_spec_l1Below code hc _) hia (fun ret ib hb hib hR => ?_)
 obtain ⟨vb, rfl, vb0, vb1⟩ := hR
 conv=>arg 4;cbv
 (refine Sat.ari64 ndA ndA ?_; conv=>arg 4;cbv)
 refine Sat.draw (w_spec_l1Below code hc _) hib (fun ret ic hc hic hR => ?_)
 obtain ⟨vc, rfl, vc0, vc1⟩ := hR
 conv=>arg 4;cbv
 refine Sat.draw (w_spec_l1Below code (by assumption) _) hic (fun ret id hd hid hR => ?_)
 obtain ⟨vd, rfl, vd0, vd1⟩ := hR
 conv=>arg 4;cbv
 refine Sat.draw (w_spec_l1Once code (by assumption) 3) hid (fun ret ie he hie hR => ?_)
 obtain ⟨b, rfl⟩ := hR
 cases b <;> (conv=>arg 4;cbv)
 ·exact Sat.done (dr_end (ret := aGOp ⟨va, 1 + vb, 1, vc, 0, vd⟩) ⟨_, rfl⟩ (.same _) hie rfl)
 refine Sat.draw (w_spec_l1PickInt code (by assumption) [0, 0, 1, 5, 9] (by decide) (by decide)) hie (fun ret ig hg hig hR => ?_)
 obtain ⟨u, rfl⟩ := hR
 conv=>arg 4;cbv
 exact Sat.done (dr_end (ret := aGOp ⟨va, 1 + vb, 2, vc, u, vd⟩) ⟨_, rfl⟩ (.same _) hig rfl)
end Go.V.T