/- Contracts of the functions that FnExactTakeSnapshot reaches: what each returns. Conditions: those that each theorem states. -/
import Derived.Test.YtmgaclkdjlhjmaaDoorMXTakeSnapshot
import Derived.Lib.ItoaNum
import Derived.Shelf.Strconv.Itoa3
import Derived.Shelf.Strings.OnBuilder
namespace Go.V.T
open Go Go.V Go.RowKit
set_option maxRecDepth 100000
set_option linter.unusedVariables false
set_option linter.unusedSimpArgs false
@[ext] structure GOp where
  Client : Int
  Seq : Int
  Kind : Int
  Object : Int
  Old : Int
  Value : Int
  deriving DecidableEq
def eGOp (x : GOp) : Nat → AV
 | 0 => .int .i64 (fun _ => x.Client)
 | 1 => .int .i64 (fun _ => x.Seq)
 | 2 => .int .i64 (fun _ => x.Kind)
 | 3 => .int .i64 (fun _ => x.Object)
 | 4 => .int .i64 (fun _ => x.Old)
 | 5 => .int .i64 (fun _ => x.Value)
 | _ => .any
abbrev cGOp (x : GOp) : List AV := [.int .i64 (fun _ => x.Client), .int .i64 (fun _ => x.Seq), .int .i64 (fun _ => x.Kind), .int .i64 (fun _ => x.Object), .int .i64 (fun _ => x.Old), .int .i64 (fun _ => x.Value)]
abbrev aGOp (x : GOp) : AV := .agg [.int .i64 (fun _ => x.Client), .int .i64 (fun _ => x.Seq), .int .i64 (fun _ => x.Kind), .int .i64 (fun _ => x.Object), .int .i64 (fun _ => x.Old), .int .i64 (fun _ => x.Value)]
@[ext] structure GEntry where
  Epoch : Int
  Op : GOp
  deriving DecidableEq
def eGEntry (x : GEntry) : Nat → AV
 | 0 => .int .i64 (fun _ => x.Epoch)
 | 1 => .int .i64 (fun _ => x.Op.Client)
 | 2 => .int .i64 (fun _ => x.Op.Seq)
 | 3 => .int .i64 (fun _ => x.Op.Kind)
 | 4 => .int .i64 (fun _ => x.Op.Object)
 | 5 => .int .i64 (fun _ => x.Op.Old)
 | 6 => .int .i64 (fun _ => x.Op.Value)
 | _ => .any
abbrev cGEntry (x : GEntry) : List AV := [.int .i64 (fun _ => x.Epoch), .int .i64 (fun _ => x.Op.Client), .int .i64 (fun _ => x.Op.Seq), .int .i64 (fun _ => x.Op.Kind), .int .i64 (fun _ => x.Op.Object), .int .i64 (fun _ => x.Op.Old), .int .i64 (fun _ => x.Op.Value)]
abbrev aGEntry (x : GEntry) : AV := .agg [.int .i64 (fun _ => x.Epoch), .int .i64 (fun _ => x.Op.Client), .int .i64 (fun _ => x.Op.Seq), .int .i64 (fun _ => x.Op.Kind), .int .i64 (fun _ => x.Op.Object), .int .i64 (fun _ => x.Op.Old), .int .i64 (fun _ => x.Op.Value)]
@[ext] structure GResult where
  Done : Bool
  Value : Int
  deriving DecidableEq
def eGResult (x : GResult) : Nat → AV
 | 0 => .bo x.Done
 | 1 => .int .i64 (fun _ => x.Value)
 | _ => .any
abbrev cGResult (x : GResult) : List AV := [.bo x.Done, .int .i64 (fun _ => x.Value)]
abbrev aGResult (x : GResult) : AV := .agg [.bo x.Done, .int .i64 (fun _ => x.Value)]
@[ext] structure GSession where
  Client : Int
  Seq : Int
  Result : GResult
  deriving DecidableEq
def eGSession (x : GSession) : Nat → AV
 | 0 => .int .i64 (fun _ => x.Client)
 | 1 => .int .i64 (fun _ => x.Seq)
 | 2 => .bo x.Result.Done
 | 3 => .int .i64 (fun _ => x.Result.Value)
 | _ => .any
abbrev cGSession (x : GSession) : List AV := [.int .i64 (fun _ => x.Client), .int .i64 (fun _ => x.Seq), .bo x.Result.Done, .int .i64 (fun _ => x.Result.Value)]
abbrev aGSession (x : GSession) : AV := .agg [.int .i64 (fun _ => x.Client), .int .i64 (fun _ => x.Seq), .bo x.Result.Done, .int .i64 (fun _ => x.Result.Value)]
@[ext] structure GMachine where
  Objects : List Int
  Sessions : List GSession
  deriving DecidableEq
def eGMachine (x : GMachine) : Nat → AV
 | 0 => .sl 1 (encI .i64) (fun _ => x.Objects)
 | 1 => .sl 4 eGSession (fun _ => x.Sessions)
 | _ => .any
abbrev cGMachine (x : GMachine) : List AV := [.sl 1 (encI .i64) (fun _ => x.Objects), .sl 4 eGSession (fun _ => x.Sessions)]
abbrev aGMachine (x : GMachine) : AV := .agg [.sl 1 (encI .i64) (fun _ => x.Objects), .sl 4 eGSession (fun _ => x.Sessions)]
@[ext] structure GSnapshot where
  Count : Int
  Digest : Int
  Machine : GMachine
  deriving DecidableEq
def eGSnapshot (x : GSnapshot) : Nat → AV
 | 0 => .int .i64 (fun _ => x.Count)
 | 1 => .int .i64 (fun _ => x.Digest)
 | 2 => .sl 1 (encI .i64) (fun _ => x.Machine.Objects)
 | 3 => .sl 4 eGSession (fun _ => x.Machine.Sessions)
 | _ => .any
abbrev cGSnapshot (x : GSnapshot) : List AV := [.int .i64 (fun _ => x.Count), .int .i64 (fun _ => x.Digest), .sl 1 (encI .i64) (fun _ => x.Machine.Objects), .sl 4 eGSession (fun _ => x.Machine.Sessions)]
abbrev aGSnapshot (x : GSnapshot) : AV := .agg [.int .i64 (fun _ => x.Count), .int .i64 (fun _ => x.Digest), .sl 1 (encI .i64) (fun _ => x.Machine.Objects), .sl 4 eGSession (fun _ => x.Machine.Sessions)]
theorem w_spec_l1In (n a b : Int) : Fn Pr n_spec_l1In [.int .i64 (fun _ => n), .int .i64 (fun _ => a), .int .i64 (fun _ => b)] (.bo (decide (a ≤ n ∧ n ≤ b))) := by
 refine k_spec_l1In.fn (by kernel_rfl) ?_
 conv=>arg 4;cbv
 repeat' first
  | (refine Sat.cmp (fun h => ?_) (fun h => ?_) <;> simp only [Cmp.holds] at h <;> (conv=>arg 4;cbv))
  | (refine Sat.need ndA ?_; conv=>arg 4;cbv)
  | (refine Sat.idxk (by assumption) ?_; conv=>arg 4;cbv) | (refine Sat.idx ndA (fun v_ hv_ => ?_); conv=>arg 4;cbv)
  | (refine Sat.ari64 ndA ndA ?_; conv=>arg 4;cbv)
  | (refine Sat.pop ?_; conv=>arg 4;cbv)
  | refine Sat.done ?_
 all_goals refine led_bo ?_ <;> simp <;> omega
theorem w_impl_within (n a b : Int) : Fn Pr n_impl_within [.int .i64 (fun _ => n), .int .i64 (fun _ => a), .int .i64 (fun _ => b)] (.bo (decide (a ≤ n ∧ n ≤ b))) := by
 refine k_impl_within.fn (by kernel_rfl) ?_
 conv=>arg 4;cbv
 repeat' first
  | (refine Sat.cmp (fun h => ?_) (fun h => ?_) <;> simp only [Cmp.holds] at h <;> (conv=>arg 4;cbv))
  | (refine Sat.need ndA ?_; conv=>arg 4;cbv)
  | (refine Sat.idxk (by assumption) ?_; conv=>arg 4;cbv) | (refine Sat.idx ndA (fun v_ hv_ => ?_); conv=>arg 4;cbv)
  | (refine Sat.ari64 ndA ndA ?_; conv=>arg 4;cbv)
  | (refine Sat.pop ?_; conv=>arg 4;cbv)
  | refine Sat.done ?_
 all_goals refine led_bo ?_ <;> simp <;> omega
theorem take_ext {α : Type _} {l r : List α} {i : Nat} {x y : α} (hx : l[i]? = some x) (hy : r[i]? = some y) (h : l.take i = r.take i) (e : x = y) : l.take (i + 1) = r.take (i + 1) := by
 rw [List.take_add_one, List.take_add_one, hx, hy, h, e]
theorem ne_of_get {α : Type _} {l r : List α} {i : Nat} {x y : α} (hx : l[i]? = some x) (hy : r[i]? = some y) (h : ¬ x = y) : l ≠ r := fun e => h (by subst e; rw [hx] at hy; exact Option.some.inj hy)
theorem set_take {α : Type _} {l : List α} {i : Nat} {x z : α} (h : l[i]? = some x) : setAt (l.take i ++ List.replicate (l.length - i) z) i x = l.take (i + 1) ++ List.replicate (l.length - (i + 1)) z := by
 have hi := lt_of_get h
 have e : l.length - i = (l.length - (i + 1)) + 1 := by omega
 rw [setAt, e, List.replicate_succ, List.set_append_right _ _ (by simp; omega)]
 have : i - (l.take i).length = 0 := by simp; omega
 rw [this, List.set_cons_zero, List.take_add_one, h]
 simp
def szF (k : Nat) (n : Int) : Int := if n - k < 0 then -1 else n - k
theorem szF_rng {k : Nat} {n : Int} (hn : 0 ≤ n) : -1 ≤ szF k n ∧ szF k n ≤ n := by unfold szF; split <;> omega
theorem szF_le {k : Nat} {n : Int} (h : 0 ≤ szF k n) : (k : Int) ≤ n := by unfold szF at h; split at h <;> omega
def szL {α : Type} (f : α → Int → Int) : List α → Int → Int
 | [], n => n
 | x :: r, n => if f x n < 0 then -1 else szL f r (f x n)
theorem szL_rng {α : Type} {f : α → Int → Int} (hf : ∀ x n, 0 ≤ n → -1 ≤ f x n ∧ f x n ≤ n) : ∀ (l : List α) {n : Int}, 0 ≤ n → -1 ≤ szL f l n ∧ szL f l n ≤ n
 | [], n, h => by simp only [szL]; omega
 | x :: r, n, h => by
   rw [szL]
   have := hf x n h
   split
   ·omega
   ·have := szL_rng hf r (n := f x n) (by omega)
    omega
theorem drop_get {α : Type _} {l : List α} {i : Nat} {x : α} (h : l[i]? = some x) : l.drop i = x :: l.drop (i + 1) := by
 obtain ⟨hi, rfl⟩ := List.getElem?_eq_some_iff.1 h
 exact List.drop_eq_getElem_cons hi
def bIntS (x : List Int) : Prop := x.length * 8 ≤ 140737488351232
theorem w_laws_eqIntS (x y : List Int) (hb : bIntS x) : Fn Pr n_laws_eqIntS [.sl 1 (encI .i64) (fun _ => x), .sl 1 (encI .i64) (fun _ => y)] (.bo (decide (x = y))) := by
 refine k_laws_eqIntS.fn (by kernel_rfl) ?_
 have h0 : x.length * 8 ≤ 140737488351232 := hb
 conv=>arg 4;cbv
 refine Sat.cmp (fun hl => ?_) (fun hl => ?_) <;> simp only [Cmp.holds] at hl <;> (conv=>arg 4;cbv)
 ·refine Sat.loopP (ι := Nat) (fun i => [(5, .int .i64 (fun _ => (i : Int)))]) (fun i => []) (fun i => i ≤ x.length ∧ x.take i = y.take i) (fun i => x.length - i) 0 ?_ ⟨by omega, by simp⟩ (fun i hi => ?_)
  ·exact lesA
  conv=>arg 4;cbv
  repeat' first
   | (refine Sat.cmp (fun h => ?_) (fun h => ?_) <;> simp only [Cmp.holds] at h <;> (conv=>arg 4;cbv))
   | (refine Sat.need ndA ?_; conv=>arg 4;cbv)
   | (refine Sat.idxk (by assumption) ?_; conv=>arg 4;cbv) | (refine Sat.idx ndA (fun v_ hv_ => ?_); conv=>arg 4;cbv)
   | (refine Sat.ari64 ndA ndA ?_; conv=>arg 4;cbv)
   | (refine Sat.pop ?_; conv=>arg 4;cbv)
   | refine Sat.next (i + 1) ?_ ?_ (by (try dsimp only); exact arA)
   | refine Sat.done (led_bo (Eq.symm (decide_eq_false (ne_of_get (by assumption) (by assumption) (fun e => by subst e; first | contradiction | (simp_all; done))))))
   | refine Sat.done ?_
  ·exact lesA
  ·exact ⟨by exact arA, take_ext (by assumption) (by assumption) hi.2 (by assumption)⟩
  ·refine led_bo ?_
   have e1 : i = x.length := by exact arA
   have e2 : x.length = y.length := by exact arA
   have := hi.2
   rw [e1, List.take_length, e2, List.take_length] at this
   simp [this]
 ·refine Sat.done (led_bo ?_)
  have : x ≠ y := fun e => hl (by rw [e])
  simp [this]
theorem w_laws_toOp (x : GOp) : Fn Pr n_laws_toOp [aGOp x] (aGOp x) := by
 refine k_laws_toOp.fn (by kernel_rfl) ?_
 conv=>arg 4;cbv
 repeat' first
  | (refine Sat.cmp (fun h => ?_) (fun h => ?_) <;> simp only [Cmp.holds] at h <;> (conv=>arg 4;cbv))
  | (refine Sat.need ndA ?_; conv=>arg 4;cbv)
  | (refine Sat.idxk (by assumption) ?_; conv=>arg 4;cbv) | (refine Sat.idx ndA (fun v_ hv_ => ?_); conv=>arg 4;cbv)
  | (refine Sat.ari64 ndA ndA ?_; conv=>arg 4;cbv)
  | (refine Sat.pop ?_; conv=>arg 4;cbv)
  | refine Sat.done ?_
 all_goals refine .agg rfl ?_
 all_goals (repeat' first | exact led_nil | refine led_cons ?_ ?_ | exact .same _ | exact .int rfl | exact .str rfl | exact .sl rfl | exact .nil rfl | (refine .sl ?_; simp; done))
theorem w_laws_eqOp (x y : GOp) : Fn Pr n_laws_eqOp [aGOp x, aGOp y] (.bo (decide (x = y))) := by
 refine k_laws_eqOp.fn (by kernel_rfl) ?_
 conv=>arg 4;cbv
 repeat' first
  | (refine Sat.cmp (fun h => ?_) (fun h => ?_) <;> simp only [Cmp.holds] at h <;> (conv=>arg 4;cbv))
  | (refine Sat.need ndA ?_; conv=>arg 4;cbv)
  | (refine Sat.idxk (by assumption) ?_; conv=>arg 4;cbv) | (refine Sat.idx ndA (fun v_ hv_ => ?_); conv=>arg 4;cbv)
  | (refine Sat.ari64 ndA ndA ?_; conv=>arg 4;cbv)
  | (refine Sat.pop ?_; conv=>arg 4;cbv)
  | refine Sat.done ?_
 all_goals refine led_bo ?_
 all_goals (cases x; cases y; simp_all)
theorem w_laws_toEntry (x : GEntry) : Fn Pr n_laws_toEntry [aGEntry x] (aGEntry x) := by
 refine k_laws_toEntry.fn (by kernel_rfl) ?_
 conv=>arg 4;cbv
 repeat' first
  | (refine Sat.cmp (fun h => ?_) (fun h => ?_) <;> simp only [Cmp.holds] at h <;> (conv=>arg 4;cbv))
  | (refine Sat.call (w_laws_toOp x.Op) rfl ledA ?_; conv=>arg 4;cbv)
  | (refine Sat.need ndA ?_; conv=>arg 4;cbv)
  | (refine Sat.idxk (by assumption) ?_; conv=>arg 4;cbv) | (refine Sat.idx ndA (fun v_ hv_ => ?_); conv=>arg 4;cbv)
  | (refine Sat.ari64 ndA ndA ?_; conv=>arg 4;cbv)
  | (refine Sat.pop ?_; conv=>arg 4;cbv)
  | refine Sat.done ?_
 all_goals refine .agg rfl ?_
 all_goals (repeat' first | exact led_nil | refine led_cons ?_ ?_ | exact .same _ | exact .int rfl | exact .str rfl | exact .sl rfl | exact .nil rfl | (refine .sl ?_; simp; done))
theorem w_laws_eqEntry (x y : GEntry) : Fn Pr n_laws_eqEntry [aGEntry x, aGEntry y] (.bo (decide (x = y))) := by
 refine k_laws_eqEntry.fn (by kernel_rfl) ?_
 conv=>arg 4;cbv
 repeat' first
  | (refine Sat.cmp (fun h => ?_) (fun h => ?_) <;> simp only [Cmp.holds] at h <;> (conv=>arg 4;cbv))
  | (refine Sat.callb (w_laws_eqOp x.Op y.Op) rfl ledA (fun h => ?_) (fun h => ?_) <;> (try simp only [decide_eq_true_eq, decide_eq_false_iff_not] at h) <;> (conv=>arg 4;cbv))
  | (refine Sat.need ndA ?_; conv=>arg 4;cbv)
  | (refine Sat.idxk (by assumption) ?_; conv=>arg 4;cbv) | (refine Sat.idx ndA (fun v_ hv_ => ?_); conv=>arg 4;cbv)
  | (refine Sat.ari64 ndA ndA ?_; conv=>arg 4;cbv)
  | (refine Sat.pop ?_; conv=>arg 4;cbv)
  | refine Sat.done ?_
 all_goals refine led_bo ?_
 all_goals (cases x; cases y; simp_all)
def bEntryS (x : List GEntry) : Prop := x.length * 56 ≤ 140737488351232
def sEntryS (x : List GEntry) (n : Int) : Int := szF x.length n
theorem w_laws_toEntryS (x : List GEntry) (hb : bEntryS x) : Fn Pr n_laws_toEntryS [.sl 7 eGEntry (fun _ => x)] (.sl 7 eGEntry (fun _ => x)) := by
 refine k_laws_toEntryS.fn (by kernel_rfl) ?_
 have h0 : x.length * 56 ≤ 140737488351232 := hb
 conv=>arg 4;cbv
 refine Sat.need (by (try dsimp only); exact arA) ?_
 conv=>arg 4;cbv
 refine Sat.typ eGEntry ⟨0, ⟨0, 0, 0, 0, 0, 0⟩⟩ (by (repeat' (first | exact tnil | refine tcons ?_ ?_ | exact .same _ | exact .int rfl | exact .str rfl | exact .sl rfl | exact .nil rfl | (refine .sl ?_; simp; done))); (first | done | fail)) ?_
 conv=>arg 4;cbv
 refine Sat.loopP (ι := Nat) (fun i => [(4, .int .i64 (fun _ => (i : Int)))]) (fun i => [(48, .row 7 eGEntry (fun _ => x.take i ++ List.replicate (x.length - i) ⟨0, ⟨0, 0, 0, 0, 0, 0⟩⟩) false)]) (fun i => i ≤ x.length) (fun i => x.length - i) 0 ?_ (by omega) (fun i hi => ?_)
 ·refine les_of ?_ ?_ rfl
  iterate 2 (focus repeat' (first | exact trivial | refine And.intro ?_ ?_ | exact levA | refine lev_cons ?_ ?_ | refine LeV.agg rfl ?_ | exact Nat.le_of_ble_eq_true rfl | exact Or.inl ⟨_, rfl, .row rfl⟩ | refine Or.inl ⟨_, rfl, .row ?_⟩ | refine Or.inl ⟨_, rfl, .lit rfl ?_⟩ | exact Or.inr ⟨rfl, rfl⟩ | (simp; done)))
 conv=>arg 4;cbv
 repeat' first
  | (refine Sat.cmp (fun h => ?_) (fun h => ?_) <;> simp only [Cmp.holds] at h <;> (conv=>arg 4;cbv))
  | (refine Sat.need ndA ?_; conv=>arg 4;cbv)
  | (refine Sat.idxk (by assumption) ?_; conv=>arg 4;cbv) | (refine Sat.idx ndA (fun v_ hv_ => ?_); conv=>arg 4;cbv)
  | (refine Sat.call (w_laws_toEntry _) rfl ledA ?_; conv=>arg 4;cbv)
  | (refine Sat.ari64 ndA ndA ?_; conv=>arg 4;cbv)
  | (refine Sat.pop ?_; conv=>arg 4;cbv)
  | (refine Sat.typed _ (by (repeat' (first | exact tnil | refine tcons ?_ ?_ | exact .same _ | exact .int rfl | exact .str rfl | exact .sl rfl | exact .nil rfl | (refine .sl ?_; simp; done))); (first | done | fail)) ?_; conv=>arg 4;cbv)
  | refine Sat.next (i + 1) ?_ (by exact arA) (by exact arA)
  | refine Sat.done ?_
 ·refine les_of ?_ ?_ rfl
  iterate 2 (focus repeat' (first | exact trivial | refine And.intro ?_ ?_ | exact levA | refine lev_cons ?_ ?_ | refine LeV.agg rfl ?_ | exact Nat.le_of_ble_eq_true rfl | exact Or.inl ⟨_, rfl, .row rfl⟩ | refine Or.inl ⟨_, rfl, .row ?_⟩ | refine Or.inl ⟨_, rfl, .lit rfl ?_⟩ | exact Or.inr ⟨rfl, rfl⟩ | (simp only [Int.toNat_natCast, Nat.zero_add]; exact set_take (by assumption))))
 ·refine .sl ?_
  have e : i = x.length := by exact arA
  subst e
  simp
theorem w_laws_eqEntryS (x y : List GEntry) (hb : bEntryS x) : Fn Pr n_laws_eqEntryS [.sl 7 eGEntry (fun _ => x), .sl 7 eGEntry (fun _ => y)] (.bo (decide (x = y))) := by
 refine k_laws_eqEntryS.fn (by kernel_rfl) ?_
 have h0 : x.length * 56 ≤ 140737488351232 := hb
 conv=>arg 4;cbv
 refine Sat.cmp (fun hl => ?_) (fun hl => ?_) <;> simp only [Cmp.holds] at hl <;> (conv=>arg 4;cbv)
 ·refine Sat.loopP (ι := Nat) (fun i => [(5, .int .i64 (fun _ => (i : Int)))]) (fun i => []) (fun i => i ≤ x.length ∧ x.take i = y.take i) (fun i => x.length - i) 0 ?_ ⟨by omega, by simp⟩ (fun i hi => ?_)
  ·exact lesA
  conv=>arg 4;cbv
  repeat' first
   | (refine Sat.cmp (fun h => ?_) (fun h => ?_) <;> simp only [Cmp.holds] at h <;> (conv=>arg 4;cbv))
   | (refine Sat.need ndA ?_; conv=>arg 4;cbv)
   | (refine Sat.idxk (by assumption) ?_; conv=>arg 4;cbv) | (refine Sat.idx ndA (fun v_ hv_ => ?_); conv=>arg 4;cbv)
   | (refine Sat.callb (w_laws_eqEntry _ _) rfl ledA (fun h => ?_) (fun h => ?_) <;> (try simp only [decide_eq_true_eq, decide_eq_false_iff_not] at h) <;> (conv=>arg 4;cbv))
   | (refine Sat.ari64 ndA ndA ?_; conv=>arg 4;cbv)
   | (refine Sat.pop ?_; conv=>arg 4;cbv)
   | refine Sat.next (i + 1) ?_ ?_ (by (try dsimp only); exact arA)
   | refine Sat.done (led_bo (Eq.symm (decide_eq_false (ne_of_get (by assumption) (by assumption) (fun e => by subst e; first | contradiction | (simp_all; done))))))
   | refine Sat.done ?_
  ·exact lesA
  ·exact ⟨by exact arA, take_ext (by assumption) (by assumption) hi.2 (by first | assumption | (apply GEntry.ext <;> first | assumption | (apply GOp.ext <;> assumption)))⟩
  ·refine led_bo ?_
   have e1 : i = x.length := by exact arA
   have e2 : x.length = y.length := by exact arA
   have := hi.2
   rw [e1, List.take_length, e2, List.take_length] at this
   simp [this]
 ·refine Sat.done (led_bo ?_)
  have : x ≠ y := fun e => hl (by rw [e])
  simp [this]
theorem sEntryS_rng {x : List GEntry} {n : Int} (hn : 0 ≤ n) : -1 ≤ sEntryS x n ∧ sEntryS x n ≤ n := by
 exact szF_rng hn
theorem w_laws_szEntryS (x : List GEntry) (n : Int) (hb : bEntryS x) (hn : 0 ≤ n ∧ n ≤ 1048576) : Fn Pr n_laws_szEntryS [.sl 7 eGEntry (fun _ => x), .int .i64 (fun _ => n)] (.int .i64 (fun _ => sEntryS x n)) := by
 refine k_laws_szEntryS.fn (by kernel_rfl) ?_
 have h0 : x.length * 56 ≤ 140737488351232 := hb
 conv=>arg 4;cbv
 repeat' first
  | (refine Sat.cmp (fun h => ?_) (fun h => ?_) <;> simp only [Cmp.holds] at h <;> (conv=>arg 4;cbv))
  | (refine Sat.need ndA ?_; conv=>arg 4;cbv)
  | (refine Sat.idxk (by assumption) ?_; conv=>arg 4;cbv) | (refine Sat.idx ndA (fun v_ hv_ => ?_); conv=>arg 4;cbv)
  | (refine Sat.ari64 ndA ndA ?_; conv=>arg 4;cbv)
  | (refine Sat.pop ?_; conv=>arg 4;cbv)
  | refine Sat.done ?_
 all_goals refine .int ?_
 all_goals (simp only [sEntryS, szF, ncast] at *; split <;> omega)
theorem w_laws_eqResult (x y : GResult) : Fn Pr n_laws_eqResult [aGResult x, aGResult y] (.bo (decide (x = y))) := by
 unfold aGResult
 cases hx0 : x.Done <;> cases hy0 : y.Done
 all_goals refine k_laws_eqResult.fn (by kernel_rfl) ?_
 all_goals (conv=>arg 4;cbv)
 repeat' first
  | (refine Sat.cmp (fun h => ?_) (fun h => ?_) <;> simp only [Cmp.holds] at h <;> (conv=>arg 4;cbv))
  | (refine Sat.need ndA ?_; conv=>arg 4;cbv)
  | (refine Sat.idxk (by assumption) ?_; conv=>arg 4;cbv) | (refine Sat.idx ndA (fun v_ hv_ => ?_); conv=>arg 4;cbv)
  | (refine Sat.ari64 ndA ndA ?_; conv=>arg 4;cbv)
  | (refine Sat.pop ?_; conv=>arg 4;cbv)
  | refine Sat.done ?_
 all_goals refine led_bo ?_
 all_goals (cases x; cases y; simp_all)
theorem w_laws_eqSession (x y : GSession) : Fn Pr n_laws_eqSession [aGSession x, aGSession y] (.bo (decide (x = y))) := by
 refine k_laws_eqSession.fn (by kernel_rfl) ?_
 conv=>arg 4;cbv
 repeat' first
  | (refine Sat.cmp (fun h => ?_) (fun h => ?_) <;> simp only [Cmp.holds] at h <;> (conv=>arg 4;cbv))
  | (refine Sat.callb (w_laws_eqResult x.Result y.Result) rfl ledA (fun h => ?_) (fun h => ?_) <;> (try simp only [decide_eq_true_eq, decide_eq_false_iff_not] at h) <;> (conv=>arg 4;cbv))
  | (refine Sat.need ndA ?_; conv=>arg 4;cbv)
  | (refine Sat.idxk (by assumption) ?_; conv=>arg 4;cbv) | (refine Sat.idx ndA (fun v_ hv_ => ?_); conv=>arg 4;cbv)
  | (refine Sat.ari64 ndA ndA ?_; conv=>arg 4;cbv)
  | (refine Sat.pop ?_; conv=>arg 4;cbv)
  | refine Sat.done ?_
 all_goals refine led_bo ?_
 all_goals (cases x; cases y; simp_all)
def bSessionS (x : List GSession) : Prop := x.length * 32 ≤ 140737488351232
theorem w_laws_eqSessionS (x y : List GSession) (hb : bSessionS x) : Fn Pr n_laws_eqSessionS [.sl 4 eGSession (fun _ => x), .sl 4 eGSession (fun _ => y)] (.bo (decide (x = y))) := by
 refine k_laws_eqSessionS.fn (by kernel_rfl) ?_
 have h0 : x.length * 32 ≤ 140737488351232 := hb
 conv=>arg 4;cbv
 refine Sat.cmp (fun hl => ?_) (fun hl => ?_) <;> simp only [Cmp.holds] at hl <;> (conv=>arg 4;cbv)
 ·refine Sat.loopP (ι := Nat) (fun i => [(5, .int .i64 (fun _ => (i : Int)))]) (fun i => []) (fun i => i ≤ x.length ∧ x.take i = y.take i) (fun i => x.length - i) 0 ?_ ⟨by omega, by simp⟩ (fun i hi => ?_)
  ·exact lesA
  conv=>arg 4;cbv
  repeat' first
   | (refine Sat.cmp (fun h => ?_) (fun h => ?_) <;> simp only [Cmp.holds] at h <;> (conv=>arg 4;cbv))
   | (refine Sat.need ndA ?_; conv=>arg 4;cbv)
   | (refine Sat.idxk (by assumption) ?_; conv=>arg 4;cbv) | (refine Sat.idx ndA (fun v_ hv_ => ?_); conv=>arg 4;cbv)
   | (refine Sat.callb (w_laws_eqSession _ _) rfl ledA (fun h => ?_) (fun h => ?_) <;> (try simp only [decide_eq_true_eq, decide_eq_false_iff_not] at h) <;> (conv=>arg 4;cbv))
   | (refine Sat.ari64 ndA ndA ?_; conv=>arg 4;cbv)
   | (refine Sat.pop ?_; conv=>arg 4;cbv)
   | refine Sat.next (i + 1) ?_ ?_ (by (try dsimp only); exact arA)
   | refine Sat.done (led_bo (Eq.symm (decide_eq_false (ne_of_get (by assumption) (by assumption) (fun e => by subst e; first | contradiction | (simp_all; done))))))
   | refine Sat.done ?_
  ·exact lesA
  ·exact ⟨by exact arA, take_ext (by assumption) (by assumption) hi.2 (by first | assumption | (apply GSession.ext <;> first | assumption | (apply GResult.ext <;> assumption)))⟩
  ·refine led_bo ?_
   have e1 : i = x.length := by exact arA
   have e2 : x.length = y.length := by exact arA
   have := hi.2
   rw [e1, List.take_length, e2, List.take_length] at this
   simp [this]
 ·refine Sat.done (led_bo ?_)
  have : x ≠ y := fun e => hl (by rw [e])
  simp [this]
def bMachine (x : GMachine) : Prop := bIntS x.Objects ∧ bSessionS x.Sessions
theorem w_laws_eqMachine (x y : GMachine) (hb : bMachine x) : Fn Pr n_laws_eqMachine [aGMachine x, aGMachine y] (.bo (decide (x = y))) := by
 refine k_laws_eqMachine.fn (by kernel_rfl) ?_
 conv=>arg 4;cbv
 repeat' first
  | (refine Sat.cmp (fun h => ?_) (fun h => ?_) <;> simp only [Cmp.holds] at h <;> (conv=>arg 4;cbv))
  | (refine Sat.callb (w_laws_eqIntS x.Objects y.Objects hb.1) rfl ledA (fun h => ?_) (fun h => ?_) <;> (try simp only [decide_eq_true_eq, decide_eq_false_iff_not] at h) <;> (conv=>arg 4;cbv))
  | (refine Sat.callb (w_laws_eqSessionS x.Sessions y.Sessions hb.2) rfl ledA (fun h => ?_) (fun h => ?_) <;> (try simp only [decide_eq_true_eq, decide_eq_false_iff_not] at h) <;> (conv=>arg 4;cbv))
  | (refine Sat.need ndA ?_; conv=>arg 4;cbv)
  | (refine Sat.idxk (by assumption) ?_; conv=>arg 4;cbv) | (refine Sat.idx ndA (fun v_ hv_ => ?_); conv=>arg 4;cbv)
  | (refine Sat.ari64 ndA ndA ?_; conv=>arg 4;cbv)
  | (refine Sat.pop ?_; conv=>arg 4;cbv)
  | refine Sat.done ?_
 all_goals refine led_bo ?_
 all_goals (cases x; cases y; simp_all)
def bSnapshot (x : GSnapshot) : Prop := bMachine x.Machine
theorem w_laws_eqSnapshot (x y : GSnapshot) (hb : bSnapshot x) : Fn Pr n_laws_eqSnapshot [aGSnapshot x, aGSnapshot y] (.bo (decide (x = y))) := by
 refine k_laws_eqSnapshot.fn (by kernel_rfl) ?_
 conv=>arg 4;cbv
 repeat' first
  | (refine Sat.cmp (fun h => ?_) (fun h => ?_) <;> simp only [Cmp.holds] at h <;> (conv=>arg 4;cbv))
  | (refine Sat.callb (w_laws_eqMachine x.Machine y.Machine hb) rfl ledA (fun h => ?_) (fun h => ?_) <;> (try simp only [decide_eq_true_eq, decide_eq_false_iff_not] at h) <;> (conv=>arg 4;cbv))
  | (refine Sat.need ndA ?_; conv=>arg 4;cbv)
  | (refine Sat.idxk (by assumption) ?_; conv=>arg 4;cbv) | (refine Sat.idx ndA (fun v_ hv_ => ?_); conv=>arg 4;cbv)
  | (refine Sat.ari64 ndA ndA ?_; conv=>arg 4;cbv)
  | (refine Sat.pop ?_; conv=>arg 4;cbv)
  | refine Sat.done ?_
 all_goals refine led_bo ?_
 all_goals (cases x; cases y; simp_all)
def idxF {α : Type} (p : α → Bool) : List α → Int
 | [] => -1
 | x :: r => if p x = true then 0 else if idxF p r < 0 then -1 else idxF p r + 1
theorem idxF_any {α : Type} {p : α → Bool} : ∀ {l : List α}, (0 ≤ idxF p l ↔ l.any p = true) ∧ -1 ≤ idxF p l
 | [] => by simp [idxF]
 | x :: r => by
   have := idxF_any (p := p) (l := r)
   rw [idxF, List.any_cons]
   by_cases h : p x = true
   ·simp [h]
   ·rw [if_neg h]
    simp only [Bool.not_eq_true] at h
    rw [h, Bool.false_or, ← this.1]
    split <;> omega
theorem idxF_step {α : Type} {p : α → Bool} {l : List α} {i : Nat} {x : α} (hx : l[i]? = some x) {k : Int} (h : k = if idxF p (l.drop i) < 0 then -1 else idxF p (l.drop i) + i) (hp : p x = false) : k = if idxF p (l.drop (i + 1)) < 0 then -1 else idxF p (l.drop (i + 1)) + (i + 1 : Nat) := by
 simp only [drop_get hx, idxF, hp, Bool.false_eq_true, if_false] at h
 rw [h]
 have := (idxF_any (p := p) (l := l.drop (i + 1))).2
 split <;> split <;> omega
theorem idxF_hit {α : Type} {p : α → Bool} {l : List α} {i : Nat} {x : α} (hx : l[i]? = some x) {k : Int} (h : k = if idxF p (l.drop i) < 0 then -1 else idxF p (l.drop i) + i) (hp : p x = true) : (i : Int) = k := by
 rw [drop_get hx, idxF, if_pos hp] at h
 rw [h]
 simp
def okOp (o : GOp) : Bool := decide ((0 ≤ o.Client ∧ o.Client ≤ 2) ∧ (1 ≤ o.Seq ∧ o.Seq ≤ 99) ∧ (0 ≤ o.Object ∧ o.Object ≤ 2) ∧ (0 ≤ o.Value ∧ o.Value ≤ 9) ∧ ((o.Kind = 1 ∧ o.Old = 0) ∨ (o.Kind = 2 ∧ 0 ≤ o.Old ∧ o.Old ≤ 9)))
theorem w_impl_IsValidOp (o : GOp) : Fn Pr n_impl_IsValidOp [aGOp o] (.bo (okOp o)) := by
 refine k_impl_IsValidOp.fn (by kernel_rfl) ?_
 conv=>arg 4;cbv
 repeat' first
  | (refine Sat.cmp (fun h => ?_) (fun h => ?_) <;> simp only [Cmp.holds] at h <;> (conv=>arg 4;cbv))
  | (refine Sat.callb (w_impl_within _ _ _) rfl ledA (fun h => ?_) (fun h => ?_) <;> (try simp only [decide_eq_true_eq, decide_eq_false_iff_not] at h) <;> (conv=>arg 4;cbv))
  | (refine Sat.need ndA ?_; conv=>arg 4;cbv)
  | (refine Sat.idxk (by assumption) ?_; conv=>arg 4;cbv) | (refine Sat.idx ndA (fun v_ hv_ => ?_); conv=>arg 4;cbv)
  | (refine Sat.ari64 ndA ndA ?_; conv=>arg 4;cbv)
  | (refine Sat.pop ?_; conv=>arg 4;cbv)
  | refine Sat.done ?_
 all_goals refine led_bo ?_
 all_goals (simp only [okOp]; first | (refine (decide_eq_true ?_).symm; omega) | (refine (decide_eq_false ?_).symm; omega))
theorem w_spec_IsValidOp (o : GOp) : Fn Pr n_spec_IsValidOp [aGOp o] (.bo (okOp o)) := by
 refine k_spec_IsValidOp.fn (by kernel_rfl) ?_
 conv=>arg 4;cbv
 repeat' first
  | (refine Sat.cmp (fun h => ?_) (fun h => ?_) <;> simp only [Cmp.holds] at h <;> (conv=>arg 4;cbv))
  | (refine Sat.callb (w_spec_l1In _ _ _) rfl ledA (fun h => ?_) (fun h => ?_) <;> (try simp only [decide_eq_true_eq, decide_eq_false_iff_not] at h) <;> (conv=>arg 4;cbv))
  | (refine Sat.need ndA ?_; conv=>arg 4;cbv)
  | (refine Sat.idxk (by assumption) ?_; conv=>arg 4;cbv) | (refine Sat.idx ndA (fun v_ hv_ => ?_); conv=>arg 4;cbv)
  | (refine Sat.ari64 ndA ndA ?_; conv=>arg 4;cbv)
  | (refine Sat.pop ?_; conv=>arg 4;cbv)
  | refine Sat.done ?_
 all_goals refine led_bo ?_
 all_goals (simp only [okOp]; first | (refine (decide_eq_true ?_).symm; omega) | (refine (decide_eq_false ?_).symm; omega))
def okLogFrom (p : Int) : List GEntry → Bool
 | [] => true
 | e :: r => decide (1 ≤ e.Epoch ∧ e.Epoch ≤ 20) && okOp e.Op && decide (p ≤ e.Epoch) && okLogFrom e.Epoch r
def isLog (l : List GEntry) : Bool := okLogFrom 0 l && decide (l.length ≤ 16)
def prevE (l : List GEntry) : Nat → Int
 | 0 => 0
 | i + 1 => match l[i]? with | some e => e.Epoch | none => 0
theorem prevE_get {l : List GEntry} {i : Nat} {e : GEntry} (h : l[i]? = some e) : prevE l (i + 1) = e.Epoch := by simp [prevE, h]
theorem okLog_step {l : List GEntry} {i : Nat} {e : GEntry} {b : Bool} (hb : b = okLogFrom (prevE l i) (l.drop i)) (h : l[i]? = some e) (h1 : 1 ≤ e.Epoch ∧ e.Epoch ≤ 20) (h2 : okOp e.Op = true) (h3 : prevE l i ≤ e.Epoch) : b = okLogFrom (prevE l (i + 1)) (l.drop (i + 1)) := by
 rw [hb, drop_get h, okLogFrom, prevE_get h, h2, decide_eq_true h1, decide_eq_true h3]
 simp
theorem okLog_bad {l : List GEntry} {i : Nat} {e : GEntry} {b : Bool} (hb : b = okLogFrom (prevE l i) (l.drop i)) (h : l[i]? = some e) (hn : ¬ ((1 ≤ e.Epoch ∧ e.Epoch ≤ 20) ∧ okOp e.Op = true ∧ prevE l i ≤ e.Epoch)) : b = false := by
 rw [hb, drop_get h, okLogFrom]
 cases e1 : okOp e.Op with
 | false => simp
 | true =>
   by_cases h1 : 1 ≤ e.Epoch ∧ e.Epoch ≤ 20
   ·by_cases h3 : prevE l i ≤ e.Epoch
    ·exact absurd ⟨h1, e1, h3⟩ hn
    ·rw [decide_eq_false h3]; simp
   ·rw [decide_eq_false h1]; simp
theorem okLog_end {l : List GEntry} {i : Nat} {b : Bool} (hb : b = okLogFrom (prevE l i) (l.drop i)) (h : i = l.length) : b = true := by
 rw [hb, h, List.drop_length, okLogFrom]
theorem prevE_zero {l : List GEntry} {i : Nat} (h : i = 0) : prevE l i = 0 := by subst h; rfl
theorem prevE_pos {l : List GEntry} {i j : Nat} {e : GEntry} (h : l[j]? = some e) (hj : i = j + 1) : prevE l i = e.Epoch := by subst hj; exact prevE_get h
theorem w_spec_IsLog (l : List GEntry) (hb : bEntryS l) : Fn Pr n_spec_IsLog [.sl 7 eGEntry (fun _ => l)] (.bo (isLog l)) := by
 refine k_spec_IsLog.fn (by kernel_rfl) ?_
 have h0 : l.length * 56 ≤ 140737488351232 := hb
 conv=>arg 4;cbv
 refine Sat.loopP (ι := Nat) (fun i => [(3, .int .i64 (fun _ => (i : Int)))]) (fun i => []) (fun i => i ≤ l.length ∧ okLogFrom 0 l = okLogFrom (prevE l i) (l.drop i)) (fun i => l.length - i) 0 ?_ ⟨by omega, by simp [prevE]⟩ (fun i hi => ?_)
 ·exact lesA
 conv=>arg 4;cbv
 repeat' first
  | (refine Sat.cmp (fun h => ?_) (fun h => ?_) <;> simp only [Cmp.holds] at h <;> (conv=>arg 4;cbv))
  | (refine Sat.need ndA ?_; conv=>arg 4;cbv)
  | (refine Sat.idxk (by assumption) ?_; conv=>arg 4;cbv) | (refine Sat.idx ndA (fun v_ hv_ => ?_); conv=>arg 4;cbv)
  | (refine Sat.callb (w_spec_l1In _ _ _) rfl ledA (fun h => ?_) (fun h => ?_) <;> (try simp only [decide_eq_true_eq, decide_eq_false_iff_not] at h) <;> (conv=>arg 4;cbv))
  | (refine Sat.callb (w_spec_IsValidOp (GEntry.Op _)) rfl ledA (fun h => ?_) (fun h => ?_) <;> (conv=>arg 4;cbv))
  | (refine Sat.ari64 ndA ndA ?_; conv=>arg 4;cbv)
  | (refine Sat.pop ?_; conv=>arg 4;cbv)
  | refine Sat.next (i + 1) ?_ ?_ (by (try dsimp only); exact arA)
  | refine Sat.done ?_
 ·refine led_bo ?_
  rw [isLog, okLog_bad (i := i) hi.2 (by assumption) (fun q => by have := prevE_pos (l := l) (i := i) hv_ (by exact arA); omega)]; rfl
 ·exact lesA
 ·have := prevE_pos (l := l) (i := i) hv_ (by exact arA)
  exact ⟨by exact arA, okLog_step hi.2 (by assumption) (by assumption) (by assumption) (by omega)⟩
 ·exact lesA
 ·have := prevE_zero (l := l) (i := i) (by exact arA)
  exact ⟨by exact arA, okLog_step hi.2 (by assumption) (by assumption) (by assumption) (by omega)⟩
 ·refine led_bo ?_
  rw [isLog, okLog_bad (i := i) hi.2 (by assumption) (fun q => by simp_all)]; rfl
 ·refine led_bo ?_
  rw [isLog, okLog_bad (i := i) hi.2 (by assumption) (fun q => h q.1)]; rfl
 all_goals
  refine led_bo ?_
  rw [isLog, okLog_end hi.2 (by exact arA), Bool.true_and]
  simp only [ncast] at h
 ·exact (decide_eq_true (by omega)).symm
 ·exact (decide_eq_false (by omega)).symm
theorem w_impl_IsLog (l : List GEntry) (hb : bEntryS l) : Fn Pr n_impl_IsLog [.sl 7 eGEntry (fun _ => l)] (.bo (isLog l)) := by
 refine k_impl_IsLog.fn (by kernel_rfl) ?_
 have h0 : l.length * 56 ≤ 140737488351232 := hb
 conv=>arg 4;cbv
 refine Sat.loopP (ι := Nat) (fun i => [(7, .int .i64 (fun _ => (i : Int)))]) (fun i => []) (fun i => i ≤ l.length ∧ okLogFrom 0 l = okLogFrom (prevE l i) (l.drop i)) (fun i => l.length - i) 0 ?_ ⟨by omega, by simp [prevE]⟩ (fun i hi => ?_)
 ·exact lesA
 conv=>arg 4;cbv
 repeat' first
  | (refine Sat.cmp (fun h => ?_) (fun h => ?_) <;> simp only [Cmp.holds] at h <;> (conv=>arg 4;cbv))
  | (refine Sat.need ndA ?_; conv=>arg 4;cbv)
  | (refine Sat.idxk (by assumption) ?_; conv=>arg 4;cbv) | (refine Sat.idx ndA (fun v_ hv_ => ?_); conv=>arg 4;cbv)
  | (refine Sat.callb (w_impl_within _ _ _) rfl ledA (fun h => ?_) (fun h => ?_) <;> (try simp only [decide_eq_true_eq, decide_eq_false_iff_not] at h) <;> (conv=>arg 4;cbv))
  | (refine Sat.callb (w_impl_IsValidOp (GEntry.Op _)) rfl ledA (fun h => ?_) (fun h => ?_) <;> (conv=>arg 4;cbv))
  | (refine Sat.ari64 ndA ndA ?_; conv=>arg 4;cbv)
  | (refine Sat.pop ?_; conv=>arg 4;cbv)
  | refine Sat.next (i + 1) ?_ ?_ (by (try dsimp only); exact arA)
  | refine Sat.done ?_
 ·refine led_bo ?_
  rw [isLog, okLog_bad (i := i) hi.2 (by assumption) (fun q => by have := prevE_pos (l := l) (i := i) hv_ (by exact arA); omega)]; rfl
 ·exact lesA
 ·have := prevE_pos (l := l) (i := i) hv_ (by exact arA)
  exact ⟨by exact arA, okLog_step hi.2 (by assumption) (by assumption) (by assumption) (by omega)⟩
 ·refine led_bo ?_
  rw [isLog, okLog_bad (i := i) hi.2 (by assumption) (fun q => by have := q.2.1; simp_all)]; rfl
 ·exact lesA
 ·have := prevE_zero (l := l) (i := i) (by exact arA)
  exact ⟨by exact arA, okLog_step hi.2 (by assumption) (by assumption) (by assumption) (by omega)⟩
 ·refine led_bo ?_
  rw [isLog, okLog_bad (i := i) hi.2 (by assumption) (fun q => by have := q.2.1; simp_all)]; rfl
 ·refine led_bo ?_
  rw [isLog, okLog_bad (i := i) hi.2 (by assumption) (fun q => h q.1)]; rfl
 all_goals
  refine led_bo ?_
  rw [isLog, okLog_end hi.2 (by exact arA), Bool.true_and]
  simp only [ncast] at h
 ·exact (decide_eq_true (by omega)).symm
 ·exact (decide_eq_false (by omega)).symm
def fOp (x : GOp) : Prop := (Lit.int .i64 x.Client).wf = true ∧ (Lit.int .i64 x.Seq).wf = true ∧ (Lit.int .i64 x.Kind).wf = true ∧ (Lit.int .i64 x.Object).wf = true ∧ (Lit.int .i64 x.Old).wf = true ∧ (Lit.int .i64 x.Value).wf = true
def fEntryS (l : List GEntry) : Prop := (l.length ≤ maxLen ∧ l.length * 56 ≤ 140737488351232 ∧ ∀ y ∈ l, ((Lit.int .i64 y.Epoch).wf = true ∧ fOp y.Op))
def cpre : List GEntry → List GEntry → Nat
 | a :: r, b :: q => if a = b then cpre r q + 1 else 0
 | _, _ => 0
theorem cpre_le : ∀ (a b : List GEntry), cpre a b ≤ a.length ∧ cpre a b ≤ b.length
 | [], b => by simp [cpre]
 | a :: r, [] => by simp [cpre]
 | a :: r, b :: q => by
   have := cpre_le r q
   rw [cpre]
   split <;> simp <;> omega
theorem cpre_all : ∀ {a b : List GEntry}, a.length = b.length → (cpre a b = a.length ↔ a = b)
 | [], b, h => by
   cases b with
   | nil => simp [cpre]
   | cons => simp at h
 | a :: r, [], h => by simp at h
 | a :: r, b :: q, h => by
   have := cpre_all (a := r) (b := q) (by simpa using h)
   rw [cpre]
   split
   ·rename_i e; subst e; simp [this]
   ·rename_i e; simp [e]
theorem cpre_step {a b : List GEntry} {i k : Nat} {x y : GEntry} (h : k = i + cpre (a.drop i) (b.drop i)) (hx : a[i]? = some x) (hy : b[i]? = some y) (e : x = y) : k = i + 1 + cpre (a.drop (i + 1)) (b.drop (i + 1)) := by
 rw [h, drop_get hx, drop_get hy, cpre, if_pos e]; omega
theorem cpre_stop {a b : List GEntry} {i k : Nat} {x y : GEntry} (h : k = i + cpre (a.drop i) (b.drop i)) (hx : a[i]? = some x) (hy : b[i]? = some y) (e : ¬ x = y) : k = i := by
 rw [h, drop_get hx, drop_get hy, cpre, if_neg e]; omega
theorem cpre_end {a b : List GEntry} {i k : Nat} (h : k = i + cpre (a.drop i) (b.drop i)) (hl : a.length ≤ i ∨ b.length ≤ i) : k = i := by
 have := cpre_le (a.drop i) (b.drop i)
 simp only [List.length_drop] at this
 omega
theorem cpre_iff {a b : List GEntry} : a = b ↔ ((a.length : Int) = (b.length : Int) ∧ cpre a b = a.length) := by
 constructor
 ·intro h
  exact ⟨by rw [h], (cpre_all (by rw [h])).2 h⟩
 ·intro h
  exact (cpre_all (by omega)).1 h.2
def genL {α : Type} (f : Nat → α) (n : Nat) : List α := (List.range n).map f
@[simp] theorem genL_length {α : Type} {f : Nat → α} {n : Nat} : (genL f n).length = n := by simp [genL]
theorem gen_get {α : Type} {f : Nat → α} {n i : Nat} (h : i < n) : (genL f n)[i]? = some (f i) := by simp [genL, h]
theorem set_self {α : Type} {l : List α} {i : Nat} {z : α} (h : i < l.length) : (setAt l i z)[i]? = some z := by simp [setAt, h]
theorem gen_set {α : Type} {f : Nat → α} {l : List α} {i : Nat} (h : i < l.length) : setAt (genL f i ++ l.drop i) i (f i) = genL f (i + 1) ++ l.drop (i + 1) := by
 rw [setAt, List.set_append_right _ _ (by simp)]
 simp only [genL_length, Nat.sub_self]
 rw [List.drop_eq_getElem_cons h, List.set_cons_zero]
 simp [genL, List.range_succ]
theorem held_k {c : Prop} [Decidable c] {a : Int} (h : ¬ (if c then a else -1) < 0) : (if c then a else -1) = a := by
 by_cases e : c
 ·rw [if_pos e]
 ·rw [if_neg e] at h; omega
theorem Sat.typedG {P : Program} {Q : AV → Prop} {As : List (St → Prop)} {α : Type} {sz : Nat} {enc : α → Nat → AV} {cells : List AV} {c : α → Tree} (z0 : α) (h : ∀ (j : Nat) (x : AV), cells[j]? = some x → LeD x (enc z0 j)) (hc : ∀ z, z = z0 → Sat P Q As (c z)) : Sat P Q As (.typed sz enc cells c) := .typed z0 h (hc z0 rfl)
theorem set_set {α : Type} {l : List α} {i : Nat} {a b : α} : setAt (setAt l i a) i b = setAt l i b := by simp [setAt]
def mkInt (k : Int) : Int := k
def mkIntS (k : Int) (n : Nat) : List Int := genL (fun i => mkInt (k + 1 * i)) n
@[simp] theorem mkIntS_length {k : Int} {n : Nat} : (mkIntS k n).length = n := genL_length
theorem w_laws_markIntS (x : List Int) (k : Int) (hb : bIntS x) (hk : 0 ≤ k ∧ k ≤ 1152921504606846976) : FnM Pr n_laws_markIntS [.ptr 0 0, .int .i64 (fun _ => k)] [.sl 1 (encI .i64) (fun _ => x)] (.agg [.int .i64 (fun _ => k + 1 * (x.length : Int))]) [.sl 1 (encI .i64) (fun _ => mkIntS k x.length)] := by
 refine k_laws_markIntS.fnm (by kernel_rfl) ⟨.mk (by simp [mkIntS]), trivial⟩ ?_
 have h0 : x.length * 8 ≤ 140737488351232 := hb
 conv=>arg 4;cbv
 refine Sat.loopP (ι := Nat) (fun i => [(5, .int .i64 (fun _ => (i : Int))), (1, .int .i64 (fun _ => k + 1 * (i : Int)))]) (fun i => [(0, .row 1 (encI .i64) (fun _ => mkIntS k i ++ x.drop i) true)]) (fun i => i ≤ x.length) (fun i => x.length - i) 0 ?_ (by omega) (fun i hi => ?_)
 ·refine les_of ?_ ?_ rfl
  iterate 2 (focus repeat' (first | exact trivial | refine And.intro ?_ ?_ | exact levA | refine lev_cons ?_ ?_ | refine LeV.agg rfl ?_ | exact Nat.le_of_ble_eq_true rfl | exact Or.inl ⟨_, rfl, .row rfl⟩ | refine Or.inl ⟨_, rfl, .row ?_⟩ | refine Or.inl ⟨_, rfl, .lit rfl ?_⟩ | exact Or.inr ⟨rfl, rfl⟩ | (first | exact .int (by (try dsimp only); exact arA) | (simp [mkIntS, genL]; done))))
 have hl0 : (mkIntS k i ++ x.drop i).length = x.length := by simp [mkIntS]; omega
 conv=>arg 4;cbv
 repeat' first
  | (refine Sat.cmp (fun h => ?_) (fun h => ?_) <;> simp only [Cmp.holds] at h <;> (conv=>arg 4;cbv))
  | (refine Sat.need ndA ?_; conv=>arg 4;cbv)
  | (refine Sat.idxk (set_self (by (try dsimp only); (try simp only [setAt, List.length_set]); first | omega | (simp only [ncast] at *; omega))) ?_; conv=>arg 4;cbv)
  | (refine Sat.idxk (by assumption) ?_; conv=>arg 4;cbv) | (refine Sat.idx ndA (fun v_ hv_ => ?_); conv=>arg 4;cbv)
  | (refine Sat.ari64 ndA ndA ?_; conv=>arg 4;cbv)
  | (refine Sat.pop ?_; conv=>arg 4;cbv)
  | (refine Sat.typedG (k + 1 * (i : Int)) (by (repeat' (first | exact tnil | refine tcons ?_ ?_ | exact .same _ | exact .int rfl | exact .str rfl | exact .sl rfl | exact .nil rfl | (refine .sl ?_; simp; done))); (first | done | fail)) (fun v_ hz_ => ?_); conv=>arg 4;cbv)
  | refine Sat.next (i + 1) ?_ (by (try dsimp only); exact arA) (by exact arA)
  | refine Sat.done ?_
 ·subst_vars
  refine les_of ?_ ?_ rfl
  iterate 2 (focus repeat' (first | exact trivial | refine And.intro ?_ ?_ | exact levA | refine lev_cons ?_ ?_ | refine LeV.agg rfl ?_ | exact Nat.le_of_ble_eq_true rfl | exact Or.inl ⟨_, rfl, .row rfl⟩ | refine Or.inl ⟨_, rfl, .row ?_⟩ | refine Or.inl ⟨_, rfl, .lit rfl ?_⟩ | exact Or.inr ⟨rfl, rfl⟩ | (first | exact .int (by (try dsimp only); exact arA) | (simp only [Int.toNat_natCast, Nat.zero_add, set_set]; exact gen_set (by exact arA)))))
 ·refine .tup rfl (led_cons ?_ (led_cons ?_ led_nil))
  ·refine .agg rfl (led_cons (.int ?_) led_nil)
   exact arA
  ·refine .sl ?_
   have e : i = x.length := by exact arA
   subst e
   simp
theorem w_laws_heldIntS (x : List Int) (k : Int) (hb : bIntS x) (hk : 0 ≤ k ∧ k ≤ 1152921504606846976) : Fn Pr n_laws_heldIntS [.sl 1 (encI .i64) (fun _ => x), .int .i64 (fun _ => k)] (.int .i64 (fun _ => if mkIntS k x.length = x then k + 1 * (x.length : Int) else -1)) := by
 refine k_laws_heldIntS.fn (by kernel_rfl) ?_
 have h0 : x.length * 8 ≤ 140737488351232 := hb
 conv=>arg 4;cbv
 refine Sat.loopP (ι := Nat) (fun i => [(5, .int .i64 (fun _ => (i : Int))), (1, .int .i64 (fun _ => k + 1 * (i : Int)))]) (fun i => []) (fun i => i ≤ x.length ∧ x.take i = (mkIntS k x.length).take i) (fun i => x.length - i) 0 ?_ ⟨by omega, by simp⟩ (fun i hi => ?_)
 ·refine les_of ?_ ?_ rfl
  iterate 2 (focus repeat' (first | exact trivial | refine And.intro ?_ ?_ | exact levA | refine lev_cons ?_ ?_ | refine LeV.agg rfl ?_ | exact Nat.le_of_ble_eq_true rfl | exact Or.inl ⟨_, rfl, .row rfl⟩ | refine Or.inl ⟨_, rfl, .row ?_⟩ | refine Or.inl ⟨_, rfl, .lit rfl ?_⟩ | exact Or.inr ⟨rfl, rfl⟩ | (exact .int (by (try dsimp only); exact arA))))
 conv=>arg 4;cbv
 repeat' first
  | (refine Sat.cmp (fun h => ?_) (fun h => ?_) <;> simp only [Cmp.holds] at h <;> (conv=>arg 4;cbv))
  | (refine Sat.need ndA ?_; conv=>arg 4;cbv)
  | (refine Sat.idxk (by assumption) ?_; conv=>arg 4;cbv) | (refine Sat.idx ndA (fun v_ hv_ => ?_); conv=>arg 4;cbv)
  | (refine Sat.ari64 ndA ndA ?_; conv=>arg 4;cbv)
  | (refine Sat.pop ?_; conv=>arg 4;cbv)
  | refine Sat.next (i + 1) ?_ ?_ (by (try dsimp only); exact arA)
  | refine Sat.done (.int (Eq.symm (if_neg (fun q => ne_of_get (by assumption) (gen_get (by exact arA)) (fun e => by subst e; exact h rfl) q.symm))))
  | refine Sat.done ?_
 ·refine les_of ?_ ?_ rfl
  iterate 2 (focus repeat' (first | exact trivial | refine And.intro ?_ ?_ | exact levA | refine lev_cons ?_ ?_ | refine LeV.agg rfl ?_ | exact Nat.le_of_ble_eq_true rfl | exact Or.inl ⟨_, rfl, .row rfl⟩ | refine Or.inl ⟨_, rfl, .row ?_⟩ | refine Or.inl ⟨_, rfl, .lit rfl ?_⟩ | exact Or.inr ⟨rfl, rfl⟩ | (exact .int (by (try dsimp only); exact arA))))
 ·exact ⟨by exact arA, take_ext (by assumption) (gen_get (by exact arA)) hi.2 (by assumption)⟩
 ·refine .int ?_
  have e1 : i = x.length := by exact arA
  have e2 := hi.2
  rw [e1, List.take_length, List.take_of_length_le (by simp [mkIntS])] at e2
  rw [if_pos e2.symm]
  exact arA
def mkEntry (k : Int) : GEntry := ⟨k, ⟨k + 1, k + 1 + 1, k + 1 + 1 + 1, k + 1 + 1 + 1 + 1, k + 1 + 1 + 1 + 1 + 1, k + 1 + 1 + 1 + 1 + 1 + 1⟩⟩
def mkEntryS (k : Int) (n : Nat) : List GEntry := genL (fun i => mkEntry (k + 7 * i)) n
@[simp] theorem mkEntryS_length {k : Int} {n : Nat} : (mkEntryS k n).length = n := genL_length
theorem w_laws_markEntryS (x : List GEntry) (k : Int) (hb : bEntryS x) (hk : 0 ≤ k ∧ k ≤ 1152921504606846976) : FnM Pr n_laws_markEntryS [.ptr 0 0, .int .i64 (fun _ => k)] [.sl 7 eGEntry (fun _ => x)] (.agg [.int .i64 (fun _ => k + 7 * (x.length : Int))]) [.sl 7 eGEntry (fun _ => mkEntryS k x.length)] := by
 refine k_laws_markEntryS.fnm (by kernel_rfl) ⟨.mk (by simp [mkEntryS]), trivial⟩ ?_
 have h0 : x.length * 56 ≤ 140737488351232 := hb
 conv=>arg 4;cbv
 refine Sat.loopP (ι := Nat) (fun i => [(5, .int .i64 (fun _ => (i : Int))), (1, .int .i64 (fun _ => k + 7 * (i : Int)))]) (fun i => [(0, .row 7 eGEntry (fun _ => mkEntryS k i ++ x.drop i) true)]) (fun i => i ≤ x.length) (fun i => x.length - i) 0 ?_ (by omega) (fun i hi => ?_)
 ·refine les_of ?_ ?_ rfl
  iterate 2 (focus repeat' (first | exact trivial | refine And.intro ?_ ?_ | exact levA | refine lev_cons ?_ ?_ | refine LeV.agg rfl ?_ | exact Nat.le_of_ble_eq_true rfl | exact Or.inl ⟨_, rfl, .row rfl⟩ | refine Or.inl ⟨_, rfl, .row ?_⟩ | refine Or.inl ⟨_, rfl, .lit rfl ?_⟩ | exact Or.inr ⟨rfl, rfl⟩ | (first | exact .int (by (try dsimp only); exact arA) | (simp [mkEntryS, genL]; done))))
 have hl0 : (mkEntryS k i ++ x.drop i).length = x.length := by simp [mkEntryS]; omega
 conv=>arg 4;cbv
 repeat' first
  | (refine Sat.cmp (fun h => ?_) (fun h => ?_) <;> simp only [Cmp.holds] at h <;> (conv=>arg 4;cbv))
  | (refine Sat.need ndA ?_; conv=>arg 4;cbv)
  | (refine Sat.idxk (set_self (by (try dsimp only); (try simp only [setAt, List.length_set]); first | omega | (simp only [ncast] at *; omega))) ?_; conv=>arg 4;cbv)
  | (refine Sat.idxk (by assumption) ?_; conv=>arg 4;cbv) | (refine Sat.idx ndA (fun v_ hv_ => ?_); conv=>arg 4;cbv)
  | (refine Sat.ari64 ndA ndA ?_; conv=>arg 4;cbv)
  | (refine Sat.pop ?_; conv=>arg 4;cbv)
  | (refine Sat.typedG (⟨v_.Epoch, ⟨v_.Op.Client, v_.Op.Seq, v_.Op.Kind, v_.Op.Object, v_.Op.Old, k + 7 * (i : Int) + 1 + 1 + 1 + 1 + 1 + 1⟩⟩ : GEntry) (by (repeat' (first | exact tnil | refine tcons ?_ ?_ | exact .same _ | exact .int rfl | exact .str rfl | exact .sl rfl | exact .nil rfl | (refine .sl ?_; simp; done))); (first | done | fail)) (fun v_ hz_ => ?_); conv=>arg 4;cbv)
  | (refine Sat.typedG (⟨v_.Epoch, ⟨v_.Op.Client, v_.Op.Seq, v_.Op.Kind, v_.Op.Object, k + 7 * (i : Int) + 1 + 1 + 1 + 1 + 1, v_.Op.Value⟩⟩ : GEntry) (by (repeat' (first | exact tnil | refine tcons ?_ ?_ | exact .same _ | exact .int rfl | exact .str rfl | exact .sl rfl | exact .nil rfl | (refine .sl ?_; simp; done))); (first | done | fail)) (fun v_ hz_ => ?_); conv=>arg 4;cbv)
  | (refine Sat.typedG (⟨v_.Epoch, ⟨v_.Op.Client, v_.Op.Seq, v_.Op.Kind, k + 7 * (i : Int) + 1 + 1 + 1 + 1, v_.Op.Old, v_.Op.Value⟩⟩ : GEntry) (by (repeat' (first | exact tnil | refine tcons ?_ ?_ | exact .same _ | exact .int rfl | exact .str rfl | exact .sl rfl | exact .nil rfl | (refine .sl ?_; simp; done))); (first | done | fail)) (fun v_ hz_ => ?_); conv=>arg 4;cbv)
  | (refine Sat.typedG (⟨v_.Epoch, ⟨v_.Op.Client, v_.Op.Seq, k + 7 * (i : Int) + 1 + 1 + 1, v_.Op.Object, v_.Op.Old, v_.Op.Value⟩⟩ : GEntry) (by (repeat' (first | exact tnil | refine tcons ?_ ?_ | exact .same _ | exact .int rfl | exact .str rfl | exact .sl rfl | exact .nil rfl | (refine .sl ?_; simp; done))); (first | done | fail)) (fun v_ hz_ => ?_); conv=>arg 4;cbv)
  | (refine Sat.typedG (⟨v_.Epoch, ⟨v_.Op.Client, k + 7 * (i : Int) + 1 + 1, v_.Op.Kind, v_.Op.Object, v_.Op.Old, v_.Op.Value⟩⟩ : GEntry) (by (repeat' (first | exact tnil | refine tcons ?_ ?_ | exact .same _ | exact .int rfl | exact .str rfl | exact .sl rfl | exact .nil rfl | (refine .sl ?_; simp; done))); (first | done | fail)) (fun v_ hz_ => ?_); conv=>arg 4;cbv)
  | (refine Sat.typedG (⟨v_.Epoch, ⟨k + 7 * (i : Int) + 1, v_.Op.Seq, v_.Op.Kind, v_.Op.Object, v_.Op.Old, v_.Op.Value⟩⟩ : GEntry) (by (repeat' (first | exact tnil | refine tcons ?_ ?_ | exact .same _ | exact .int rfl | exact .str rfl | exact .sl rfl | exact .nil rfl | (refine .sl ?_; simp; done))); (first | done | fail)) (fun v_ hz_ => ?_); conv=>arg 4;cbv)
  | (refine Sat.typedG (⟨k + 7 * (i : Int), ⟨v_.Op.Client, v_.Op.Seq, v_.Op.Kind, v_.Op.Object, v_.Op.Old, v_.Op.Value⟩⟩ : GEntry) (by (repeat' (first | exact tnil | refine tcons ?_ ?_ | exact .same _ | exact .int rfl | exact .str rfl | exact .sl rfl | exact .nil rfl | (refine .sl ?_; simp; done))); (first | done | fail)) (fun v_ hz_ => ?_); conv=>arg 4;cbv)
  | refine Sat.next (i + 1) ?_ (by (try dsimp only); exact arA) (by exact arA)
  | refine Sat.done ?_
 ·subst_vars
  refine les_of ?_ ?_ rfl
  iterate 2 (focus repeat' (first | exact trivial | refine And.intro ?_ ?_ | exact levA | refine lev_cons ?_ ?_ | refine LeV.agg rfl ?_ | exact Nat.le_of_ble_eq_true rfl | exact Or.inl ⟨_, rfl, .row rfl⟩ | refine Or.inl ⟨_, rfl, .row ?_⟩ | refine Or.inl ⟨_, rfl, .lit rfl ?_⟩ | exact Or.inr ⟨rfl, rfl⟩ | (first | exact .int (by (try dsimp only); exact arA) | (simp only [Int.toNat_natCast, Nat.zero_add, set_set]; exact gen_set (by exact arA)))))
 ·refine .tup rfl (led_cons ?_ (led_cons ?_ led_nil))
  ·refine .agg rfl (led_cons (.int ?_) led_nil)
   exact arA
  ·refine .sl ?_
   have e : i = x.length := by exact arA
   subst e
   simp
theorem flat_encI (k : IntKind) (y : Int) (j : Nat) (hj : j < 1) : flat (encI k y j) = true := rfl
def mkSession (k : Int) : GSession := ⟨k, k + 1, ⟨decide (Int.tmod (k + 1 + 1) 3 = 0), k + 1 + 1 + 1⟩⟩
def mkSessionS (k : Int) (n : Nat) : List GSession := genL (fun i => mkSession (k + 4 * i)) n
@[simp] theorem mkSessionS_length {k : Int} {n : Nat} : (mkSessionS k n).length = n := genL_length
set_option maxHeartbeats 2000000 in
theorem w_laws_markSessionS (x : List GSession) (k : Int) (hb : bSessionS x) (hk : 0 ≤ k ∧ k ≤ 1152921504606846976) : FnM Pr n_laws_markSessionS [.ptr 0 0, .int .i64 (fun _ => k)] [.sl 4 eGSession (fun _ => x)] (.agg [.int .i64 (fun _ => k + 4 * (x.length : Int))]) [.sl 4 eGSession (fun _ => mkSessionS k x.length)] := by
 refine k_laws_markSessionS.fnm (by kernel_rfl) ⟨.mk (by simp [mkSessionS]), trivial⟩ ?_
 have h0 : x.length * 32 ≤ 140737488351232 := hb
 conv=>arg 4;cbv
 refine Sat.loopP (ι := Nat) (fun i => [(5, .int .i64 (fun _ => (i : Int))), (1, .int .i64 (fun _ => k + 4 * (i : Int)))]) (fun i => [(0, .row 4 eGSession (fun _ => mkSessionS k i ++ x.drop i) true)]) (fun i => i ≤ x.length) (fun i => x.length - i) 0 ?_ (by omega) (fun i hi => ?_)
 ·refine les_of ?_ ?_ rfl
  iterate 2 (focus repeat' (first | exact trivial | refine And.intro ?_ ?_ | exact levA | refine lev_cons ?_ ?_ | refine LeV.agg rfl ?_ | exact Nat.le_of_ble_eq_true rfl | exact Or.inl ⟨_, rfl, .row rfl⟩ | refine Or.inl ⟨_, rfl, .row ?_⟩ | refine Or.inl ⟨_, rfl, .lit rfl ?_⟩ | exact Or.inr ⟨rfl, rfl⟩ | (first | exact .int (by (try dsimp only); exact arA) | (simp [mkSessionS, genL]; done))))
 have hl0 : (mkSessionS k i ++ x.drop i).length = x.length := by simp [mkSessionS]; omega
 have eg := gen_set (f := fun i => mkSession (k + 4 * (i : Int))) (l := x) (i := i)
 conv=>arg 4;cbv
 repeat' first
  | (refine Sat.cmp (fun hq => ?_) (fun hq => ?_) <;> simp only [Cmp.holds] at hq <;> (conv=>arg 4;cbv))
  | (refine Sat.need ndA ?_; conv=>arg 4;cbv)
  | (refine Sat.idxk (set_self (by (try dsimp only); (try simp only [setAt, List.length_set]); first | omega | (simp only [ncast] at *; omega))) ?_; conv=>arg 4;cbv)
  | (refine Sat.idxk (by assumption) ?_; conv=>arg 4;cbv) | (refine Sat.idx ndA (fun v_ hv_ => ?_); conv=>arg 4;cbv)
  | (refine Sat.ari64 ndA ndA ?_; conv=>arg 4;cbv)
  | (refine Sat.pop ?_; conv=>arg 4;cbv)
  | (refine Sat.typedG (⟨v_.Client, v_.Seq, ⟨v_.Result.Done, k + 4 * (i : Int) + 1 + 1 + 1⟩⟩ : GSession) (by (repeat' (first | exact tnil | refine tcons ?_ ?_ | exact .same _ | exact .int rfl | exact .str rfl | exact .sl rfl | exact .nil rfl | (refine .sl ?_; simp; done))); (first | done | fail)) (fun v_ hz_ => ?_); conv=>arg 4;cbv)
  | (refine Sat.typedG (⟨v_.Client, v_.Seq, ⟨true, v_.Result.Value⟩⟩ : GSession) (by (repeat' (first | exact tnil | refine tcons ?_ ?_ | exact .same _ | exact .int rfl | exact .str rfl | exact .sl rfl | exact .nil rfl | (refine .sl ?_; simp; done))); (first | done | fail)) (fun v_ hz_ => ?_); conv=>arg 4;cbv)
  | (refine Sat.typedG (⟨v_.Client, v_.Seq, ⟨false, v_.Result.Value⟩⟩ : GSession) (by (repeat' (first | exact tnil | refine tcons ?_ ?_ | exact .same _ | exact .int rfl | exact .str rfl | exact .sl rfl | exact .nil rfl | (refine .sl ?_; simp; done))); (first | done | fail)) (fun v_ hz_ => ?_); conv=>arg 4;cbv)
  | (refine Sat.typedG (⟨v_.Client, k + 4 * (i : Int) + 1, v_.Result⟩ : GSession) (by (repeat' (first | exact tnil | refine tcons ?_ ?_ | exact .same _ | exact .int rfl | exact .str rfl | exact .sl rfl | exact .nil rfl | (refine .sl ?_; simp; done))); (first | done | fail)) (fun v_ hz_ => ?_); conv=>arg 4;cbv)
  | (refine Sat.typedG (⟨k + 4 * (i : Int), v_.Seq, v_.Result⟩ : GSession) (by (repeat' (first | exact tnil | refine tcons ?_ ?_ | exact .same _ | exact .int rfl | exact .str rfl | exact .sl rfl | exact .nil rfl | (refine .sl ?_; simp; done))); (first | done | fail)) (fun v_ hz_ => ?_); conv=>arg 4;cbv)
  | refine Sat.next (i + 1) ?_ (by (try dsimp only); exact arA) (by exact arA)
  | refine Sat.done ?_
 ·have e : mkSession (k + 4 * (i : Int)) = ⟨k + 4 * (i : Int), k + 4 * (i : Int) + 1, ⟨true, k + 4 * (i : Int) + 1 + 1 + 1⟩⟩ := by unfold mkSession; rw [decide_eq_true hq]
  have eg := eg (by exact arA)
  simp only [e] at eg
  subst_vars
  refine les_of ?_ ?_ rfl
  iterate 2 (focus repeat' (first | exact trivial | refine And.intro ?_ ?_ | exact levA | refine lev_cons ?_ ?_ | refine LeV.agg rfl ?_ | exact Nat.le_of_ble_eq_true rfl | exact Or.inl ⟨_, rfl, .row rfl⟩ | refine Or.inl ⟨_, rfl, .row ?_⟩ | refine Or.inl ⟨_, rfl, .lit rfl ?_⟩ | exact Or.inr ⟨rfl, rfl⟩ | (first | exact .int (by (try dsimp only); exact arA) | (simp only [Int.toNat_natCast, Nat.zero_add, set_set]; exact eg))))
 ·have e : mkSession (k + 4 * (i : Int)) = ⟨k + 4 * (i : Int), k + 4 * (i : Int) + 1, ⟨false, k + 4 * (i : Int) + 1 + 1 + 1⟩⟩ := by unfold mkSession; rw [decide_eq_false hq]
  have eg := eg (by exact arA)
  simp only [e] at eg
  subst_vars
  refine les_of ?_ ?_ rfl
  iterate 2 (focus repeat' (first | exact trivial | refine And.intro ?_ ?_ | exact levA | refine lev_cons ?_ ?_ | refine LeV.agg rfl ?_ | exact Nat.le_of_ble_eq_true rfl | exact Or.inl ⟨_, rfl, .row rfl⟩ | refine Or.inl ⟨_, rfl, .row ?_⟩ | refine Or.inl ⟨_, rfl, .lit rfl ?_⟩ | exact Or.inr ⟨rfl, rfl⟩ | (first | exact .int (by (try dsimp only); exact arA) | (simp only [Int.toNat_natCast, Nat.zero_add, set_set]; exact eg))))
 ·refine .tup rfl (led_cons ?_ (led_cons ?_ led_nil))
  ·refine .agg rfl (led_cons (.int ?_) led_nil)
   exact arA
  ·refine .sl ?_
   have e : i = x.length := by exact arA
   subst e
   simp
set_option maxHeartbeats 2000000 in
theorem w_laws_heldSessionS (x : List GSession) (k : Int) (hb : bSessionS x) (hk : 0 ≤ k ∧ k ≤ 1152921504606846976) : Fn Pr n_laws_heldSessionS [.sl 4 eGSession (fun _ => x), .int .i64 (fun _ => k)] (.int .i64 (fun _ => if mkSessionS k x.length = x then k + 4 * (x.length : Int) else -1)) := by
 refine k_laws_heldSessionS.fn (by kernel_rfl) ?_
 have h0 : x.length * 32 ≤ 140737488351232 := hb
 conv=>arg 4;cbv
 refine Sat.loopP (ι := Nat) (fun i => [(5, .int .i64 (fun _ => (i : Int))), (1, .int .i64 (fun _ => k + 4 * (i : Int)))]) (fun i => []) (fun i => i ≤ x.length ∧ x.take i = (mkSessionS k x.length).take i) (fun i => x.length - i) 0 ?_ ⟨by omega, by simp⟩ (fun i hi => ?_)
 ·refine les_of ?_ ?_ rfl
  iterate 2 (focus repeat' (first | exact trivial | refine And.intro ?_ ?_ | exact levA | refine lev_cons ?_ ?_ | refine LeV.agg rfl ?_ | exact Nat.le_of_ble_eq_true rfl | exact Or.inl ⟨_, rfl, .row rfl⟩ | refine Or.inl ⟨_, rfl, .row ?_⟩ | refine Or.inl ⟨_, rfl, .lit rfl ?_⟩ | exact Or.inr ⟨rfl, rfl⟩ | (exact .int (by (try dsimp only); exact arA))))
 conv=>arg 4;cbv
 repeat' first
  | (refine Sat.cmp (fun h => ?_) (fun h => ?_) <;> simp only [Cmp.holds] at h <;> (conv=>arg 4;cbv))
  | (refine Sat.need ndA ?_; conv=>arg 4;cbv)
  | (refine Sat.idxk (by assumption) ?_; conv=>arg 4;cbv)
  | (refine Sat.idx ndA (fun v_ hv_ => ?_); obtain ⟨vc, vq, vd, vv⟩ := v_; cases vd <;> (conv=>arg 4;cbv))
  | (refine Sat.ari64 ndA ndA ?_; conv=>arg 4;cbv)
  | (refine Sat.pop ?_; conv=>arg 4;cbv)
  | refine Sat.next (i + 1) ?_ ?_ (by (try dsimp only); exact arA)
  | (refine Sat.done (.int (Eq.symm (if_neg (fun q => ne_of_get (by assumption) (gen_get (f := fun i => mkSession (k + 4 * (i : Int))) (by exact arA)) (fun e => ?_) q.symm)))); simp only [mkSession, GSession.mk.injEq, GResult.mk.injEq] at e; obtain ⟨e1, e2, e3, e4⟩ := e; first | exact h e1 | exact h e2 | exact h e4 | exact h (of_decide_eq_true e3.symm) | exact (of_decide_eq_false e3.symm) h)
  | refine Sat.done ?_
 all_goals first
  | (refine les_of ?_ ?_ rfl; iterate 2 (focus repeat' (first | exact trivial | refine And.intro ?_ ?_ | exact levA | refine lev_cons ?_ ?_ | refine LeV.agg rfl ?_ | exact Nat.le_of_ble_eq_true rfl | exact Or.inl ⟨_, rfl, .row rfl⟩ | refine Or.inl ⟨_, rfl, .row ?_⟩ | refine Or.inl ⟨_, rfl, .lit rfl ?_⟩ | exact Or.inr ⟨rfl, rfl⟩ | (exact .int (by (try dsimp only); exact arA)))))
  | (refine ⟨by exact arA, take_ext (by assumption) (gen_get (by exact arA)) hi.2 ?_⟩; simp only [mkSession, GSession.mk.injEq, GResult.mk.injEq]; first | exact ⟨by assumption, by assumption, (decide_eq_true (by assumption)).symm, by assumption⟩ | exact ⟨by assumption, by assumption, (decide_eq_false (by assumption)).symm, by assumption⟩)
  | (refine .int ?_; have e1 : i = x.length := (by exact arA); have e2 := hi.2; rw [e1, List.take_length, List.take_of_length_le (by simp [mkSessionS])] at e2; rw [if_pos e2.symm]; exact arA)
def nMachine (x : GMachine) : Int := 1 * (x.Objects.length : Int) + 4 * (x.Sessions.length : Int)
theorem nMachine_rng {x : GMachine} (hb : bMachine x) : 0 ≤ nMachine x ∧ nMachine x ≤ 35184372088832 := by
 have : x.Objects.length * 8 ≤ 140737488351232 := hb.1
 have : x.Sessions.length * 32 ≤ 140737488351232 := hb.2
 unfold nMachine
 omega
@[simp] def mkMachine (k : Int) (x : GMachine) : GMachine := { x with Objects := mkIntS (k) x.Objects.length, Sessions := mkSessionS (k + 1 * (x.Objects.length : Int)) x.Sessions.length }
theorem mkMachine_iff {x : GMachine} {k : Int} : mkMachine k x = x ↔ mkIntS (k) x.Objects.length = x.Objects ∧ mkSessionS (k + 1 * (x.Objects.length : Int)) x.Sessions.length = x.Sessions := by
 cases x
 simp [mkMachine, GMachine.ext_iff]
theorem w_laws_markMachine (x : GMachine) (k : Int) (hb : bMachine x) (hk : 0 ≤ k ∧ k ≤ 1000000000000000000) : FnM Pr n_laws_markMachine [.agg [.ptr 0 0, .ptr 1 0], .int .i64 (fun _ => k)] [.sl 1 (encI .i64) (fun _ => x.Objects), .sl 4 eGSession (fun _ => x.Sessions)] (.agg [.int .i64 (fun _ => k + nMachine x)]) [.sl 1 (encI .i64) (fun _ => mkIntS (k) x.Objects.length), .sl 4 eGSession (fun _ => mkSessionS (k + 1 * (x.Objects.length : Int)) x.Sessions.length)] := by
 refine k_laws_markMachine.fnm (by kernel_rfl) ⟨.mk (by simp [mkIntS]), .mk (by simp [mkSessionS]), trivial⟩ ?_
 have : x.Objects.length * 8 ≤ 140737488351232 := hb.1
 have : x.Sessions.length * 32 ≤ 140737488351232 := hb.2
 conv=>arg 4;cbv
 repeat' first
  | (refine Sat.cmp (fun h => ?_) (fun h => ?_) <;> simp only [Cmp.holds] at h <;> (conv=>arg 4;cbv))
  | (refine Sat.callm (w_laws_markIntS x.Objects (k) hb.1 (by exact arA)) rfl ledA rfl ledA ?_; conv=>arg 4;cbv)
  | (refine Sat.callm (w_laws_markSessionS x.Sessions (k + 1 * (x.Objects.length : Int)) hb.2 (by exact arA)) rfl ledA rfl ledA ?_; conv=>arg 4;cbv)
  | (refine Sat.need ndA ?_; conv=>arg 4;cbv)
  | (refine Sat.need (by (repeat' (first | exact trivial | refine And.intro ?_ ?_ | rfl | (dsimp only; simp [genL_length]; done))); (first | done | fail)) ?_; conv=>arg 4;cbv)
  | (refine Sat.idxk (by assumption) ?_; conv=>arg 4;cbv) | (refine Sat.idx ndA (fun v_ hv_ => ?_); conv=>arg 4;cbv)
  | (refine Sat.ari64 ndA ndA ?_; conv=>arg 4;cbv)
  | (refine Sat.pop ?_; conv=>arg 4;cbv)
  | refine Sat.done ?_
 all_goals refine .tup rfl (led_cons ?_ (led_cons ?_ (led_cons ?_ (led_nil))))
 all_goals try exact .agg rfl (led_cons (.int rfl) led_nil)
 all_goals first
  | (refine .agg rfl (led_cons (.int ?_) led_nil); simp only [nMachine, ncast] at *; omega)
  | exact .sl rfl
  | (refine .sl ?_; (try dsimp only); congr 1; (try simp only [nMachine]); omega)
theorem w_laws_heldMachine (x : GMachine) (k : Int) (hb : bMachine x) (hk : 0 ≤ k ∧ k ≤ 1000000000000000000) : Fn Pr n_laws_heldMachine [aGMachine x, .int .i64 (fun _ => k)] (.int .i64 (fun _ => if mkMachine k x = x then k + nMachine x else -1)) := by
 have : x.Objects.length * 8 ≤ 140737488351232 := hb.1
 have : x.Sessions.length * 32 ≤ 140737488351232 := hb.2
 refine k_laws_heldMachine.fn (by kernel_rfl) ?_
 conv=>arg 4;cbv
 repeat' first
  | (refine Sat.cmp (fun h => ?_) (fun h => ?_) <;> simp only [Cmp.holds] at h <;> (conv=>arg 4;cbv))
  | (refine Sat.call (w_laws_heldIntS x.Objects (k) hb.1 (by exact arA)) rfl (by (repeat' (first | exact led_nil | refine led_cons ?_ ?_ | exact .same _ | exact .int rfl | exact .int (held_k (by assumption)) | exact .sl rfl | exact .str rfl | exact .nil rfl | exact .emp rfl | refine .agg rfl ?_ | refine .tup rfl ?_ | (refine .sl ?_; simp; done))); (first | done | fail)) ?_; conv=>arg 4;cbv)
  | (refine Sat.call (w_laws_heldSessionS x.Sessions (k + 1 * (x.Objects.length : Int)) hb.2 (by exact arA)) rfl (by (repeat' (first | exact led_nil | refine led_cons ?_ ?_ | exact .same _ | exact .int rfl | exact .int (held_k (by assumption)) | exact .sl rfl | exact .str rfl | exact .nil rfl | exact .emp rfl | refine .agg rfl ?_ | refine .tup rfl ?_ | (refine .sl ?_; simp; done))); (first | done | fail)) ?_; conv=>arg 4;cbv)
  | (refine Sat.need ndA ?_; conv=>arg 4;cbv)
  | (refine Sat.idxk (by assumption) ?_; conv=>arg 4;cbv) | (refine Sat.idx ndA (fun v_ hv_ => ?_); conv=>arg 4;cbv)
  | (refine Sat.ari64 ndA ndA ?_; conv=>arg 4;cbv)
  | (refine Sat.pop ?_; conv=>arg 4;cbv)
  | refine Sat.done ?_
 all_goals refine .int ?_
 all_goals simp only [mkMachine_iff]
 all_goals (repeat' split at *)
 all_goals (try simp only [nMachine, ncast] at *)
 all_goals first | omega | (exfalso; simp_all; done) | (exfalso; simp_all; omega)
def nSnapshot (x : GSnapshot) : Int := nMachine x.Machine
theorem nSnapshot_rng {x : GSnapshot} (hb : bSnapshot x) : 0 ≤ nSnapshot x ∧ nSnapshot x ≤ 35184372088832 := by
 have := nMachine_rng hb
 unfold nSnapshot
 omega
@[simp] def mkSnapshot (k : Int) (x : GSnapshot) : GSnapshot := { x with Machine := mkMachine (k) x.Machine }
theorem mkSnapshot_iff {x : GSnapshot} {k : Int} : mkSnapshot k x = x ↔ mkMachine (k) x.Machine = x.Machine := by
 cases x
 simp [mkSnapshot, GSnapshot.ext_iff]
theorem w_laws_markSnapshot (x : GSnapshot) (k : Int) (hb : bSnapshot x) (hk : 0 ≤ k ∧ k ≤ 1000000000000000000) : FnM Pr n_laws_markSnapshot [.agg [.int .i64 (fun _ => x.Count), .int .i64 (fun _ => x.Digest), .ptr 0 0, .ptr 1 0], .int .i64 (fun _ => k)] [.sl 1 (encI .i64) (fun _ => x.Machine.Objects), .sl 4 eGSession (fun _ => x.Machine.Sessions)] (.agg [.int .i64 (fun _ => k + nSnapshot x)]) [.sl 1 (encI .i64) (fun _ => mkIntS (k) x.Machine.Objects.length), .sl 4 eGSession (fun _ => mkSessionS (k + 1 * (x.Machine.Objects.length : Int)) x.Machine.Sessions.length)] := by
 refine k_laws_markSnapshot.fnm (by kernel_rfl) ⟨.mk (by simp [mkIntS]), .mk (by simp [mkSessionS]), trivial⟩ ?_
 have : x.Machine.Objects.length * 8 ≤ 140737488351232 := hb.1
 have : x.Machine.Sessions.length * 32 ≤ 140737488351232 := hb.2
 have := nMachine_rng hb
 conv=>arg 4;cbv
 repeat' first
  | (refine Sat.cmp (fun h => ?_) (fun h => ?_) <;> simp only [Cmp.holds] at h <;> (conv=>arg 4;cbv))
  | (refine Sat.callm (w_laws_markMachine x.Machine (k) hb (by exact arA)) rfl ledA rfl ledA ?_; conv=>arg 4;cbv)
  | (refine Sat.need ndA ?_; conv=>arg 4;cbv)
  | (refine Sat.need (by (repeat' (first | exact trivial | refine And.intro ?_ ?_ | rfl | (dsimp only; simp [genL_length]; done))); (first | done | fail)) ?_; conv=>arg 4;cbv)
  | (refine Sat.idxk (by assumption) ?_; conv=>arg 4;cbv) | (refine Sat.idx ndA (fun v_ hv_ => ?_); conv=>arg 4;cbv)
  | (refine Sat.ari64 ndA ndA ?_; conv=>arg 4;cbv)
  | (refine Sat.pop ?_; conv=>arg 4;cbv)
  | refine Sat.done ?_
 all_goals refine .tup rfl (led_cons ?_ (led_cons ?_ (led_cons ?_ (led_nil))))
 all_goals try exact .agg rfl (led_cons (.int rfl) led_nil)
 all_goals first
  | (refine .agg rfl (led_cons (.int ?_) led_nil); simp only [nSnapshot, nMachine, ncast] at *; omega)
  | exact .sl rfl
  | (refine .sl ?_; (try dsimp only); congr 1; (try simp only [nSnapshot, nMachine]); omega)
theorem w_laws_heldSnapshot (x : GSnapshot) (k : Int) (hb : bSnapshot x) (hk : 0 ≤ k ∧ k ≤ 1000000000000000000) : Fn Pr n_laws_heldSnapshot [aGSnapshot x, .int .i64 (fun _ => k)] (.int .i64 (fun _ => if mkSnapshot k x = x then k + nSnapshot x else -1)) := by
 have : x.Machine.Objects.length * 8 ≤ 140737488351232 := hb.1
 have : x.Machine.Sessions.length * 32 ≤ 140737488351232 := hb.2
 have := nMachine_rng hb
 refine k_laws_heldSnapshot.fn (by kernel_rfl) ?_
 conv=>arg 4;cbv
 repeat' first
  | (refine Sat.cmp (fun h => ?_) (fun h => ?_) <;> simp only [Cmp.holds] at h <;> (conv=>arg 4;cbv))
  | (refine Sat.call (w_laws_heldMachine x.Machine (k) hb (by exact arA)) rfl (by (repeat' (first | exact led_nil | refine led_cons ?_ ?_ | exact .same _ | exact .int rfl | exact .int (held_k (by assumption)) | exact .sl rfl | exact .str rfl | exact .nil rfl | exact .emp rfl | refine .agg rfl ?_ | refine .tup rfl ?_ | (refine .sl ?_; simp; done))); (first | done | fail)) ?_; conv=>arg 4;cbv)
  | (refine Sat.need ndA ?_; conv=>arg 4;cbv)
  | (refine Sat.idxk (by assumption) ?_; conv=>arg 4;cbv) | (refine Sat.idx ndA (fun v_ hv_ => ?_); conv=>arg 4;cbv)
  | (refine Sat.ari64 ndA ndA ?_; conv=>arg 4;cbv)
  | (refine Sat.pop ?_; conv=>arg 4;cbv)
  | refine Sat.done ?_
 all_goals refine .int ?_
 all_goals simp only [mkSnapshot_iff]
 all_goals (repeat' split at *)
 all_goals (try simp only [nSnapshot, nMachine, ncast] at *)
 all_goals first | omega | (exfalso; simp_all; done) | (exfalso; simp_all; omega)
theorem w_laws_heldSnapshot_mk (x : GSnapshot) (k : Int) (hb : bSnapshot x) (hk : 0 ≤ k ∧ k ≤ 1000000000000000000) : Fn Pr n_laws_heldSnapshot [aGSnapshot (mkSnapshot k x), .int .i64 (fun _ => k)] (.int .i64 (fun _ => k + nSnapshot x)) := by
 have h := w_laws_heldSnapshot (mkSnapshot k x) k (by simpa [bSnapshot, bMachine, bIntS, bSessionS] using hb) hk
 have e : mkSnapshot k (mkSnapshot k x) = mkSnapshot k x := by simp [nSnapshot, nMachine]
 have e2 : nSnapshot (mkSnapshot k x) = nSnapshot x := by simp [nSnapshot, nMachine]
 rw [if_pos e, e2] at h
 exact h
def oins (x : Int) : List Int → List Int
 | [] => [x]
 | y :: r => if x < y then x :: y :: r else y :: oins x r
def isort (l : List Int) : List Int := l.foldl (fun p x => oins x p) []
def Asc (l : List Int) : Prop := l.Pairwise (· ≤ ·)
theorem oins_len {x : Int} : ∀ {l : List Int}, (oins x l).length = l.length + 1
 | [] => rfl
 | y :: r => by
   rw [oins]
   split
   ·rfl
   ·simp [oins_len (x := x) (l := r)]
theorem isort_snoc {l : List Int} {x : Int} : isort (l ++ [x]) = oins x (isort l) := by simp [isort]
theorem fold_len : ∀ {l p : List Int}, (l.foldl (fun p x => oins x p) p).length = p.length + l.length
 | [], p => by simp
 | x :: r, p => by
   rw [List.foldl_cons, fold_len (l := r), oins_len, List.length_cons]
   omega
theorem isort_len {l : List Int} : (isort l).length = l.length := by rw [isort, fold_len]; simp
theorem oins_mem {x y : Int} : ∀ {l : List Int}, y ∈ oins x l ↔ y = x ∨ y ∈ l
 | [] => by simp [oins]
 | z :: r => by
   rw [oins]
   split
   ·simp
   ·rw [List.mem_cons, oins_mem (l := r), List.mem_cons]
    constructor
    ·rintro (h | h | h)
     ·exact .inr (.inl h)
     ·exact .inl h
     ·exact .inr (.inr h)
    ·rintro (h | h | h)
     ·exact .inr (.inl h)
     ·exact .inl h
     ·exact .inr (.inr h)
theorem oins_asc {x : Int} : ∀ {l : List Int}, Asc l → Asc (oins x l)
 | [], _ => by simp [oins, Asc]
 | y :: r, h => by
   obtain ⟨h1, h2⟩ := List.pairwise_cons.1 h
   rw [oins]
   split
   ·rename_i hlt
    refine List.pairwise_cons.2 ⟨fun z hz => ?_, h⟩
    rcases List.mem_cons.1 hz with rfl | hz
    ·omega
    ·have := h1 z hz; omega
   ·rename_i hlt
    refine List.pairwise_cons.2 ⟨fun z hz => ?_, oins_asc h2⟩
    rcases oins_mem.1 hz with rfl | hz
    ·omega
    ·exact h1 z hz
theorem fold_asc : ∀ {l p : List Int}, Asc p → Asc (l.foldl (fun p x => oins x p) p)
 | [], p, h => h
 | x :: r, p, h => fold_asc (l := r) (oins_asc h)
theorem isort_asc (l : List Int) : Asc (isort l) := fold_asc List.Pairwise.nil
theorem fold_mem {y : Int} : ∀ {l p : List Int}, y ∈ l.foldl (fun p x => oins x p) p ↔ y ∈ p ∨ y ∈ l
 | [], p => by simp
 | x :: r, p => by
   rw [List.foldl_cons, fold_mem (l := r), oins_mem, List.mem_cons]
   constructor
   ·rintro ((h | h) | h)
    ·exact .inr (.inl h)
    ·exact .inl h
    ·exact .inr (.inr h)
   ·rintro (h | h | h)
    ·exact .inl (.inr h)
    ·exact .inl (.inl h)
    ·exact .inr h
theorem isort_mem {y : Int} {l : List Int} : y ∈ isort l ↔ y ∈ l := by rw [isort, fold_mem]; simp
theorem oins_at {x : Int} : ∀ {p q : List Int}, (∀ y ∈ p, y ≤ x) → (∀ y ∈ q, x < y) → oins x (p ++ q) = p ++ x :: q
 | [], [], _, _ => rfl
 | [], y :: q, _, h => by
   have := h y (List.mem_cons_self ..)
   rw [List.nil_append, oins, if_pos this, List.nil_append]
 | z :: p, q, h1, h2 => by
   have := h1 z (List.mem_cons_self ..)
   rw [List.cons_append, oins, if_neg (by omega), oins_at (fun y hy => h1 y (List.mem_cons_of_mem _ hy)) h2, List.cons_append]
theorem get_at {α : Type _} {p q : List α} {x : α} {k : Nat} (h : k = p.length) : (p ++ x :: q)[k]? = some x := by subst h; simp
theorem set_at {α : Type} {p q : List α} {x z : α} {k : Nat} (h : k = p.length) : setAt (p ++ x :: q) k z = p ++ z :: q := by subst h; simp [setAt]
theorem snoc_or {α : Type _} (l : List α) : l = [] ∨ ∃ L b, l = L ++ [b] := by
 rcases List.eq_nil_or_concat l with h | ⟨L, b, h⟩
 ·exact .inl h
 ·exact .inr ⟨L, b, by rw [h, List.concat_eq_append]⟩
theorem get_at2 {α : Type _} {p t : List α} {y : α} {k : Nat} (h : k = p.length) : ((p ++ [y]) ++ t)[k]? = some y := by subst h; simp
theorem set_at2 {α : Type} {p t : List α} {y z : α} {k : Nat} (h : k = p.length) : setAt ((p ++ [y]) ++ t) k z = (p ++ [z]) ++ t := by subst h; simp [setAt]
def ddf (p : List Int) (x : Int) : List Int := if p.getLast? = some x then p else p ++ [x]
def dd (l : List Int) : List Int := l.foldl ddf []
theorem dd_snoc {l : List Int} {x : Int} : dd (l ++ [x]) = if (dd l).getLast? = some x then dd l else dd l ++ [x] := by rw [dd, List.foldl_append]; rfl
theorem snoc_ind {α : Type} {p : List α → Prop} (h0 : p []) (h1 : ∀ l x, p l → p (l ++ [x])) (l : List α) : p l := by
 have key : ∀ n (l : List α), l.length = n → p l := by
  intro n
  induction n with
  | zero => intro l hl; rw [List.eq_nil_of_length_eq_zero hl]; exact h0
  | succ n ih =>
    intro l hl
    rcases List.eq_nil_or_concat l with rfl | ⟨L, b, rfl⟩
    ·simp at hl
    ·rw [List.concat_eq_append] at hl ⊢
     exact h1 L b (ih L (by simpa using hl))
 exact key _ l rfl
theorem dd_last (l : List Int) : (dd l).getLast? = l.getLast? := by
 refine snoc_ind (p := fun l => (dd l).getLast? = l.getLast?) rfl (fun l x h => ?_) l
 rw [dd_snoc]
 split
 ·rename_i e; rw [e]; simp
 ·simp
theorem dd_len (l : List Int) : (dd l).length ≤ l.length := by
 refine snoc_ind (p := fun l => (dd l).length ≤ l.length) (by simp [dd]) (fun l x h => ?_) l
 rw [dd_snoc]
 split <;> simp <;> omega
theorem dd_mem {y : Int} (l : List Int) : y ∈ dd l ↔ y ∈ l := by
 refine snoc_ind (p := fun l => y ∈ dd l ↔ y ∈ l) (by simp [dd]) (fun l x h => ?_) l
 rw [dd_snoc]
 split
 ·rename_i e
  rw [List.mem_append, h, List.mem_singleton]
  exact ⟨.inl, fun q => q.elim id (fun q => by subst q; exact h.1 (List.mem_of_getLast? e))⟩
 ·rw [List.mem_append, List.mem_append, h]
def SAsc (l : List Int) : Prop := l.Pairwise (· < ·)
theorem dd_strict (l : List Int) : Asc l → SAsc (dd l) := by
 refine snoc_ind (p := fun l => Asc l → SAsc (dd l)) (fun _ => by simp [dd, SAsc]) (fun l x h ha => ?_) l
 rw [Asc, List.pairwise_append] at ha
 rw [dd_snoc]
 split
 ·exact h ha.1
 ·rename_i e
  rw [SAsc, List.pairwise_append]
  refine ⟨h ha.1, by simp, fun y hy z hz => ?_⟩
  rw [List.mem_singleton] at hz
  subst hz
  have h1 := ha.2.2 y ((dd_mem l).1 hy) z (by simp)
  rcases Int.lt_or_eq_of_le h1 with h1 | h1
  ·exact h1
  ·exfalso
   subst h1
   have hs := h ha.1
   rcases List.eq_nil_or_concat (dd l) with e2 | ⟨L, b, e2⟩
   ·rw [e2] at hy; cases hy
   ·rw [List.concat_eq_append] at e2
    rw [e2] at e hs hy
    rw [SAsc, List.pairwise_append] at hs
    have hbz : b ≤ y := ha.2.2 b ((dd_mem l).1 (by rw [e2]; simp)) y (by simp)
    rcases List.mem_append.1 hy with hy | hy
    ·have := hs.2.2 y hy b (by simp); omega
    ·simp at hy; subst hy; simp at e
theorem sasc_eq : ∀ {a b : List Int}, SAsc a → SAsc b → (∀ y, y ∈ a ↔ y ∈ b) → a = b
 | [], [], _, _, _ => rfl
 | [], y :: b, _, _, h => by have := (h y).2 (List.mem_cons_self ..); cases this
 | x :: a, [], _, _, h => by have := (h x).1 (List.mem_cons_self ..); cases this
 | x :: a, y :: b, ha, hb, h => by
   obtain ⟨ha1, ha2⟩ := List.pairwise_cons.1 ha
   obtain ⟨hb1, hb2⟩ := List.pairwise_cons.1 hb
   have hx := (h x).1 (List.mem_cons_self ..)
   have hy := (h y).2 (List.mem_cons_self ..)
   have e : x = y := by
    rcases List.mem_cons.1 hx with e | hx
    ·exact e
    ·rcases List.mem_cons.1 hy with e | hy
     ·exact e.symm
     ·have := ha1 y hy; have := hb1 x hx; omega
   subst e
   rw [sasc_eq ha2 hb2 (fun z => ?_)]
   have hz := h z
   rw [List.mem_cons, List.mem_cons] at hz
   constructor
   ·intro q
    have := ha1 z q
    rcases hz.1 (.inr q) with e | e
    ·omega
    ·exact e
   ·intro q
    have := hb1 z q
    rcases hz.2 (.inr q) with e | e
    ·omega
    ·exact e
def ddZ (l : List Int) : List Int := dd l ++ List.replicate (l.length - (dd l).length) 0
theorem ddZ_len (l : List Int) : (ddZ l).length = l.length := by have := dd_len l; simp [ddZ]; omega
theorem take_last {l : List Int} {i : Nat} {x : Int} (h : l[i]? = some x) : (l.take (i + 1)).getLast? = some x := by
 rw [List.take_add_one, h]; simp
theorem dd_take {l : List Int} {i : Nat} {x y : Int} (hx : l[i + 1]? = some x) (hy : l[i]? = some y) : dd (l.take (i + 1 + 1)) = if x = y then dd (l.take (i + 1)) else dd (l.take (i + 1)) ++ [x] := by
 rw [List.take_add_one (i := i + 1), hx]
 show dd (l.take (i + 1) ++ [x]) = _
 rw [dd_snoc, dd_last, take_last hy]
 by_cases e : x = y
 ·rw [if_pos (by rw [e]), if_pos e]
 ·rw [if_neg (fun q => e (Option.some.inj q).symm), if_neg e]
theorem set_run {D M t : List Int} {z x : Int} {k : Nat} (h : k = D.length) : setAt (D ++ (M ++ z :: x :: t)) k x = D ++ x :: ((M ++ [z]).tail ++ x :: t) := by
 cases M with
 | nil => exact set_at h
 | cons a M => rw [List.cons_append, set_at h]; simp
theorem w_slices_Clone_intint (l : List Int) (hb : bIntS l) : Fn Pr n_slices_Clone_intint [.sl 1 (encI .i64) (fun _ => l)] (.sl 1 (encI .i64) (fun _ => l)) := by
 refine k_slices_Clone_intint.fn (by kernel_rfl) ?_
 have h0 : l.length * 8 ≤ 140737488351232 := hb
 conv=>arg 4;cbv
 repeat' first
  | (refine Sat.cmp (fun h => ?_) (fun h => ?_) <;> simp only [Cmp.holds] at h <;> (conv=>arg 4;cbv))
  | (refine Sat.need ⟨fun y _ => flat_encI .i64 y, by exact arA⟩ ?_; conv=>arg 4;cbv)
  | (refine Sat.may (fun h => ?_) ?_ <;> (conv=>arg 4;cbv))
  | (refine Sat.need ndA ?_; conv=>arg 4;cbv)
  | (refine Sat.idxk (by assumption) ?_; conv=>arg 4;cbv) | (refine Sat.idx ndA (fun v_ hv_ => ?_); conv=>arg 4;cbv)
  | (refine Sat.ari64 ndA ndA ?_; conv=>arg 4;cbv)
  | (refine Sat.pop ?_; conv=>arg 4;cbv)
  | refine Sat.done ?_
 all_goals first | exact .nil (by assumption) | exact .sl (by simp)
def okSrv (p : Int) : List Int → Bool
 | [] => true
 | x :: r => decide (0 ≤ x ∧ x ≤ 4) && decide (p < x) && okSrv x r
def areServers (l : List Int) : Bool := okSrv (-1) l
def prevS (l : List Int) : Nat → Int
 | 0 => -1
 | i + 1 => match l[i]? with | some e => e | none => 0
theorem prevS_get {l : List Int} {i : Nat} {e : Int} (h : l[i]? = some e) : prevS l (i + 1) = e := by simp [prevS, h]
theorem okSrv_step {l : List Int} {i : Nat} {e : Int} {b : Bool} (hb : b = okSrv (prevS l i) (l.drop i)) (h : l[i]? = some e) (h1 : 0 ≤ e ∧ e ≤ 4) (h3 : prevS l i < e) : b = okSrv (prevS l (i + 1)) (l.drop (i + 1)) := by
 rw [hb, drop_get h, okSrv, prevS_get h, decide_eq_true h1, decide_eq_true h3]
 simp
theorem okSrv_bad {l : List Int} {i : Nat} {e : Int} {b : Bool} (hb : b = okSrv (prevS l i) (l.drop i)) (h : l[i]? = some e) (hn : ¬ ((0 ≤ e ∧ e ≤ 4) ∧ prevS l i < e)) : b = false := by
 rw [hb, drop_get h, okSrv]
 by_cases h1 : 0 ≤ e ∧ e ≤ 4
 ·by_cases h3 : prevS l i < e
  ·exact absurd ⟨h1, h3⟩ hn
  ·rw [decide_eq_false h3]; simp
 ·rw [decide_eq_false h1]; simp
theorem okSrv_end {l : List Int} {i : Nat} {b : Bool} (hb : b = okSrv (prevS l i) (l.drop i)) (h : i = l.length) : b = true := by
 rw [hb, h, List.drop_length, okSrv]
theorem prevS_zero {l : List Int} {i : Nat} (h : i = 0) : prevS l i = -1 := by subst h; rfl
theorem prevS_pos {l : List Int} {i j : Nat} {e : Int} (h : l[j]? = some e) (hj : i = j + 1) : prevS l i = e := by subst hj; exact prevS_get h
theorem okSrv_spec : ∀ {l : List Int} {p : Int}, okSrv p l = true → p ≤ 4 → ((l.length : Int) ≤ 4 - p) ∧ (∀ x ∈ l, 0 ≤ x ∧ x ≤ 4 ∧ p < x) ∧ SAsc l
 | [], p, _, hp => ⟨by simp; omega, by simp, List.Pairwise.nil⟩
 | x :: r, p, h, hp => by
   simp only [okSrv, Bool.and_eq_true, decide_eq_true_eq] at h
   obtain ⟨h1, h2, h3⟩ := okSrv_spec h.2 h.1.1.2
   refine ⟨by simp only [List.length_cons]; omega, fun y hy => ?_, List.pairwise_cons.2 ⟨fun y hy => (h2 y hy).2.2, h3⟩⟩
   rcases List.mem_cons.1 hy with rfl | hy
   ·exact ⟨h.1.1.1, h.1.1.2, h.1.2⟩
   ·have := h2 y hy; omega
theorem areServers_len {l : List Int} (h : areServers l = true) : l.length ≤ 5 := by have := (okSrv_spec h (by omega)).1; omega
theorem areServers_rng {l : List Int} (h : areServers l = true) : ∀ x ∈ l, 0 ≤ x ∧ x ≤ 4 := fun x hx => by have := (okSrv_spec h (by omega)).2.1 x hx; omega
theorem areServers_sasc {l : List Int} (h : areServers l = true) : SAsc l := (okSrv_spec h (by omega)).2.2
theorem Sat.nextR2 {ι : Type} {As : List (St → Prop)} {Q : AV → Prop} {s : St} {G : ι → Prop} {μ : ι → Nat} {S : ι → St} {x : ι} (b c b' c' : Nat) (y : ι) (hc : noFx c s.st = true) (hb : noFx b s.st = true) (hlt : Nat.blt c s.nx = true) (hlt2 : Nat.blt b s.nx = true) (hc' : noFx c' (renS b c s).st = true) (hb' : noFx b' (renS b c s).st = true) (hlt' : Nat.blt c' (renS b c s).nx = true) (hlt2' : Nat.blt b' (renS b c s).nx = true) (h : LeS (renS b' c' (renS b c s)) (S y)) (hg : G y) (hm : μ y < μ x) : Sat Pr Q ((fun s' => ∃ y, LeS s' (S y) ∧ G y ∧ μ y < μ x) :: As) (.again s) :=
 .again (.step b c hc hb hlt hlt2 (.step b' c' hc' hb' hlt' hlt2' (.refl _))) ⟨y, h, hg, hm⟩
theorem okLog_take : ∀ {l : List GEntry} {p : Int} {k : Nat}, okLogFrom p l = true → okLogFrom p (l.take k) = true
 | [], p, k, _ => by simp [okLogFrom]
 | e :: r, p, 0, _ => by simp [okLogFrom]
 | e :: r, p, k + 1, h => by
   simp only [List.take_succ_cons, okLogFrom, Bool.and_eq_true] at h ⊢
   exact ⟨h.1, okLog_take h.2⟩
theorem okLog_drop : ∀ {l : List GEntry} {p : Int} {k : Nat}, okLogFrom p l = true → okLogFrom 0 (l.drop k) = true
 | [], p, k, _ => by simp [okLogFrom]
 | e :: r, p, 0, h => by
   simp only [List.drop_zero, okLogFrom, Bool.and_eq_true, decide_eq_true_eq] at h ⊢
   exact ⟨⟨h.1.1, by omega⟩, h.2⟩
 | e :: r, p, k + 1, h => by
   simp only [okLogFrom, Bool.and_eq_true] at h
   exact okLog_drop (l := r) (k := k) h.2
theorem isLog_take {l : List GEntry} {k : Nat} (h : isLog l = true) : isLog (l.take k) = true := by
 simp only [isLog, Bool.and_eq_true, decide_eq_true_eq] at h ⊢
 exact ⟨okLog_take h.1, by simp; omega⟩
theorem isLog_drop {l : List GEntry} {k : Nat} (h : isLog l = true) : isLog (l.drop k) = true := by
 simp only [isLog, Bool.and_eq_true, decide_eq_true_eq] at h ⊢
 exact ⟨okLog_drop h.1, by simp; omega⟩
theorem cpre_pre : ∀ {a l : List GEntry}, cpre a (a ++ l) = a.length
 | [], l => by simp [cpre]
 | x :: a, l => by
   have := cpre_pre (a := a) (l := l)
   simp [cpre, this]
theorem cpre_self (a : List GEntry) : cpre a a = a.length := by
 have := cpre_pre (a := a) (l := [])
 rw [List.append_nil] at this
 exact this
--import Derived.Shelf.Strings.OnBuilder
def layJoinRen : Go.Shelf.Ren := ⟨fun | 156 => 64 | 165 => 69 | 166 => 70 | 169 => 71 | 240 => 74 | 241 => 75 | 276 => 77 | 277 => 78 | n => n, fun | 31 => 84 | 9 => 9 | 3 => 3 | 4 => 4 | 0 => 0 | 20 => 20 | 72 => 91 | 76 => 95 | 70 => 89 | 37 => 87 | 75 => 94 | 127 => 99 | 164 => 101 | 5 => 5 | 80 => 97 | n => n, fun | n => n⟩
theorem layJoin : Go.Proofs.Lays.n156 Go.Proofs.Tryd.prog layJoinRen := {
 mixed := by kernel_rfl
 f156 := Go.Proofs.Tryd.func64.trans (congrArg some (by kernel_rfl))
 f165 := Go.Proofs.Tryd.func69.trans (congrArg some (by kernel_rfl))
 f166 := Go.Proofs.Tryd.func70.trans (congrArg some (by kernel_rfl))
 f169 := Go.Proofs.Tryd.func71.trans (congrArg some (by kernel_rfl))
 f240 := Go.Proofs.Tryd.func74.trans (congrArg some (by kernel_rfl))
 f241 := Go.Proofs.Tryd.func75.trans (congrArg some (by kernel_rfl))
 f276 := Go.Proofs.Tryd.func77.trans (congrArg some (by kernel_rfl))
 f277 := Go.Proofs.Tryd.func78.trans (congrArg some (by kernel_rfl))
 t0 := Go.Proofs.Tryd.underlying0
 a0 := Go.Proofs.Tryd.isAgg0
 z0 := Go.Proofs.Tryd.sizeOf0
 v0 := Go.Proofs.Tryd.zeroValue0
 t3 := Go.Proofs.Tryd.underlying3
 a3 := Go.Proofs.Tryd.isAgg3
 z3 := Go.Proofs.Tryd.sizeOf3
 v3 := Go.Proofs.Tryd.zeroValue3
 t4 := Go.Proofs.Tryd.underlying4
 a4 := Go.Proofs.Tryd.isAgg4
 z4 := Go.Proofs.Tryd.sizeOf4
 v4 := Go.Proofs.Tryd.zeroValue4
 t9 := Go.Proofs.Tryd.underlying9
 a9 := Go.Proofs.Tryd.isAgg9
 z9 := Go.Proofs.Tryd.sizeOf9
 v9 := Go.Proofs.Tryd.zeroValue9
 t20 := Go.Proofs.Tryd.underlying20
 a20 := Go.Proofs.Tryd.isAgg20
 z20 := Go.Proofs.Tryd.sizeOf20
 v20 := Go.Proofs.Tryd.zeroValue20
 t31 := Go.Proofs.Tryd.underlying84
 a31 := Go.Proofs.Tryd.isAgg84
 z31 := Go.Proofs.Tryd.sizeOf84
 v31 := Go.Proofs.Tryd.zeroValue84
 t37 := Go.Proofs.Tryd.underlying87
 a37 := Go.Proofs.Tryd.isAgg87
 z37 := Go.Proofs.Tryd.sizeOf87
 v37 := Go.Proofs.Tryd.zeroValue87
 t70 := Go.Proofs.Tryd.underlying89
 a70 := Go.Proofs.Tryd.isAgg89
 z70 := Go.Proofs.Tryd.sizeOf89
 v70 := Go.Proofs.Tryd.zeroValue89
 t72 := Go.Proofs.Tryd.underlying91
 a72 := Go.Proofs.Tryd.isAgg91
 z72 := Go.Proofs.Tryd.sizeOf91
 v72 := Go.Proofs.Tryd.zeroValue91
 t75 := Go.Proofs.Tryd.underlying94
 a75 := Go.Proofs.Tryd.isAgg94
 z75 := Go.Proofs.Tryd.sizeOf94
 v75 := Go.Proofs.Tryd.zeroValue94
 t76 := Go.Proofs.Tryd.underlying95
 a76 := Go.Proofs.Tryd.isAgg95
 z76 := Go.Proofs.Tryd.sizeOf95
 v76 := Go.Proofs.Tryd.zeroValue95
 t127 := Go.Proofs.Tryd.underlying99
 a127 := Go.Proofs.Tryd.isAgg99
 z127 := Go.Proofs.Tryd.sizeOf99
 v127 := Go.Proofs.Tryd.zeroValue99
 t164 := Go.Proofs.Tryd.underlying101
 a164 := Go.Proofs.Tryd.isAgg101
 z164 := Go.Proofs.Tryd.sizeOf101
 v164 := Go.Proofs.Tryd.zeroValue101 }
--import Derived.Shelf.Strings.OnBuilder
theorem layJoinX : Go.Proofs.Builder.Extra Go.Proofs.Tryd.prog layJoinRen := {
 sizeBuilder := by kernel_rfl
 liesBuilder := by kernel_rfl
 t5 := Go.Proofs.Tryd.underlying5
 a5 := Go.Proofs.Tryd.isAgg5
 z5 := Go.Proofs.Tryd.sizeOf5
 v5 := Go.Proofs.Tryd.zeroValue5
 infoByte := by kernel_rfl
 cellsByte := by kernel_rfl
 sizeByte := by kernel_rfl
 neB5 := by decide }
--import Derived.Shelf.Strconv.Itoa3
def layItoaRen : Go.Shelf.Ren := ⟨fun | 171 => 68 | 243 => 73 | 246 => 76 | 283 => 79 | 284 => 80 | 285 => 81 | 286 => 82 | 129 => 84 | 317 => 83 | 318 => 85 | 319 => 86 | 320 => 87 | 337 => 88 | 338 => 89 | n => n, fun | 3 => 3 | 9 => 9 | 2 => 2 | 4 => 4 | 171 => 104 | 0 => 0 | 53 => 105 | 37 => 87 | 5 => 5 | 173 => 108 | 212 => 112 | 51 => 113 | 20 => 20 | 213 => 114 | 46 => 115 | 232 => 118 | 233 => 119 | n => n, fun | 17 => 1 | 18 => 2 | 19 => 3 | n => n⟩
theorem layItoa : Go.Proofs.LaysM.n171 Go.Proofs.Tryd.prog layItoaRen := {
 mixed := by kernel_rfl
 f129 := Go.Proofs.Tryd.func84.trans (congrArg some (by kernel_rfl))
 f171 := Go.Proofs.Tryd.func68.trans (congrArg some (by kernel_rfl))
 f243 := Go.Proofs.Tryd.func73.trans (congrArg some (by kernel_rfl))
 f246 := Go.Proofs.Tryd.func76.trans (congrArg some (by kernel_rfl))
 f283 := Go.Proofs.Tryd.func79.trans (congrArg some (by kernel_rfl))
 f284 := Go.Proofs.Tryd.func80.trans (congrArg some (by kernel_rfl))
 f285 := Go.Proofs.Tryd.func81.trans (congrArg some (by kernel_rfl))
 f286 := Go.Proofs.Tryd.func82.trans (congrArg some (by kernel_rfl))
 f317 := Go.Proofs.Tryd.func83.trans (congrArg some (by kernel_rfl))
 f318 := Go.Proofs.Tryd.func85.trans (congrArg some (by kernel_rfl))
 f319 := Go.Proofs.Tryd.func86.trans (congrArg some (by kernel_rfl))
 f320 := Go.Proofs.Tryd.func87.trans (congrArg some (by kernel_rfl))
 f337 := Go.Proofs.Tryd.func88.trans (congrArg some (by kernel_rfl))
 f338 := Go.Proofs.Tryd.func89.trans (congrArg some (by kernel_rfl))
 t0 := Go.Proofs.Tryd.underlying0
 a0 := Go.Proofs.Tryd.isAgg0
 z0 := Go.Proofs.Tryd.sizeOf0
 v0 := Go.Proofs.Tryd.zeroValue0
 t2 := Go.Proofs.Tryd.underlying2
 a2 := Go.Proofs.Tryd.isAgg2
 z2 := Go.Proofs.Tryd.sizeOf2
 v2 := Go.Proofs.Tryd.zeroValue2
 t3 := Go.Proofs.Tryd.underlying3
 a3 := Go.Proofs.Tryd.isAgg3
 z3 := Go.Proofs.Tryd.sizeOf3
 v3 := Go.Proofs.Tryd.zeroValue3
 t4 := Go.Proofs.Tryd.underlying4
 a4 := Go.Proofs.Tryd.isAgg4
 z4 := Go.Proofs.Tryd.sizeOf4
 v4 := Go.Proofs.Tryd.zeroValue4
 t5 := Go.Proofs.Tryd.underlying5
 a5 := Go.Proofs.Tryd.isAgg5
 z5 := Go.Proofs.Tryd.sizeOf5
 v5 := Go.Proofs.Tryd.zeroValue5
 t9 := Go.Proofs.Tryd.underlying9
 a9 := Go.Proofs.Tryd.isAgg9
 z9 := Go.Proofs.Tryd.sizeOf9
 v9 := Go.Proofs.Tryd.zeroValue9
 t20 := Go.Proofs.Tryd.underlying20
 a20 := Go.Proofs.Tryd.isAgg20
 z20 := Go.Proofs.Tryd.sizeOf20
 v20 := Go.Proofs.Tryd.zeroValue20
 t37 := Go.Proofs.Tryd.underlying87
 a37 := Go.Proofs.Tryd.isAgg87
 z37 := Go.Proofs.Tryd.sizeOf87
 v37 := Go.Proofs.Tryd.zeroValue87
 t46 := Go.Proofs.Tryd.underlying115
 a46 := Go.Proofs.Tryd.isAgg115
 z46 := Go.Proofs.Tryd.sizeOf115
 v46 := Go.Proofs.Tryd.zeroValue115
 t51 := Go.Proofs.Tryd.underlying113
 a51 := Go.Proofs.Tryd.isAgg113
 z51 := Go.Proofs.Tryd.sizeOf113
 v51 := Go.Proofs.Tryd.zeroValue113
 t53 := Go.Proofs.Tryd.underlying105
 a53 := Go.Proofs.Tryd.isAgg105
 z53 := Go.Proofs.Tryd.sizeOf105
 v53 := Go.Proofs.Tryd.zeroValue105
 t171 := Go.Proofs.Tryd.underlying104
 a171 := Go.Proofs.Tryd.isAgg104
 z171 := Go.Proofs.Tryd.sizeOf104
 v171 := Go.Proofs.Tryd.zeroValue104
 t173 := Go.Proofs.Tryd.underlying108
 a173 := Go.Proofs.Tryd.isAgg108
 z173 := Go.Proofs.Tryd.sizeOf108
 v173 := Go.Proofs.Tryd.zeroValue108
 t212 := Go.Proofs.Tryd.underlying112
 a212 := Go.Proofs.Tryd.isAgg112
 z212 := Go.Proofs.Tryd.sizeOf112
 v212 := Go.Proofs.Tryd.zeroValue112
 t213 := Go.Proofs.Tryd.underlying114
 a213 := Go.Proofs.Tryd.isAgg114
 z213 := Go.Proofs.Tryd.sizeOf114
 t232 := Go.Proofs.Tryd.underlying118
 a232 := Go.Proofs.Tryd.isAgg118
 z232 := Go.Proofs.Tryd.sizeOf118
 v232 := Go.Proofs.Tryd.zeroValue118
 t233 := Go.Proofs.Tryd.underlying119
 a233 := Go.Proofs.Tryd.isAgg119
 z233 := Go.Proofs.Tryd.sizeOf119
 v233 := Go.Proofs.Tryd.zeroValue119
 g17 := by kernel_rfl
 g18 := by kernel_rfl
 g19 := by kernel_rfl
 i0 := by kernel_rfl
 i2 := by kernel_rfl
 i3 := by kernel_rfl
 i4 := by kernel_rfl
 i5 := by kernel_rfl
 i9 := by kernel_rfl
 i20 := by kernel_rfl
 i37 := by kernel_rfl
 i46 := by kernel_rfl
 i51 := by kernel_rfl
 i53 := by kernel_rfl
 i171 := by kernel_rfl
 i173 := by kernel_rfl
 i212 := by kernel_rfl
 i232 := by kernel_rfl
 i233 := by kernel_rfl
 m17 := by kernel_rfl
 m18 := by kernel_rfl
 m19 := by kernel_rfl }
abbrev n_strings_Join : Nat := 64
theorem cl_strings_Join : Callable Pr n_strings_Join := ⟨Go.Proofs.Tryd.f64, Go.Proofs.Tryd.func64, fun h => by
 have e : (Go.Proofs.Tryd.f64.name == "runtime.NumGoroutine") = false := by kernel_rfl
 rw [h] at e
 simp at e, by kernel_rfl⟩
theorem cl_strconv_Itoa : Callable Pr n_strconv_Itoa := ⟨Go.Proofs.Tryd.f68, Go.Proofs.Tryd.func68, fun h => by
 have e : (Go.Proofs.Tryd.f68.name == "runtime.NumGoroutine") = false := by kernel_rfl
 rw [h] at e
 simp at e, by kernel_rfl⟩
theorem tab_here : Pr.globalNamed tabN = some 1 := by kernel_rfl
--import Derived.Lib.ItoaNum
def sI (n : Int) : ByteArray := ⟨(Lib.itoa n).toArray⟩
theorem sI_one {n : Int} (h0 : 0 ≤ n) (h1 : n < 10) : sI n = ⟨#[UInt8.ofNat (48 + n.toNat)]⟩ := by
 rw [sI, Lib.itoa, if_neg (by omega), Lib.decDigits_one (by omega)]
theorem sI_two {n : Int} (h0 : 10 ≤ n) (h1 : n < 100) : sI n = ⟨#[UInt8.ofNat (48 + n.toNat / 10), UInt8.ofNat (48 + n.toNat % 10)]⟩ := by
 rw [sI, Lib.itoa, if_neg (by omega), Lib.decDigits_two (by omega) (by omega)]
theorem sI_size {n : Int} (h0 : 0 ≤ n) (h1 : n < 100) : 1 ≤ (sI n).size ∧ (sI n).size ≤ 2 := by
 by_cases h : n < 10
 ·rw [sI_one h0 h]; exact ⟨by simp [ByteArray.size], by simp [ByteArray.size]⟩
 ·rw [sI_two (by omega) h1]; exact ⟨by simp [ByteArray.size], by simp [ByteArray.size]⟩
theorem nDig_le (u : Nat) : Lib.nDigits u ≤ u / 10 + 1 := by
 induction u using Nat.strongRecOn with
 | _ u ih =>
   by_cases h : u < 10
   ·rw [Lib.nDigits_small h]; omega
   ·rw [Lib.nDigits_big h]
    have := ih (u / 10) (by omega)
    omega
theorem decDig_big {u : Nat} (h : ¬ u < 10) : Lib.decDigits u = Lib.decDigits (u / 10) ++ [UInt8.ofNat (48 + u % 10)] := by
 rw [Lib.decDigits, dif_neg h]
theorem bytes_ext {a b : ByteArray} (h : a.data.toList = b.data.toList) : a = b := by
 cases a; cases b
 congr 1
 exact Array.toList_inj.1 h
theorem sI_list (n : Int) : (sI n).data.toList = Lib.itoa n := by simp [sI]
theorem sI_pos {n : Int} (h : 0 ≤ n) : sI n = ⟨(Lib.decDigits n.toNat).toArray⟩ := by rw [sI, Lib.itoa, if_neg (by omega)]
theorem Sat.ari8 {P : Program} {Q : AV → Prop} {As : List (St → Prop)} {v : Unit → Int} {c : (Unit → Int) → Tree} (h1 : 0 ≤ v ()) (h2 : v () ≤ 255) (hc : Sat P Q As (c v)) : Sat P Q As (.ari .u8 v c) :=
 .ari (IntWalk.u8_in _ ⟨h1, h2⟩) hc
theorem strOf_one {d : Int} : strOfNums [d] = ⟨#[UInt8.ofNat d.toNat]⟩ := rfl
theorem w_spec_FormatInt (n : Int) (h0 : 0 ≤ n) (h1 : n ≤ 9223372036854775807) : Fn Pr n_spec_FormatInt [.int .i64 (fun _ => n)] (.str (fun _ => sI n)) := by
 refine k_spec_FormatInt.fn (by kernel_rfl) ?_
 conv=>arg 4;cbv
 refine Sat.cmp (fun h => ?_) (fun h => ?_) <;> simp only [Cmp.holds] at h <;> (conv=>arg 4;cbv)
 ·refine Sat.done (.str ?_)
  subst h
  rw [sI_one (by omega) (by omega)]
  rfl
 refine Sat.cmp (fun h => ?_) (fun h => ?_) <;> simp only [Cmp.holds] at h <;> (conv=>arg 4;cbv)
 ·exfalso; omega
 refine Sat.loopP (ι := Nat × ByteArray) (fun i => [(0, .int .i64 (fun _ => (i.1 : Int))), (3, .str (fun _ => i.2))]) (fun i => []) (fun i => (i.1 : Int) ≤ n ∧ (i.1 ≠ 0 → Lib.decDigits i.1 ++ i.2.data.toList = Lib.decDigits n.toNat) ∧ (i.1 = 0 → i.2.data.toList = Lib.decDigits n.toNat)) (fun i => i.1) (n.toNat, ⟨#[]⟩) ?_ ⟨by simp only; omega, fun _ => by simp, fun h => by exfalso; simp only at h; omega⟩ (fun i hi => ?_)
 ·refine les_of ?_ ?_ rfl
  iterate 2 (focus repeat' (first | exact trivial | refine And.intro ?_ ?_ | exact levA | refine lev_cons ?_ ?_ | refine LeV.agg rfl ?_ | exact Nat.le_of_ble_eq_true rfl | exact Or.inl ⟨_, rfl, .row rfl⟩ | refine Or.inl ⟨_, rfl, .row ?_⟩ | refine Or.inl ⟨_, rfl, .lit rfl ?_⟩ | exact Or.inr ⟨rfl, rfl⟩ | (exact .int (by omega))))
 obtain ⟨m, s⟩ := i
 obtain ⟨hm, hs1, hs2⟩ := hi
 simp only at hm hs1 hs2
 have hd : Int.tmod (m : Int) 10 = ((m % 10 : Nat) : Int) := rfl
 have hq : Int.tdiv (m : Int) 10 = ((m / 10 : Nat) : Int) := rfl
 conv=>arg 4;cbv
 refine Sat.cmp (fun h => ?_) (fun h => ?_) <;> simp only [Cmp.holds] at h <;> (conv=>arg 4;cbv)
 ·refine Sat.pop ?_
  conv=>arg 4;cbv
  refine Sat.done (.str ?_)
  simp only [ncast] at *
  rw [sI_pos h0]
  exact bytes_ext (by rw [hs2 (by omega)])
 have hm0 : m ≠ 0 := by simp only [ncast] at *; omega
 have hlen : s.size + 1 ≤ 9223372036854775807 := by
  have e := congrArg List.length (hs1 hm0)
  have e2 := nDig_le n.toNat
  have e3 := Lib.nDigits_pos m
  rw [List.length_append, Lib.decDigits_length, Lib.decDigits_length] at e
  have e4 : s.data.toList.length = s.size := rfl
  omega
 refine Sat.need (by decide) ?_
 conv=>arg 4;cbv
 refine Sat.cmp (fun h => ?_) (fun h => ?_) <;> simp only [Cmp.holds] at h <;> (conv=>arg 4;cbv)
 ·exfalso
  simp only [ncast] at *
  omega
 refine Sat.ari64 (by (try dsimp only); simp only [ncast] at *; omega) (by (try dsimp only); simp only [ncast] at *; omega) ?_
 conv=>arg 4;cbv
 refine Sat.ari8 (by (try dsimp only); simp only [ncast] at *; omega) (by (try dsimp only); simp only [ncast] at *; omega) ?_
 conv=>arg 4;cbv
 refine Sat.same ?_
 conv=>arg 4;cbv
 refine Sat.need (by
  show (strOfNums [48 + Int.tmod (m : Int) 10]).size + s.size ≤ _
  rw [strOfNums_size]
  simp only [List.length_cons, List.length_nil]
  omega) ?_
 conv=>arg 4;cbv
 refine Sat.need (by decide) ?_
 conv=>arg 4;cbv
 refine Sat.ari64 (by (try dsimp only); simp only [ncast] at *; omega) (by (try dsimp only); simp only [ncast] at *; omega) ?_
 conv=>arg 4;cbv
 refine Sat.next (m / 10, strOfNums [48 + Int.tmod (m : Int) 10] ++ s) ?_ ?_ (by (try dsimp only); omega)
 ·exact lesA
 ·have e : (strOfNums [48 + Int.tmod (m : Int) 10] ++ s).data.toList = UInt8.ofNat (48 + m % 10) :: s.data.toList := by
   rw [hd, strOf_one]
   have : (48 + ((m % 10 : Nat) : Int)).toNat = 48 + m % 10 := by omega
   rw [this]
   simp
  simp only [e]
  refine ⟨Int.le_trans (Int.ofNat_le.2 (Nat.div_le_self m 10)) hm, fun h2 => ?_, fun h2 => ?_⟩
  ·rw [← hs1 hm0, decDig_big (u := m) (by omega)]
   simp
  ·have hm10 : m < 10 := by omega
   rw [← hs1 hm0, Lib.decDigits_one hm10, Nat.mod_eq_of_lt hm10]
   simp
def fS (l : List Int) : ByteArray := ⟨(l.flatMap (fun x => Lib.itoa x)).toArray⟩
def srvT (l : List Int) : ByteArray := if areServers l = true then (if l = [] then ⟨#[110, 111, 110, 101]⟩ else fS l) else ⟨#[]⟩
theorem fS_nil : fS [] = ⟨#[]⟩ := rfl
theorem fS_snoc {l : List Int} {i : Nat} {x : Int} {s : ByteArray} (hs : s = fS (l.take i)) (hx : l[i]? = some x) : s ++ sI x = fS (l.take (i + 1)) := by
 refine bytes_ext ?_
 have e : l.take (i + 1) = l.take i ++ [x] := by rw [List.take_add_one, hx]; rfl
 rw [hs, e]
 simp [fS, sI]
theorem fS_size {l : List Int} (h : ∀ x ∈ l, 0 ≤ x ∧ x ≤ 4) : (fS l).size = l.length := by
 have e : ∀ l : List Int, (∀ x ∈ l, 0 ≤ x ∧ x ≤ 4) → (l.flatMap (fun x => Lib.itoa x)).length = l.length := by
  intro l
  induction l with
  | nil => intro _; rfl
  | cons x r ih =>
    intro h
    have hx := h x (List.mem_cons_self ..)
    rw [List.flatMap_cons, List.length_append, ih (fun y hy => h y (List.mem_cons_of_mem _ hy)), Lib.itoa, if_neg (by omega), Lib.decDigits_one (by omega)]
    simp
    omega
 exact e l h
theorem fS_take_size {l : List Int} {i : Nat} {s : ByteArray} (hs : s = fS (l.take i)) (hA : areServers l = true) : s.size ≤ 5 := by
 rw [hs, fS_size (fun x hx => areServers_rng hA x (List.mem_of_mem_take hx)), List.length_take]
 have := areServers_len hA
 omega
theorem srvT_size {l : List Int} : (srvT l).size ≤ 5 := by
 unfold srvT
 split
 ·rename_i hA
  split
  ·exact (by decide : (4 : Nat) ≤ 5)
  ·have := fS_take_size (l := l) (i := l.length) (s := fS l) (by rw [List.take_length]) hA
   exact this
 ·exact Nat.zero_le _
--import Derived.Shelf.Strings.OnBuilder
theorem w_strings_Join (l : List ByteArray) (sep : ByteArray) (hb : l.length ≤ 1048576) (hz : (Lib.join (l.map (·.data.toList)) sep.data.toList).length ≤ 140737488355328) : Fn Pr n_strings_Join [.sl 1 encS (fun _ => l), .str (fun _ => sep)] (.str (fun _ => ⟨(Lib.join (l.map (·.data.toList)) sep.data.toList).toArray⟩)) := by
 refine ⟨cl_strings_Join, fun w vs F htb hsz hargs => ?_⟩
 have ha := hargs 0 _ rfl
 have hs := hargs 1 _ rfl
 have hsz2 : vs.size = 2 := hsz
 have hvs : vs = #[vs.getD 0 Go.undef, vs.getD 1 Go.undef] := by
  apply Array.ext_getElem?
  intro i
  cases i with
  | zero => rw [Array.getD_eq_getD_getElem?, Array.getElem?_eq_getElem (by omega)]; rfl
  | succ i =>
    cases i with
    | zero => rw [Array.getD_eq_getD_getElem? (i := 1), Array.getElem?_eq_getElem (by omega)]; rfl
    | succ i => rw [Array.getElem?_eq_none (by omega), Array.getElem?_eq_none (by simp)]
 have hs1 : vs.getD 1 Go.undef = .string sep := by
  generalize vs.getD 1 Go.undef = v at hs
  generalize F 1 = f1 at hs
  cases hs
  rfl
 rw [hs1] at hvs
 rw [hvs]
 generalize vs.getD 0 Go.undef = v at ha
 generalize F 0 = f0 at ha
 cases ha with
 | sl0 A h =>
   have h : l = [] := h
   subst h
   refine (Go.Proofs.Any.strings_Join_none layJoin layJoinX A 0 sep w).mono ?_
   rintro e w' ⟨rfl, rfl⟩
   exact ⟨_, [], rfl, .str _, List.nodup_nil, fun g hg => (by cases hg), Below.refl _ _⟩
 | @sl _ _ _ _ g off cap cs t fr u G hn hg hr hu hd =>
   have hblk : g < w.heap.size := (Array.getElem?_eq_some_iff.1 hg).1
   refine (Go.Proofs.Any.strings_Join layJoin layJoinX g off cap l sep w (fun j x hx => ?_) hblk (by omega) hn hz).mono ?_
   ·have h2 : Deep w (.str (fun _ => x)) (u j 0) (G j 0) := hd j x hx 0 (by omega)
    have h3 := hu j x hx 0 (by omega)
    have h4 : u j 0 = .string x := by
     generalize u j 0 = q at h2
     generalize G j 0 = q2 at h2
     cases h2
     rfl
    rw [cell_of hg]
    rw [h4] at h3
    rw [show off + j = off + j * 1 + 0 by omega]
    exact h3
   ·rintro e w' ⟨rfl, hB⟩
    exact ⟨_, [], rfl, .str _, List.nodup_nil, fun g hg => (by cases hg), hB⟩
--import Derived.Lib.ItoaNum
def isD (b : UInt8) : Bool := decide (48 ≤ b.toNat ∧ b.toNat ≤ 57)
theorem isD_iff {b : UInt8} : isD b = true ↔ 48 ≤ b.toNat ∧ b.toNat ≤ 57 := by
 rw [isD, decide_eq_true_iff]
def dv (l : List UInt8) : Nat := l.foldl (fun n b => 10 * n + (b.toNat - 48)) 0
theorem dv_snoc (l : List UInt8) (b : UInt8) : dv (l ++ [b]) = 10 * dv l + (b.toNat - 48) := by
 simp [dv, List.foldl_append]
theorem dig_nat {d : Nat} (h : d < 10) : (UInt8.ofNat (48 + d)).toNat = 48 + d := by
 rw [UInt8.toNat_ofNat']
 omega
theorem dv_dec : ∀ u : Nat, dv (Lib.decDigits u) = u := by
 intro u
 induction u using Nat.strongRecOn with
 | _ u ih =>
   by_cases h : u < 10
   ·rw [Lib.decDigits_one h]
    show 10 * 0 + ((UInt8.ofNat (48 + u)).toNat - 48) = u
    rw [dig_nat h]
    omega
   ·rw [decDig_big h, dv_snoc, ih (u / 10) (by omega), dig_nat (Nat.mod_lt _ (by decide))]
    omega
theorem dec_isD : ∀ (u : Nat) (b : UInt8), b ∈ Lib.decDigits u → isD b = true := by
 intro u
 induction u using Nat.strongRecOn with
 | _ u ih =>
   intro b hb
   by_cases h : u < 10
   ·rw [Lib.decDigits_one h, List.mem_singleton] at hb
    subst hb
    rw [isD_iff, dig_nat h]
    omega
   ·rw [decDig_big h, List.mem_append, List.mem_singleton] at hb
    rcases hb with hb | rfl
    ·exact ih (u / 10) (by omega) b hb
    ·rw [isD_iff, dig_nat (Nat.mod_lt _ (by decide))]
     have := Nat.mod_lt u (y := 10) (by decide)
     omega
theorem dv_lt_k : ∀ (k : Nat) (l : List UInt8), l.length = k → (∀ b ∈ l, isD b = true) → dv l < 10 ^ k := by
 intro k
 induction k with
 | zero =>
   intro l hl _
   rw [List.eq_nil_of_length_eq_zero hl]
   decide
 | succ k ih =>
   intro l hl h
   have hne : l ≠ [] := by intro e; subst e; simp at hl
   have e := List.dropLast_concat_getLast hne
   rw [← e] at h ⊢
   have h1 := ih l.dropLast (by rw [List.length_dropLast]; omega) (fun c hc => h c (List.mem_append_left _ hc))
   have h2 := isD_iff.1 (h (l.getLast hne) (List.mem_append_right _ (List.mem_singleton.2 rfl)))
   rw [dv_snoc, Nat.pow_succ]
   omega
theorem dv_lt (l : List UInt8) (h : ∀ b ∈ l, isD b = true) : dv l < 10 ^ l.length := dv_lt_k _ l rfl h
theorem dv_lt_of {l : List UInt8} {k : Nat} (h : ∀ b ∈ l, isD b = true) (hk : l.length ≤ k) : dv l < 10 ^ k :=
 Nat.lt_of_lt_of_le (dv_lt l h) (Nat.pow_le_pow_right (by decide) hk)
def pT (s : ByteArray) : List UInt8 := if s.data.toList.head? = some 45 then s.data.toList.tail else s.data.toList
def pS (s : ByteArray) : Int := if s.data.toList.head? = some 45 then -1 else 1
def pV (s : ByteArray) : Int := pS s * (dv (pT s) : Int)
def pI (s : ByteArray) : Int × Bool := if 1 ≤ (pT s).length ∧ (pT s).length ≤ 9 ∧ (pT s).all isD = true ∧ sI (pV s) = s then (pV s, true) else (0, false)
theorem sI_form {s : ByteArray} {n : Int} (h : sI n = s) : pT s = Lib.decDigits n.natAbs ∧ (n < 0 → s.data.toList.head? = some 45) ∧ (0 ≤ n → s.data.toList.head? ≠ some 45) := by
 have e := sI_list n
 rw [h, Lib.itoa] at e
 by_cases h0 : n < 0
 ·rw [if_pos h0] at e
  have hh : s.data.toList.head? = some 45 := by rw [e]; rfl
  refine ⟨?_, fun _ => hh, fun h1 => by omega⟩
  rw [pT, if_pos hh, e]
  show Lib.decDigits _ = _
  congr 1
 ·rw [if_neg h0] at e
  have hh : s.data.toList.head? ≠ some 45 := by
   rw [e]
   intro hc
   have hm := dec_isD n.toNat 45 (List.mem_of_mem_head? (by rw [hc]; rfl))
   rw [isD_iff] at hm
   exact absurd hm.1 (by decide)
  refine ⟨?_, fun h1 => absurd h1 h0, fun _ => hh⟩
  rw [pT, if_neg hh, e]
  congr 1
  omega
theorem filter_pT {s : ByteArray} (h : (pT s).all isD = true) : s.data.toList.filter isD = pT s := by
 unfold pT at h ⊢
 split at h
 ·rename_i hh
  rw [if_pos hh]
  cases e : s.data.toList with
  | nil => rfl
  | cons b r =>
    rw [e] at hh h
    have : b = 45 := by simpa using hh
    subst this
    rw [List.filter_cons_of_neg (by decide)]
    show _ = r
    exact List.filter_eq_self.2 (fun x hx => List.all_eq_true.1 h x hx)
 ·rename_i hh
  rw [if_neg hh]
  exact List.filter_eq_self.2 (fun x hx => List.all_eq_true.1 h x hx)
theorem pT_len (s : ByteArray) : (pT s).length ≤ s.size ∧ s.size ≤ (pT s).length + 1 := by
 have e : s.data.toList.length = s.size := rfl
 unfold pT
 split
 ·rw [List.length_tail]; omega
 ·omega
theorem pI_spec (s : ByteArray) : (if (s.data.toList.filter isD).length ≤ 9 ∧ s.size ≤ 10 ∧ sI (pS s * (dv (s.data.toList.filter isD) : Int)) = s then (pS s * (dv (s.data.toList.filter isD) : Int), true) else (0, false)) = pI s := by
 unfold pI
 by_cases h : (s.data.toList.filter isD).length ≤ 9 ∧ s.size ≤ 10 ∧ sI (pS s * (dv (s.data.toList.filter isD) : Int)) = s
 ·rw [if_pos h]
  obtain ⟨h1, h2, h3⟩ := h
  obtain ⟨f1, _, _⟩ := sI_form h3
  have ha : (pT s).all isD = true := List.all_eq_true.2 (fun b hb => dec_isD _ b (by rw [← f1]; exact hb))
  have hf := filter_pT ha
  have hl : 1 ≤ (pT s).length := by
   rw [f1, Lib.decDigits_length]
   exact Lib.nDigits_pos _
  rw [hf] at h1 h3 ⊢
  rw [if_pos ⟨hl, h1, ha, h3⟩]
  rfl
 ·rw [if_neg h]
  by_cases h' : 1 ≤ (pT s).length ∧ (pT s).length ≤ 9 ∧ (pT s).all isD = true ∧ sI (pV s) = s
  ·exfalso
   obtain ⟨g1, g2, g3, g4⟩ := h'
   have hf := filter_pT g3
   have := pT_len s
   refine h ⟨by rw [hf]; exact g2, by omega, ?_⟩
   rw [hf]
   exact g4
  ·rw [if_neg h']
theorem below_grown {w : World} {q : Nat} {os : Array Obj} : Below w.heap.size w (Go.Sort.grow (w.drewN q) os) :=
 ⟨rfl, rfl, rfl, by simp [Go.Sort.grow], fun i hi => by
  show ((w.drewN q).heap ++ os)[i]? = _
  rw [Array.getElem?_append_left (by show i < w.heap.size; omega)]
  rfl⟩
--import Derived.Shelf.Strconv.Itoa3
theorem w_strconv_ItoaG (n : Int) (h0 : -9223372036854775808 ≤ n) (h1 : n ≤ 9223372036854775807) : Fn Pr n_strconv_Itoa [.int .i64 (fun _ => n)] (.str (fun _ => sI n)) := by
 refine ⟨cl_strconv_Itoa, fun w vs F htb hsz hargs => ?_⟩
 have ha := hargs 0 _ rfl
 have hsz1 : vs.size = 1 := hsz
 have hvs : vs = #[.int .i64 n] := by
  apply Array.ext_getElem?
  intro i
  cases i with
  | zero =>
    rw [Array.getD_eq_getD_getElem?, Array.getElem?_eq_getElem (by omega)] at ha
    rw [Array.getElem?_eq_getElem (by omega)]
    generalize vs[0] = v at ha
    generalize F 0 = f1 at ha
    cases ha
    rfl
  | succ i => rw [Array.getElem?_eq_none (by omega), Array.getElem?_eq_none (by simp)]
 rw [hvs]
 refine (Go.Proofs.Any.strconv_Itoa layItoa n h0 h1 w (htb.1 _ tab_here)).mono ?_
 rintro e w' ⟨rfl, k, os, rfl⟩
 exact ⟨_, [], rfl, .str _, List.nodup_nil, fun g hg => (by cases hg), below_grown⟩
theorem w_impl_FormatIntG (n : Int) (h0 : -9223372036854775808 ≤ n) (h1 : n ≤ 9223372036854775807) : Fn Pr n_impl_FormatInt [.int .i64 (fun _ => n)] (.str (fun _ => sI n)) := by
 refine k_impl_FormatInt.fn (by kernel_rfl) ?_
 conv=>arg 4;cbv
 repeat' first
  | (refine Sat.cmp (fun h => ?_) (fun h => ?_) <;> simp only [Cmp.holds] at h <;> (conv=>arg 4;cbv))
  | (refine Sat.call (w_strconv_ItoaG n h0 h1) rfl ledA ?_; conv=>arg 4;cbv)
  | (refine Sat.need ndA ?_; conv=>arg 4;cbv)
  | (refine Sat.idxk (by assumption) ?_; conv=>arg 4;cbv) | (refine Sat.idx ndA (fun v_ hv_ => ?_); conv=>arg 4;cbv)
  | (refine Sat.ari64 ndA ndA ?_; conv=>arg 4;cbv)
  | (refine Sat.pop ?_; conv=>arg 4;cbv)
  | refine Sat.done ?_
 all_goals exact .same _
theorem dig_step {u m : Nat} {s : ByteArray} {x : Int} (hm0 : m ≠ 0) (hs1 : m ≠ 0 → Lib.decDigits m ++ s.data.toList = Lib.decDigits u) (hx : x = ((m % 10 : Nat) : Int)) :
 (m / 10 ≠ 0 → Lib.decDigits (m / 10) ++ (strOfNums [48 + x] ++ s).data.toList = Lib.decDigits u) ∧ (m / 10 = 0 → (strOfNums [48 + x] ++ s).data.toList = Lib.decDigits u) := by
 have e : (strOfNums [48 + x] ++ s).data.toList = UInt8.ofNat (48 + m % 10) :: s.data.toList := by
  rw [hx, strOf_one]
  have : (48 + ((m % 10 : Nat) : Int)).toNat = 48 + m % 10 := by omega
  rw [this]
  simp
 rw [e]
 refine ⟨fun h2 => ?_, fun h2 => ?_⟩
 ·rw [← hs1 hm0, decDig_big (u := m) (by omega)]
  simp
 ·have hm10 : m < 10 := by omega
  rw [← hs1 hm0, Lib.decDigits_one hm10, Nat.mod_eq_of_lt hm10]
  simp
theorem sI_neg {n : Int} (h : n < 0) : (sI n).data.toList = 45 :: Lib.decDigits n.natAbs := by
 rw [sI_list, Lib.itoa, if_pos h]
theorem tmod_neg10 {x : Int} (h : x ≤ 0) : Int.tmod x 10 = -((x.natAbs % 10 : Nat) : Int) := by
 obtain ⟨m, rfl⟩ : ∃ m : Nat, x = -(m : Int) := ⟨x.natAbs, by omega⟩
 rw [Int.neg_tmod, Int.natAbs_neg]; rfl
theorem tdiv_neg10 {x : Int} (h : x ≤ 0) : Int.tdiv x 10 = -((x.natAbs / 10 : Nat) : Int) := by
 obtain ⟨m, rfl⟩ : ∃ m : Nat, x = -(m : Int) := ⟨x.natAbs, by omega⟩
 rw [Int.neg_tdiv, Int.natAbs_neg]; rfl
theorem w_spec_FormatIntN (n : Int) (h0 : n < 0) (h1 : -9223372036854775807 ≤ n) : Fn Pr n_spec_FormatInt [.int .i64 (fun _ => n)] (.str (fun _ => sI n)) := by
 refine k_spec_FormatInt.fn (by kernel_rfl) ?_
 conv=>arg 4;cbv
 refine Sat.cmp (fun h => ?_) (fun h => ?_) <;> simp only [Cmp.holds] at h <;> (conv=>arg 4;cbv)
 ·exfalso; omega
 refine Sat.cmp (fun h => ?_) (fun h => ?_) <;> simp only [Cmp.holds] at h
 rotate_left
 ·exfalso; omega
 conv=>arg 4;cbv
 refine Sat.loopP (ι := Int × ByteArray) (fun i => [(0, .int .i64 (fun _ => i.1)), (3, .str (fun _ => i.2))]) (fun i => []) (fun i => n ≤ i.1 ∧ i.1 ≤ 0 ∧ (i.1.natAbs ≠ 0 → Lib.decDigits i.1.natAbs ++ i.2.data.toList = Lib.decDigits n.natAbs) ∧ (i.1.natAbs = 0 → i.2.data.toList = Lib.decDigits n.natAbs)) (fun i => i.1.natAbs) (n, ⟨#[]⟩) ?_ ⟨Int.le_refl _, by simp only; omega, fun _ => by simp, fun h => by exfalso; simp only at h; omega⟩ (fun i hi => ?_)
 ·exact lesA
 obtain ⟨x, s⟩ := i
 obtain ⟨hm, hx0, hs1, hs2⟩ := hi
 simp only at hm hx0 hs1 hs2
 have hd := tmod_neg10 hx0
 have hq := tdiv_neg10 hx0
 obtain ⟨m, hmx⟩ : ∃ m : Nat, m = x.natAbs := ⟨_, rfl⟩
 rw [← hmx] at hs1 hs2 hd hq
 have hlen : s.size + 2 ≤ 9223372036854775807 := by
  have e2 := nDig_le n.natAbs
  by_cases hm0 : m = 0
  ·have e := congrArg List.length (hs2 hm0)
   rw [Lib.decDigits_length] at e
   have e4 : s.data.toList.length = s.size := rfl
   omega
  ·have e := congrArg List.length (hs1 hm0)
   have e3 := Lib.nDigits_pos m
   rw [List.length_append, Lib.decDigits_length, Lib.decDigits_length] at e
   have e4 : s.data.toList.length = s.size := rfl
   omega
 conv=>arg 4;cbv
 refine Sat.cmp (fun h => ?_) (fun h => ?_) <;> simp only [Cmp.holds] at h <;> (conv=>arg 4;cbv)
 ·refine Sat.pop ?_
  conv=>arg 4;cbv
  refine Sat.need (by
   show (⟨#[45]⟩ : ByteArray).size + s.size ≤ _
   have : (⟨#[45]⟩ : ByteArray).size = 1 := rfl
   omega) ?_
  conv=>arg 4;cbv
  refine Sat.done (.str ?_)
  refine bytes_ext ?_
  rw [sI_neg h0, ← hs2 (by (try dsimp only); (try simp only [ncast] at *); omega)]
  simp
 have hm0 : m ≠ 0 := by (try dsimp only); (try simp only [ncast] at *); omega
 refine Sat.need (by decide) ?_
 conv=>arg 4;cbv
 refine Sat.cmp (fun h => ?_) (fun h => ?_) <;> simp only [Cmp.holds] at h <;> (conv=>arg 4;cbv)
 ·refine Sat.ari64 (by (try dsimp only); (try simp only [ncast] at *); omega) (by (try dsimp only); (try simp only [ncast] at *); omega) ?_
  conv=>arg 4;cbv
  refine Sat.ari64 (by (try dsimp only); (try simp only [ncast] at *); omega) (by (try dsimp only); (try simp only [ncast] at *); omega) ?_
  conv=>arg 4;cbv
  refine Sat.ari8 (by (try dsimp only); (try simp only [ncast] at *); omega) (by (try dsimp only); (try simp only [ncast] at *); omega) ?_
  conv=>arg 4;cbv
  refine Sat.same ?_
  conv=>arg 4;cbv
  refine Sat.need (by
   show (strOfNums [48 + (0 - Int.tmod x 10)]).size + s.size ≤ _
   rw [strOfNums_size]
   simp only [List.length_cons, List.length_nil]
   omega) ?_
  conv=>arg 4;cbv
  refine Sat.need (by decide) ?_
  conv=>arg 4;cbv
  refine Sat.ari64 (by (try dsimp only); (try simp only [ncast] at *); omega) (by (try dsimp only); (try simp only [ncast] at *); omega) ?_
  conv=>arg 4;cbv
  refine Sat.next (Int.tdiv x 10, strOfNums [48 + (0 - Int.tmod x 10)] ++ s) ?_ ?_ (by (try dsimp only); (try simp only [ncast] at *); omega)
  ·exact lesA
  ·have := dig_step (x := 0 - Int.tmod x 10) hm0 hs1 (by omega)
   have e5 : (Int.tdiv x 10).natAbs = m / 10 := by omega
   exact ⟨by (try dsimp only); omega, by (try dsimp only); omega, by (try dsimp only); rw [e5]; exact this.1, by (try dsimp only); rw [e5]; exact this.2⟩
 ·refine Sat.ari64 (by (try dsimp only); (try simp only [ncast] at *); omega) (by (try dsimp only); (try simp only [ncast] at *); omega) ?_
  conv=>arg 4;cbv
  refine Sat.ari8 (by (try dsimp only); (try simp only [ncast] at *); omega) (by (try dsimp only); (try simp only [ncast] at *); omega) ?_
  conv=>arg 4;cbv
  refine Sat.same ?_
  conv=>arg 4;cbv
  refine Sat.need (by
   show (strOfNums [48 + Int.tmod x 10]).size + s.size ≤ _
   rw [strOfNums_size]
   simp only [List.length_cons, List.length_nil]
   omega) ?_
  conv=>arg 4;cbv
  refine Sat.need (by decide) ?_
  conv=>arg 4;cbv
  refine Sat.ari64 (by (try dsimp only); (try simp only [ncast] at *); omega) (by (try dsimp only); (try simp only [ncast] at *); omega) ?_
  conv=>arg 4;cbv
  refine Sat.next (Int.tdiv x 10, strOfNums [48 + Int.tmod x 10] ++ s) ?_ ?_ (by (try dsimp only); (try simp only [ncast] at *); omega)
  ·exact lesA
  ·have := dig_step (x := Int.tmod x 10) hm0 hs1 (by (try dsimp only); (try simp only [ncast] at *); omega)
   have e5 : (Int.tdiv x 10).natAbs = m / 10 := by omega
   exact ⟨by (try dsimp only); omega, by (try dsimp only); omega, by (try dsimp only); rw [e5]; exact this.1, by (try dsimp only); rw [e5]; exact this.2⟩
theorem w_spec_FormatIntG (n : Int) (h0 : -9223372036854775807 ≤ n) (h1 : n ≤ 9223372036854775807) : Fn Pr n_spec_FormatInt [.int .i64 (fun _ => n)] (.str (fun _ => sI n)) := by
 by_cases h : n < 0
 ·exact w_spec_FormatIntN n h h0
 ·exact w_spec_FormatInt n (by omega) h1
theorem byte_at {s : ByteArray} {i : Nat} (h : i < s.size) : s.data.toList[i]? = some (s.get! i) := by
 have h' : i < s.data.size := h
 show s.data.toList[i]? = some (s.data[i]!)
 rw [Array.getElem?_toList, Array.getElem?_eq_getElem h', getElem!_pos s.data i h']
theorem head_at {s : ByteArray} (h : 0 < s.size) : s.data.toList.head? = some (s.get! 0) := by
 rw [← byte_at h, List.head?_eq_getElem?]
theorem head_none {s : ByteArray} (h : s.size = 0) : s.data.toList.head? = none := by
 have : s.data.toList = [] := List.eq_nil_of_length_eq_zero h
 rw [this]; rfl
theorem take_snoc {l : List UInt8} {i : Nat} {b : UInt8} (h : l[i]? = some b) : l.take (i + 1) = l.take i ++ [b] := by rw [List.take_add_one, h]; rfl
theorem byte_45 {b : UInt8} (h : (b.toNat : Int) = 45) : b = 45 := by
 apply UInt8.toNat_inj.1
 show b.toNat = 45
 omega
theorem byte_n45 {b : UInt8} (h : ¬ (b.toNat : Int) = 45) : b ≠ 45 := fun e => h (by rw [e]; rfl)
theorem pI_no {s : ByteArray} (h : ¬ (1 ≤ (pT s).length ∧ (pT s).length ≤ 9 ∧ (pT s).all isD = true ∧ sI (pV s) = s)) : pI s = (0, false) := if_neg h
theorem pI_yes {s : ByteArray} (h : 1 ≤ (pT s).length ∧ (pT s).length ≤ 9 ∧ (pT s).all isD = true ∧ sI (pV s) = s) : pI s = (pV s, true) := if_pos h
theorem pI_low {s : ByteArray} {i : Nat} {b : UInt8} (h : (pT s)[i]? = some b) (hb : b.toNat < 48 ∨ 57 < b.toNat) : pI s = (0, false) := pI_no (fun ⟨_, _, ha, _⟩ => by
 have := isD_iff.1 (List.all_eq_true.1 ha b (List.mem_of_getElem? h))
 omega)
theorem extract_tl (s : ByteArray) : (s.extract 1 s.size).data.toList = s.data.toList.tail := by
 have h : (s.extract 1 s.size).data.toList = s.data.toList.drop 1 := by
  rw [ByteArray.data_extract, Array.toList_extract, List.extract_eq_take_drop]
  exact List.take_of_length_le (by rw [List.length_drop]; show s.data.toList.length - 1 ≤ s.size - 1; exact Nat.le_refl _)
 rw [h, List.drop_one]
end Go.V.T