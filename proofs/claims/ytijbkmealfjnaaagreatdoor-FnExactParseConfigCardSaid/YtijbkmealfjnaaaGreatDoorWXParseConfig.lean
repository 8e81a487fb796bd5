/- Contracts of the functions that FnExactParseConfig reaches: what each returns. Conditions: those that each theorem states. -/
import Derived.Test.YtijbkmealfjnaaaGreatDoorMXParseConfig
import Derived.Lib.ItoaNum
import Derived.Shelf.Strconv.Itoa3
import Derived.Shelf.Strings.OnBuilder
import Derived.Shelf.Strings.Split
namespace Go.V.T
open Go Go.V Go.RowKit
set_option maxRecDepth 100000
set_option linter.unusedVariables false
set_option linter.unusedSimpArgs false
@[ext] structure GConfig where
  Epoch : Int
  Primary : Int
  Replicas : List Int
  Witnesses : List Int
  deriving DecidableEq
def eGConfig (x : GConfig) : Nat → AV
  | 0 => .int .i64 (fun _ => x.Epoch)
  | 1 => .int .i64 (fun _ => x.Primary)
  | 2 => .sl 1 (encI .i64) (fun _ => x.Replicas)
  | 3 => .sl 1 (encI .i64) (fun _ => x.Witnesses)
  | _ => .any
abbrev cGConfig (x : GConfig) : List AV := [.int .i64 (fun _ => x.Epoch), .int .i64 (fun _ => x.Primary), .sl 1 (encI .i64) (fun _ => x.Replicas), .sl 1 (encI .i64) (fun _ => x.Witnesses)]
abbrev aGConfig (x : GConfig) : AV := .agg [.int .i64 (fun _ => x.Epoch), .int .i64 (fun _ => x.Primary), .sl 1 (encI .i64) (fun _ => x.Replicas), .sl 1 (encI .i64) (fun _ => x.Witnesses)]

theorem w_spec_l1In (n a b : Int) : Fn Pr n_spec_l1In [.int .i64 (fun _ => n), .int .i64 (fun _ => a), .int .i64 (fun _ => b)] (.bo (decide (a ≤ n ∧ n ≤ b))) := by
  refine k_spec_l1In.fn (by kernel_rfl) ?_
  conv => arg 4; cbv
  repeat' first
    | (refine Sat.cmp (fun h => ?_) (fun h => ?_) <;> simp only [Cmp.holds] at h <;> (conv => arg 4; cbv))
    | (refine Sat.need ndA ?_; conv => arg 4; cbv)
    | (refine Sat.idxk (by assumption) ?_; conv => arg 4; cbv) | (refine Sat.idx ndA (fun v_ hv_ => ?_); conv => arg 4; cbv)
    | (refine Sat.ari64 ndA ndA ?_; conv => arg 4; cbv)
    | (refine Sat.pop ?_; conv => arg 4; cbv)
    | refine Sat.done ?_
  all_goals refine led_bo ?_ <;> simp <;> omega

theorem w_impl_within (n a b : Int) : Fn Pr n_impl_within [.int .i64 (fun _ => n), .int .i64 (fun _ => a), .int .i64 (fun _ => b)] (.bo (decide (a ≤ n ∧ n ≤ b))) := by
  refine k_impl_within.fn (by kernel_rfl) ?_
  conv => arg 4; cbv
  repeat' first
    | (refine Sat.cmp (fun h => ?_) (fun h => ?_) <;> simp only [Cmp.holds] at h <;> (conv => arg 4; cbv))
    | (refine Sat.need ndA ?_; conv => arg 4; cbv)
    | (refine Sat.idxk (by assumption) ?_; conv => arg 4; cbv) | (refine Sat.idx ndA (fun v_ hv_ => ?_); conv => arg 4; cbv)
    | (refine Sat.ari64 ndA ndA ?_; conv => arg 4; cbv)
    | (refine Sat.pop ?_; conv => arg 4; cbv)
    | refine Sat.done ?_
  all_goals refine led_bo ?_ <;> simp <;> omega

theorem take_ext {α : Type _} {l r : List α} {i : Nat} {x y : α} (hx : l[i]? = some x) (hy : r[i]? = some y) (h : l.take i = r.take i) (e : x = y) : l.take (i + 1) = r.take (i + 1) := by
  rw [List.take_add_one, List.take_add_one, hx, hy, h, e]
theorem ne_of_get {α : Type _} {l r : List α} {i : Nat} {x y : α} (hx : l[i]? = some x) (hy : r[i]? = some y) (h : ¬ x = y) : l ≠ r := fun e => h (by subst e; rw [hx] at hy; exact Option.some.inj hy)
theorem set_take {α : Type _} {l : List α} {i : Nat} {x z : α} (h : l[i]? = some x) : setAt (l.take i ++ List.replicate (l.length - i) z) i x = l.take (i + 1) ++ List.replicate (l.length - (i + 1)) z := by
  have hi := lt_of_get h
  have e : l.length - i = (l.length - (i + 1)) + 1 := by omega
  rw [setAt, e, List.replicate_succ, List.set_append_right _ _ (by simp; omega)]
  have : i - (l.take i).length = 0 := by simp; omega
  rw [this, List.set_cons_zero, List.take_add_one, h]
  simp
def szF (k : Nat) (n : Int) : Int := if n - k < 0 then -1 else n - k
theorem szF_rng {k : Nat} {n : Int} (hn : 0 ≤ n) : -1 ≤ szF k n ∧ szF k n ≤ n := by unfold szF; split <;> omega
theorem szF_le {k : Nat} {n : Int} (h : 0 ≤ szF k n) : (k : Int) ≤ n := by unfold szF at h; split at h <;> omega
def szL {α : Type} (f : α → Int → Int) : List α → Int → Int
  | [], n => n
  | x :: r, n => if f x n < 0 then -1 else szL f r (f x n)
theorem szL_rng {α : Type} {f : α → Int → Int} (hf : ∀ x n, 0 ≤ n → -1 ≤ f x n ∧ f x n ≤ n) : ∀ (l : List α) {n : Int}, 0 ≤ n → -1 ≤ szL f l n ∧ szL f l n ≤ n
  | [], n, h => by simp only [szL]; omega
  | x :: r, n, h => by
    rw [szL]
    have := hf x n h
    split
    · omega
    · have := szL_rng hf r (n := f x n) (by omega)
      omega
theorem drop_get {α : Type _} {l : List α} {i : Nat} {x : α} (h : l[i]? = some x) : l.drop i = x :: l.drop (i + 1) := by
  obtain ⟨hi, rfl⟩ := List.getElem?_eq_some_iff.1 h
  exact List.drop_eq_getElem_cons hi

def bIntS (x : List Int) : Prop := x.length * 8 ≤ 140737488351232

theorem w_laws_eqIntS (x y : List Int) (hb : bIntS x) : Fn Pr n_laws_eqIntS [.sl 1 (encI .i64) (fun _ => x), .sl 1 (encI .i64) (fun _ => y)] (.bo (decide (x = y))) := by
  refine k_laws_eqIntS.fn (by kernel_rfl) ?_
  have h0 : x.length * 8 ≤ 140737488351232 := hb
  conv => arg 4; cbv
  refine Sat.cmp (fun hl => ?_) (fun hl => ?_) <;> simp only [Cmp.holds] at hl <;> (conv => arg 4; cbv)
  · refine Sat.loopP (ι := Nat) (fun i => [(5, .int .i64 (fun _ => (i : Int)))]) (fun i => []) (fun i => i ≤ x.length ∧ x.take i = y.take i) (fun i => x.length - i) 0 ?_ ⟨by omega, by simp⟩ (fun i hi => ?_)
    · exact lesA
    conv => arg 4; cbv
    repeat' first
      | (refine Sat.cmp (fun h => ?_) (fun h => ?_) <;> simp only [Cmp.holds] at h <;> (conv => arg 4; cbv))
      | (refine Sat.need ndA ?_; conv => arg 4; cbv)
      | (refine Sat.idxk (by assumption) ?_; conv => arg 4; cbv) | (refine Sat.idx ndA (fun v_ hv_ => ?_); conv => arg 4; cbv)
      | (refine Sat.ari64 ndA ndA ?_; conv => arg 4; cbv)
      | (refine Sat.pop ?_; conv => arg 4; cbv)
      | refine Sat.next (i + 1) ?_ ?_ (by (try dsimp only); exact arA)
      | refine Sat.done (led_bo (Eq.symm (decide_eq_false (ne_of_get (by assumption) (by assumption) (fun e => by subst e; first | contradiction | (simp_all; done))))))
      | refine Sat.done ?_
    · exact lesA
    · exact ⟨by exact arA, take_ext (by assumption) (by assumption) hi.2 (by assumption)⟩
    · refine led_bo ?_
      have e1 : i = x.length := by exact arA
      have e2 : x.length = y.length := by exact arA
      have := hi.2
      rw [e1, List.take_length, e2, List.take_length] at this
      simp [this]
  · refine Sat.done (led_bo ?_)
    have : x ≠ y := fun e => hl (by rw [e])
    simp [this]

def bConfig (x : GConfig) : Prop := bIntS x.Replicas ∧ bIntS x.Witnesses

theorem w_laws_eqConfig (x y : GConfig) (hb : bConfig x) : Fn Pr n_laws_eqConfig [aGConfig x, aGConfig y] (.bo (decide (x = y))) := by
  refine k_laws_eqConfig.fn (by kernel_rfl) ?_
  conv => arg 4; cbv
  repeat' first
    | (refine Sat.cmp (fun h => ?_) (fun h => ?_) <;> simp only [Cmp.holds] at h <;> (conv => arg 4; cbv))
    | (refine Sat.callb (w_laws_eqIntS x.Replicas y.Replicas hb.1) rfl ledA (fun h => ?_) (fun h => ?_) <;> (try simp only [decide_eq_true_eq, decide_eq_false_iff_not] at h) <;> (conv => arg 4; cbv))
    | (refine Sat.callb (w_laws_eqIntS x.Witnesses y.Witnesses hb.2) rfl ledA (fun h => ?_) (fun h => ?_) <;> (try simp only [decide_eq_true_eq, decide_eq_false_iff_not] at h) <;> (conv => arg 4; cbv))
    | (refine Sat.need ndA ?_; conv => arg 4; cbv)
    | (refine Sat.idxk (by assumption) ?_; conv => arg 4; cbv) | (refine Sat.idx ndA (fun v_ hv_ => ?_); conv => arg 4; cbv)
    | (refine Sat.ari64 ndA ndA ?_; conv => arg 4; cbv)
    | (refine Sat.pop ?_; conv => arg 4; cbv)
    | refine Sat.done ?_
  all_goals refine led_bo ?_
  all_goals (cases x; cases y; simp_all)

/-- The place of the first that holds; -1 where none does. -/
def idxF {α : Type} (p : α → Bool) : List α → Int
  | [] => -1
  | x :: r => if p x = true then 0 else if idxF p r < 0 then -1 else idxF p r + 1
theorem idxF_any {α : Type} {p : α → Bool} : ∀ {l : List α}, (0 ≤ idxF p l ↔ l.any p = true) ∧ -1 ≤ idxF p l
  | [] => by simp [idxF]
  | x :: r => by
    have := idxF_any (p := p) (l := r)
    rw [idxF, List.any_cons]
    by_cases h : p x = true
    · simp [h]
    · rw [if_neg h]
      simp only [Bool.not_eq_true] at h
      rw [h, Bool.false_or, ← this.1]
      split <;> omega
theorem idxF_step {α : Type} {p : α → Bool} {l : List α} {i : Nat} {x : α} (hx : l[i]? = some x) {k : Int} (h : k = if idxF p (l.drop i) < 0 then -1 else idxF p (l.drop i) + i) (hp : p x = false) : k = if idxF p (l.drop (i + 1)) < 0 then -1 else idxF p (l.drop (i + 1)) + (i + 1 : Nat) := by
  simp only [drop_get hx, idxF, hp, Bool.false_eq_true, if_false] at h
  rw [h]
  have := (idxF_any (p := p) (l := l.drop (i + 1))).2
  split <;> split <;> omega
theorem idxF_hit {α : Type} {p : α → Bool} {l : List α} {i : Nat} {x : α} (hx : l[i]? = some x) {k : Int} (h : k = if idxF p (l.drop i) < 0 then -1 else idxF p (l.drop i) + i) (hp : p x = true) : (i : Int) = k := by
  rw [drop_get hx, idxF, if_pos hp] at h
  rw [h]
  simp

def genL {α : Type} (f : Nat → α) (n : Nat) : List α := (List.range n).map f
@[simp] theorem genL_length {α : Type} {f : Nat → α} {n : Nat} : (genL f n).length = n := by simp [genL]
theorem gen_get {α : Type} {f : Nat → α} {n i : Nat} (h : i < n) : (genL f n)[i]? = some (f i) := by simp [genL, h]
theorem set_self {α : Type} {l : List α} {i : Nat} {z : α} (h : i < l.length) : (setAt l i z)[i]? = some z := by simp [setAt, h]
theorem gen_set {α : Type} {f : Nat → α} {l : List α} {i : Nat} (h : i < l.length) : setAt (genL f i ++ l.drop i) i (f i) = genL f (i + 1) ++ l.drop (i + 1) := by
  rw [setAt, List.set_append_right _ _ (by simp)]
  simp only [genL_length, Nat.sub_self]
  rw [List.drop_eq_getElem_cons h, List.set_cons_zero]
  simp [genL, List.range_succ]
theorem held_k {c : Prop} [Decidable c] {a : Int} (h : ¬ (if c then a else -1) < 0) : (if c then a else -1) = a := by
  by_cases e : c
  · rw [if_pos e]
  · rw [if_neg e] at h; omega
theorem Sat.typedG {P : Program} {Q : AV → Prop} {As : List (St → Prop)} {α : Type} {sz : Nat} {enc : α → Nat → AV} {cells : List AV} {c : α → Tree} (z0 : α) (h : ∀ (j : Nat) (x : AV), cells[j]? = some x → LeD x (enc z0 j)) (hc : ∀ z, z = z0 → Sat P Q As (c z)) : Sat P Q As (.typed sz enc cells c) := .typed z0 h (hc z0 rfl)
theorem set_set {α : Type} {l : List α} {i : Nat} {a b : α} : setAt (setAt l i a) i b = setAt l i b := by simp [setAt]

def mkInt (k : Int) : Int := k

def mkIntS (k : Int) (n : Nat) : List Int := genL (fun i => mkInt (k + 1 * i)) n
@[simp] theorem mkIntS_length {k : Int} {n : Nat} : (mkIntS k n).length = n := genL_length

theorem w_laws_markIntS (x : List Int) (k : Int) (hb : bIntS x) (hk : 0 ≤ k ∧ k ≤ 1152921504606846976) : FnM Pr n_laws_markIntS [.ptr 0 0, .int .i64 (fun _ => k)] [.sl 1 (encI .i64) (fun _ => x)] (.agg [.int .i64 (fun _ => k + 1 * (x.length : Int))]) [.sl 1 (encI .i64) (fun _ => mkIntS k x.length)] := by
  refine k_laws_markIntS.fnm (by kernel_rfl) ⟨.mk (by simp [mkIntS]), trivial⟩ ?_
  have h0 : x.length * 8 ≤ 140737488351232 := hb
  conv => arg 4; cbv
  refine Sat.loopP (ι := Nat) (fun i => [(5, .int .i64 (fun _ => (i : Int))), (1, .int .i64 (fun _ => k + 1 * (i : Int)))]) (fun i => [(0, .row 1 (encI .i64) (fun _ => mkIntS k i ++ x.drop i) true)]) (fun i => i ≤ x.length) (fun i => x.length - i) 0 ?_ (by omega) (fun i hi => ?_)
  · refine les_of ?_ ?_ rfl
    iterate 2 (focus repeat' (first | exact trivial | refine And.intro ?_ ?_ | exact levA | refine lev_cons ?_ ?_ | refine LeV.agg rfl ?_ | exact Nat.le_of_ble_eq_true rfl | exact Or.inl ⟨_, rfl, .row rfl⟩ | refine Or.inl ⟨_, rfl, .row ?_⟩ | refine Or.inl ⟨_, rfl, .lit rfl ?_⟩ | exact Or.inr ⟨rfl, rfl⟩ | (first | exact .int (by (try dsimp only); exact arA) | (simp [mkIntS, genL]; done))))
  have hl0 : (mkIntS k i ++ x.drop i).length = x.length := by simp [mkIntS]; omega
  conv => arg 4; cbv
  repeat' first
    | (refine Sat.cmp (fun h => ?_) (fun h => ?_) <;> simp only [Cmp.holds] at h <;> (conv => arg 4; cbv))
    | (refine Sat.need ndA ?_; conv => arg 4; cbv)
    | (refine Sat.idxk (set_self (by (try dsimp only); (try simp only [setAt, List.length_set]); first | omega | (simp only [ncast] at *; omega))) ?_; conv => arg 4; cbv)
    | (refine Sat.idxk (by assumption) ?_; conv => arg 4; cbv) | (refine Sat.idx ndA (fun v_ hv_ => ?_); conv => arg 4; cbv)
    | (refine Sat.ari64 ndA ndA ?_; conv => arg 4; cbv)
    | (refine Sat.pop ?_; conv => arg 4; cbv)
    | (refine Sat.typedG (k + 1 * (i : Int)) (by (repeat' (first | exact tnil | refine tcons ?_ ?_ | exact .same _ | exact .int rfl | exact .str rfl | exact .sl rfl | exact .nil rfl | (refine .sl ?_; simp; done))); (first | done | fail)) (fun v_ hz_ => ?_); conv => arg 4; cbv)
    | refine Sat.next (i + 1) ?_ (by (try dsimp only); exact arA) (by exact arA)
    | refine Sat.done ?_
  · subst_vars
    refine les_of ?_ ?_ rfl
    iterate 2 (focus repeat' (first | exact trivial | refine And.intro ?_ ?_ | exact levA | refine lev_cons ?_ ?_ | refine LeV.agg rfl ?_ | exact Nat.le_of_ble_eq_true rfl | exact Or.inl ⟨_, rfl, .row rfl⟩ | refine Or.inl ⟨_, rfl, .row ?_⟩ | refine Or.inl ⟨_, rfl, .lit rfl ?_⟩ | exact Or.inr ⟨rfl, rfl⟩ | (first | exact .int (by (try dsimp only); exact arA) | (simp only [Int.toNat_natCast, Nat.zero_add, set_set]; exact gen_set (by exact arA)))))
  · refine .tup rfl (led_cons ?_ (led_cons ?_ led_nil))
    · refine .agg rfl (led_cons (.int ?_) led_nil)
      exact arA
    · refine .sl ?_
      have e : i = x.length := by exact arA
      subst e
      simp

theorem w_laws_heldIntS (x : List Int) (k : Int) (hb : bIntS x) (hk : 0 ≤ k ∧ k ≤ 1152921504606846976) : Fn Pr n_laws_heldIntS [.sl 1 (encI .i64) (fun _ => x), .int .i64 (fun _ => k)] (.int .i64 (fun _ => if mkIntS k x.length = x then k + 1 * (x.length : Int) else -1)) := by
  refine k_laws_heldIntS.fn (by kernel_rfl) ?_
  have h0 : x.length * 8 ≤ 140737488351232 := hb
  conv => arg 4; cbv
  refine Sat.loopP (ι := Nat) (fun i => [(5, .int .i64 (fun _ => (i : Int))), (1, .int .i64 (fun _ => k + 1 * (i : Int)))]) (fun i => []) (fun i => i ≤ x.length ∧ x.take i = (mkIntS k x.length).take i) (fun i => x.length - i) 0 ?_ ⟨by omega, by simp⟩ (fun i hi => ?_)
  · refine les_of ?_ ?_ rfl
    iterate 2 (focus repeat' (first | exact trivial | refine And.intro ?_ ?_ | exact levA | refine lev_cons ?_ ?_ | refine LeV.agg rfl ?_ | exact Nat.le_of_ble_eq_true rfl | exact Or.inl ⟨_, rfl, .row rfl⟩ | refine Or.inl ⟨_, rfl, .row ?_⟩ | refine Or.inl ⟨_, rfl, .lit rfl ?_⟩ | exact Or.inr ⟨rfl, rfl⟩ | (exact .int (by (try dsimp only); exact arA))))
  conv => arg 4; cbv
  repeat' first
    | (refine Sat.cmp (fun h => ?_) (fun h => ?_) <;> simp only [Cmp.holds] at h <;> (conv => arg 4; cbv))
    | (refine Sat.need ndA ?_; conv => arg 4; cbv)
    | (refine Sat.idxk (by assumption) ?_; conv => arg 4; cbv) | (refine Sat.idx ndA (fun v_ hv_ => ?_); conv => arg 4; cbv)
    | (refine Sat.ari64 ndA ndA ?_; conv => arg 4; cbv)
    | (refine Sat.pop ?_; conv => arg 4; cbv)
    | refine Sat.next (i + 1) ?_ ?_ (by (try dsimp only); exact arA)
    | refine Sat.done (.int (Eq.symm (if_neg (fun q => ne_of_get (by assumption) (gen_get (by exact arA)) (fun e => by subst e; exact h rfl) q.symm))))
    | refine Sat.done ?_
  · refine les_of ?_ ?_ rfl
    iterate 2 (focus repeat' (first | exact trivial | refine And.intro ?_ ?_ | exact levA | refine lev_cons ?_ ?_ | refine LeV.agg rfl ?_ | exact Nat.le_of_ble_eq_true rfl | exact Or.inl ⟨_, rfl, .row rfl⟩ | refine Or.inl ⟨_, rfl, .row ?_⟩ | refine Or.inl ⟨_, rfl, .lit rfl ?_⟩ | exact Or.inr ⟨rfl, rfl⟩ | (exact .int (by (try dsimp only); exact arA))))
  · exact ⟨by exact arA, take_ext (by assumption) (gen_get (by exact arA)) hi.2 (by assumption)⟩
  · refine .int ?_
    have e1 : i = x.length := by exact arA
    have e2 := hi.2
    rw [e1, List.take_length, List.take_of_length_le (by simp [mkIntS])] at e2
    rw [if_pos e2.symm]
    exact arA

def nConfig (x : GConfig) : Int := 1 * (x.Replicas.length : Int) + 1 * (x.Witnesses.length : Int)
theorem nConfig_rng {x : GConfig} (hb : bConfig x) : 0 ≤ nConfig x ∧ nConfig x ≤ 35184372088832 := by
  have : x.Replicas.length * 8 ≤ 140737488351232 := hb.1
  have : x.Witnesses.length * 8 ≤ 140737488351232 := hb.2
  unfold nConfig
  omega

@[simp] def mkConfig (k : Int) (x : GConfig) : GConfig := { x with Replicas := mkIntS (k) x.Replicas.length, Witnesses := mkIntS (k + 1 * (x.Replicas.length : Int)) x.Witnesses.length }

theorem mkConfig_iff {x : GConfig} {k : Int} : mkConfig k x = x ↔ mkIntS (k) x.Replicas.length = x.Replicas ∧ mkIntS (k + 1 * (x.Replicas.length : Int)) x.Witnesses.length = x.Witnesses := by
  cases x
  simp [mkConfig, GConfig.ext_iff]

theorem w_laws_markConfig (x : GConfig) (k : Int) (hb : bConfig x) (hk : 0 ≤ k ∧ k ≤ 1000000000000000000) : FnM Pr n_laws_markConfig [.agg [.int .i64 (fun _ => x.Epoch), .int .i64 (fun _ => x.Primary), .ptr 0 0, .ptr 1 0], .int .i64 (fun _ => k)] [.sl 1 (encI .i64) (fun _ => x.Replicas), .sl 1 (encI .i64) (fun _ => x.Witnesses)] (.agg [.int .i64 (fun _ => k + nConfig x)]) [.sl 1 (encI .i64) (fun _ => mkIntS (k) x.Replicas.length), .sl 1 (encI .i64) (fun _ => mkIntS (k + 1 * (x.Replicas.length : Int)) x.Witnesses.length)] := by
  refine k_laws_markConfig.fnm (by kernel_rfl) ⟨.mk (by simp [mkIntS]), .mk (by simp [mkIntS]), trivial⟩ ?_
  have : x.Replicas.length * 8 ≤ 140737488351232 := hb.1
  have : x.Witnesses.length * 8 ≤ 140737488351232 := hb.2
  conv => arg 4; cbv
  repeat' first
    | (refine Sat.cmp (fun h => ?_) (fun h => ?_) <;> simp only [Cmp.holds] at h <;> (conv => arg 4; cbv))
    | (refine Sat.callm (w_laws_markIntS x.Replicas (k) hb.1 (by exact arA)) rfl ledA rfl ledA ?_; conv => arg 4; cbv)
    | (refine Sat.callm (w_laws_markIntS x.Witnesses (k + 1 * (x.Replicas.length : Int)) hb.2 (by exact arA)) rfl ledA rfl ledA ?_; conv => arg 4; cbv)
    | (refine Sat.need ndA ?_; conv => arg 4; cbv)
    | (refine Sat.need (by (repeat' (first | exact trivial | refine And.intro ?_ ?_ | rfl | (dsimp only; simp [genL_length]; done))); (first | done | fail)) ?_; conv => arg 4; cbv)
    | (refine Sat.idxk (by assumption) ?_; conv => arg 4; cbv) | (refine Sat.idx ndA (fun v_ hv_ => ?_); conv => arg 4; cbv)
    | (refine Sat.ari64 ndA ndA ?_; conv => arg 4; cbv)
    | (refine Sat.pop ?_; conv => arg 4; cbv)
    | refine Sat.done ?_
  all_goals refine .tup rfl (led_cons ?_ (led_cons ?_ (led_cons ?_ (led_nil))))
  all_goals try exact .agg rfl (led_cons (.int rfl) led_nil)
  all_goals first
    | (refine .agg rfl (led_cons (.int ?_) led_nil); simp only [nConfig, ncast] at *; omega)
    | exact .sl rfl
    | (refine .sl ?_; (try dsimp only); congr 1; (try simp only [nConfig]); omega)

theorem w_laws_heldConfig (x : GConfig) (k : Int) (hb : bConfig x) (hk : 0 ≤ k ∧ k ≤ 1000000000000000000) : Fn Pr n_laws_heldConfig [aGConfig x, .int .i64 (fun _ => k)] (.int .i64 (fun _ => if mkConfig k x = x then k + nConfig x else -1)) := by
  have : x.Replicas.length * 8 ≤ 140737488351232 := hb.1
  have : x.Witnesses.length * 8 ≤ 140737488351232 := hb.2
  refine k_laws_heldConfig.fn (by kernel_rfl) ?_
  conv => arg 4; cbv
  repeat' first
    | (refine Sat.cmp (fun h => ?_) (fun h => ?_) <;> simp only [Cmp.holds] at h <;> (conv => arg 4; cbv))
    | (refine Sat.call (w_laws_heldIntS x.Replicas (k) hb.1 (by exact arA)) rfl (by (repeat' (first | exact led_nil | refine led_cons ?_ ?_ | exact .same _ | exact .int rfl | exact .int (held_k (by assumption)) | exact .sl rfl | exact .str rfl | exact .nil rfl | exact .emp rfl | refine .agg rfl ?_ | refine .tup rfl ?_ | (refine .sl ?_; simp; done))); (first | done | fail)) ?_; conv => arg 4; cbv)
    | (refine Sat.call (w_laws_heldIntS x.Witnesses (k + 1 * (x.Replicas.length : Int)) hb.2 (by exact arA)) rfl (by (repeat' (first | exact led_nil | refine led_cons ?_ ?_ | exact .same _ | exact .int rfl | exact .int (held_k (by assumption)) | exact .sl rfl | exact .str rfl | exact .nil rfl | exact .emp rfl | refine .agg rfl ?_ | refine .tup rfl ?_ | (refine .sl ?_; simp; done))); (first | done | fail)) ?_; conv => arg 4; cbv)
    | (refine Sat.need ndA ?_; conv => arg 4; cbv)
    | (refine Sat.idxk (by assumption) ?_; conv => arg 4; cbv) | (refine Sat.idx ndA (fun v_ hv_ => ?_); conv => arg 4; cbv)
    | (refine Sat.ari64 ndA ndA ?_; conv => arg 4; cbv)
    | (refine Sat.pop ?_; conv => arg 4; cbv)
    | refine Sat.done ?_
  all_goals refine .int ?_
  all_goals simp only [mkConfig_iff]
  all_goals (repeat' split at *)
  all_goals (try simp only [nConfig, ncast] at *)
  all_goals first | omega | (exfalso; simp_all; done) | (exfalso; simp_all; omega)

theorem w_laws_heldConfig_mk (x : GConfig) (k : Int) (hb : bConfig x) (hk : 0 ≤ k ∧ k ≤ 1000000000000000000) : Fn Pr n_laws_heldConfig [aGConfig (mkConfig k x), .int .i64 (fun _ => k)] (.int .i64 (fun _ => k + nConfig x)) := by
  have h := w_laws_heldConfig (mkConfig k x) k (by simpa [bConfig, bIntS, bIntS] using hb) hk
  have e : mkConfig k (mkConfig k x) = mkConfig k x := by simp [nConfig]
  have e2 : nConfig (mkConfig k x) = nConfig x := by simp [nConfig]
  rw [if_pos e, e2] at h
  exact h

theorem flat_encI (k : IntKind) (y : Int) (j : Nat) (hj : j < 1) : flat (encI k y j) = true := rfl

/-- x is put behind all that are not greater. -/
def oins (x : Int) : List Int → List Int
  | [] => [x]
  | y :: r => if x < y then x :: y :: r else y :: oins x r
def isort (l : List Int) : List Int := l.foldl (fun p x => oins x p) []
def Asc (l : List Int) : Prop := l.Pairwise (· ≤ ·)
theorem oins_len {x : Int} : ∀ {l : List Int}, (oins x l).length = l.length + 1
  | [] => rfl
  | y :: r => by
    rw [oins]
    split
    · rfl
    · simp [oins_len (x := x) (l := r)]
theorem isort_snoc {l : List Int} {x : Int} : isort (l ++ [x]) = oins x (isort l) := by simp [isort]
theorem fold_len : ∀ {l p : List Int}, (l.foldl (fun p x => oins x p) p).length = p.length + l.length
  | [], p => by simp
  | x :: r, p => by
    rw [List.foldl_cons, fold_len (l := r), oins_len, List.length_cons]
    omega
theorem isort_len {l : List Int} : (isort l).length = l.length := by rw [isort, fold_len]; simp
theorem oins_mem {x y : Int} : ∀ {l : List Int}, y ∈ oins x l ↔ y = x ∨ y ∈ l
  | [] => by simp [oins]
  | z :: r => by
    rw [oins]
    split
    · simp
    · rw [List.mem_cons, oins_mem (l := r), List.mem_cons]
      constructor
      · rintro (h | h | h)
        · exact .inr (.inl h)
        · exact .inl h
        · exact .inr (.inr h)
      · rintro (h | h | h)
        · exact .inr (.inl h)
        · exact .inl h
        · exact .inr (.inr h)
theorem oins_asc {x : Int} : ∀ {l : List Int}, Asc l → Asc (oins x l)
  | [], _ => by simp [oins, Asc]
  | y :: r, h => by
    obtain ⟨h1, h2⟩ := List.pairwise_cons.1 h
    rw [oins]
    split
    · rename_i hlt
      refine List.pairwise_cons.2 ⟨fun z hz => ?_, h⟩
      rcases List.mem_cons.1 hz with rfl | hz
      · omega
      · have := h1 z hz; omega
    · rename_i hlt
      refine List.pairwise_cons.2 ⟨fun z hz => ?_, oins_asc h2⟩
      rcases oins_mem.1 hz with rfl | hz
      · omega
      · exact h1 z hz
theorem fold_asc : ∀ {l p : List Int}, Asc p → Asc (l.foldl (fun p x => oins x p) p)
  | [], p, h => h
  | x :: r, p, h => fold_asc (l := r) (oins_asc h)
theorem isort_asc (l : List Int) : Asc (isort l) := fold_asc List.Pairwise.nil
theorem fold_mem {y : Int} : ∀ {l p : List Int}, y ∈ l.foldl (fun p x => oins x p) p ↔ y ∈ p ∨ y ∈ l
  | [], p => by simp
  | x :: r, p => by
    rw [List.foldl_cons, fold_mem (l := r), oins_mem, List.mem_cons]
    constructor
    · rintro ((h | h) | h)
      · exact .inr (.inl h)
      · exact .inl h
      · exact .inr (.inr h)
    · rintro (h | h | h)
      · exact .inl (.inr h)
      · exact .inl (.inl h)
      · exact .inr h
theorem isort_mem {y : Int} {l : List Int} : y ∈ isort l ↔ y ∈ l := by rw [isort, fold_mem]; simp
theorem oins_at {x : Int} : ∀ {p q : List Int}, (∀ y ∈ p, y ≤ x) → (∀ y ∈ q, x < y) → oins x (p ++ q) = p ++ x :: q
  | [], [], _, _ => rfl
  | [], y :: q, _, h => by
    have := h y (List.mem_cons_self ..)
    rw [List.nil_append, oins, if_pos this, List.nil_append]
  | z :: p, q, h1, h2 => by
    have := h1 z (List.mem_cons_self ..)
    rw [List.cons_append, oins, if_neg (by omega), oins_at (fun y hy => h1 y (List.mem_cons_of_mem _ hy)) h2, List.cons_append]

theorem get_at {α : Type _} {p q : List α} {x : α} {k : Nat} (h : k = p.length) : (p ++ x :: q)[k]? = some x := by subst h; simp
theorem set_at {α : Type} {p q : List α} {x z : α} {k : Nat} (h : k = p.length) : setAt (p ++ x :: q) k z = p ++ z :: q := by subst h; simp [setAt]
theorem snoc_or {α : Type _} (l : List α) : l = [] ∨ ∃ L b, l = L ++ [b] := by
  rcases List.eq_nil_or_concat l with h | ⟨L, b, h⟩
  · exact .inl h
  · exact .inr ⟨L, b, by rw [h, List.concat_eq_append]⟩
theorem get_at2 {α : Type _} {p t : List α} {y : α} {k : Nat} (h : k = p.length) : ((p ++ [y]) ++ t)[k]? = some y := by subst h; simp
theorem set_at2 {α : Type} {p t : List α} {y z : α} {k : Nat} (h : k = p.length) : setAt ((p ++ [y]) ++ t) k z = (p ++ [z]) ++ t := by subst h; simp [setAt]

theorem w_cmp_isNaN_int (x : Int) : Fn Pr n_cmp_isNaN_int [.int .i64 (fun _ => x)] (.bo false) := by
  refine k_cmp_isNaN_int.fn (by kernel_rfl) ?_
  conv => arg 4; cbv
  repeat' first
    | (refine Sat.cmp (fun h => ?_) (fun h => ?_) <;> simp only [Cmp.holds] at h <;> (conv => arg 4; cbv))
    | (refine Sat.need ndA ?_; conv => arg 4; cbv)
    | (refine Sat.idxk (by assumption) ?_; conv => arg 4; cbv) | (refine Sat.idx ndA (fun v_ hv_ => ?_); conv => arg 4; cbv)
    | (refine Sat.ari64 ndA ndA ?_; conv => arg 4; cbv)
    | (refine Sat.pop ?_; conv => arg 4; cbv)
    | refine Sat.done ?_
  all_goals first | exact led_bo rfl | contradiction | (exfalso; simp_all; done)

theorem w_cmp_Less_int (x y : Int) : Fn Pr n_cmp_Less_int [.int .i64 (fun _ => x), .int .i64 (fun _ => y)] (.bo (decide (x < y))) := by
  refine k_cmp_Less_int.fn (by kernel_rfl) ?_
  conv => arg 4; cbv
  repeat' first
    | (refine Sat.cmp (fun h => ?_) (fun h => ?_) <;> simp only [Cmp.holds] at h <;> (conv => arg 4; cbv))
    | (refine Sat.call (w_cmp_isNaN_int _) rfl ledA ?_; conv => arg 4; cbv)
    | (refine Sat.need ndA ?_; conv => arg 4; cbv)
    | (refine Sat.idxk (by assumption) ?_; conv => arg 4; cbv) | (refine Sat.idx ndA (fun v_ hv_ => ?_); conv => arg 4; cbv)
    | (refine Sat.ari64 ndA ndA ?_; conv => arg 4; cbv)
    | (refine Sat.pop ?_; conv => arg 4; cbv)
    | refine Sat.done ?_
  all_goals refine led_bo ?_
  all_goals simp <;> omega

set_option maxHeartbeats 1000000 in
theorem w_slices_insertionSortOrdered_int (l : List Int) (hb : l.length ≤ 1000000) : FnM Pr n_slices_insertionSortOrdered_int [.ptr 0 0, .int .i64 (fun _ => 0), .int .i64 (fun _ => l.length)] [.sl 1 (encI .i64) (fun _ => l)] (.agg [.tup []]) [.sl 1 (encI .i64) (fun _ => isort l)] := by
  refine k_slices_insertionSortOrdered_int.fnm (by kernel_rfl) ⟨.mk isort_len, trivial⟩ ?_
  conv => arg 4; cbv
  (refine Sat.ari64 ndA ndA ?_; conv => arg 4; cbv)
  have hst : isort (l.take 1) = l.take 1 := by
    cases l with
    | nil => rfl
    | cons a r => simp [isort, oins]
  refine Sat.loopP (ι := Nat) (fun i => [(6, .int .i64 (fun _ => (i : Int)))]) (fun i => [(0, .row 1 (encI .i64) (fun _ => isort (l.take i) ++ l.drop i) true)]) (fun i => 1 ≤ i ∧ i ≤ max 1 l.length) (fun i => l.length - i) 1 ?_ (by omega) (fun i hi => ?_)
  · refine les_of ?_ ?_ rfl
    iterate 2 (focus repeat' (first | exact trivial | refine And.intro ?_ ?_ | exact levA | refine lev_cons ?_ ?_ | refine LeV.agg rfl ?_ | exact Nat.le_of_ble_eq_true rfl | exact Or.inl ⟨_, rfl, .row rfl⟩ | refine Or.inl ⟨_, rfl, .row ?_⟩ | refine Or.inl ⟨_, rfl, .lit rfl ?_⟩ | exact Or.inr ⟨rfl, rfl⟩ | (first | exact .int (by (try dsimp only); exact arA) | (show l = isort (l.take 1) ++ l.drop 1; rw [hst, List.take_append_drop]))))
  have hl0 : (isort (l.take i)).length = min i l.length := by rw [isort_len]; simp
  conv => arg 4; cbv
  refine Sat.cmp (fun h => ?_) (fun h => ?_) <;> simp only [Cmp.holds] at h <;> (conv => arg 4; cbv)
  · have hil : i < l.length := by exact arA
    obtain ⟨x, hx⟩ : ∃ x, l[i]? = some x := ⟨_, List.getElem?_eq_getElem hil⟩
    refine Sat.loopP (ι := List Int × List Int) (fun p => [(7, .int .i64 (fun _ => (p.1.length : Int)))]) (fun p => [(0, .row 1 (encI .i64) (fun _ => p.1 ++ x :: (p.2 ++ l.drop (i + 1))) true)]) (fun p => p.1 ++ p.2 = isort (l.take i) ∧ ∀ y ∈ p.2, x < y) (fun p => p.1.length) (isort (l.take i), []) ?_ ⟨by simp, by simp⟩ (fun p hp => ?_)
    · refine les_of ?_ ?_ rfl
      iterate 2 (focus repeat' (first | exact trivial | refine And.intro ?_ ?_ | exact levA | refine lev_cons ?_ ?_ | refine LeV.agg rfl ?_ | exact Nat.le_of_ble_eq_true rfl | exact Or.inl ⟨_, rfl, .row rfl⟩ | refine Or.inl ⟨_, rfl, .row ?_⟩ | refine Or.inl ⟨_, rfl, .lit rfl ?_⟩ | exact Or.inr ⟨rfl, rfl⟩ | (first | exact .int (by (try dsimp only); exact arA) | (rw [drop_get hx]; simp; done))))
    obtain ⟨p1, p2⟩ := p
    obtain ⟨hp1, hp2⟩ := hp
    have hlen : p1.length + p2.length = i := by have := congrArg List.length hp1; rw [List.length_append, hl0] at this; simp only at this; omega
    have hdl : (l.drop (i + 1)).length = l.length - (i + 1) := by simp
    conv => arg 4; cbv
    dsimp only at hp1 hp2
    rcases snoc_or p1 with rfl | ⟨p0, y, rfl⟩
    · -- the begin
      have hi2 : oins x (isort (l.take i)) = [] ++ x :: p2 := by rw [← hp1]; exact oins_at (p := []) (by simp) hp2
      refine Sat.cmp (fun h => ?_) (fun h => ?_) <;> simp only [Cmp.holds] at h <;> (conv => arg 4; cbv)
      · exact absurd h (by simp)
      repeat' first
        | (refine Sat.pop ?_; conv => arg 4; cbv)
        | (refine Sat.ari64 ndA ndA ?_; conv => arg 4; cbv)
        | refine Sat.next (i + 1) ?_ ?_ (by (try dsimp only); exact arA)
      · refine les_of ?_ ?_ rfl
        iterate 2 (focus repeat' (first | exact trivial | refine And.intro ?_ ?_ | exact levA | refine lev_cons ?_ ?_ | refine LeV.agg rfl ?_ | exact Nat.le_of_ble_eq_true rfl | exact Or.inl ⟨_, rfl, .row rfl⟩ | refine Or.inl ⟨_, rfl, .row ?_⟩ | refine Or.inl ⟨_, rfl, .lit rfl ?_⟩ | exact Or.inr ⟨rfl, rfl⟩ | (first | exact .int (by (try dsimp only); exact arA) | (show [] ++ x :: (p2 ++ l.drop (i + 1)) = isort (l.take (i + 1)) ++ l.drop (i + 1); rw [List.take_add_one, hx]; simp [isort_snoc, hi2]))))
      · exact arA
    · have hy1 : y ∈ isort (l.take i) := by rw [← hp1]; simp
      have hle : ∀ z ∈ p0, z ≤ y := fun z hz => by
        have ha := isort_asc (l.take i)
        rw [← hp1, Asc, List.pairwise_append] at ha
        exact (List.pairwise_append.1 ha.1).2.2 z hz y (by simp)
      have hi2 : y ≤ x → oins x (isort (l.take i)) = (p0 ++ [y]) ++ x :: p2 := fun hyx => by
        rw [← hp1]
        refine oins_at (fun z hz => ?_) hp2
        rcases List.mem_append.1 hz with hz | hz
        · have := hle z hz; omega
        · simp at hz; omega
      simp only [List.length_append, List.length_singleton] at hlen
      repeat' first
        | (refine Sat.cmp (fun h => ?_) (fun h => ?_) <;> simp only [Cmp.holds] at h <;> (conv => arg 4; cbv))
        | (refine Sat.need (by (try dsimp only); simp only [ncast, setAt, List.length_set, List.length_append, List.length_cons, List.length_nil] at *; omega) ?_; conv => arg 4; cbv)
        | (refine Sat.idxk (get_at (by (try dsimp only); simp only [ncast, List.length_append, List.length_cons, List.length_nil] at *; omega)) ?_; conv => arg 4; cbv)
        | (refine Sat.idxk (get_at2 (by (try dsimp only); simp only [ncast, List.length_append, List.length_cons, List.length_nil] at *; omega)) ?_; conv => arg 4; cbv)
        | (refine Sat.idx (by (try dsimp only); simp only [ncast, setAt, List.length_set, List.length_append, List.length_cons, List.length_nil] at *; omega) (fun v_ hv_ => ?_); conv => arg 4; cbv)
        | (refine Sat.callb (w_cmp_Less_int _ _) rfl ledA (fun h => ?_) (fun h => ?_) <;> (try simp only [decide_eq_true_eq, decide_eq_false_iff_not] at h) <;> (conv => arg 4; cbv))
        | (refine Sat.typed _ tcA ?_; conv => arg 4; cbv)
        | (refine Sat.ari64 (by (try dsimp only); simp only [ncast, List.length_append, List.length_cons, List.length_nil] at *; omega) (by (try dsimp only); simp only [ncast, List.length_append, List.length_cons, List.length_nil] at *; omega) ?_; conv => arg 4; cbv)
        | refine Sat.next (p0, y :: p2) ?_ ?_ (by simp)
        | (refine Sat.pop ?_; conv => arg 4; cbv)
        | refine Sat.next (i + 1) ?_ ?_ (by (try dsimp only); exact arA)
      · refine les_of ?_ ?_ rfl
        iterate 2 (focus repeat' (first | exact trivial | refine And.intro ?_ ?_ | exact levA | refine lev_cons ?_ ?_ | refine LeV.agg rfl ?_ | exact Nat.le_of_ble_eq_true rfl | exact Or.inl ⟨_, rfl, .row rfl⟩ | refine Or.inl ⟨_, rfl, .row ?_⟩ | refine Or.inl ⟨_, rfl, .lit rfl ?_⟩ | exact Or.inr ⟨rfl, rfl⟩ | (first | exact .int (by (try dsimp only); simp only [ncast, List.length_append, List.length_cons, List.length_nil] at *; omega) | (show setAt (setAt ((p0 ++ [y]) ++ x :: (p2 ++ l.drop (i + 1))) _ y) _ x = p0 ++ x :: ((y :: p2) ++ l.drop (i + 1)); rw [set_at (by (try dsimp only); simp only [ncast, List.length_append, List.length_cons, List.length_nil] at *; omega), set_at2 (by (try dsimp only); simp only [ncast, List.length_append, List.length_cons, List.length_nil] at *; omega)]; simp))))
      · exact ⟨by rw [← hp1]; simp, fun z hz => by
          rcases List.mem_cons.1 hz with rfl | hz
          · exact h
          · exact hp2 z hz⟩
      · refine les_of ?_ ?_ rfl
        iterate 2 (focus repeat' (first | exact trivial | refine And.intro ?_ ?_ | exact levA | refine lev_cons ?_ ?_ | refine LeV.agg rfl ?_ | exact Nat.le_of_ble_eq_true rfl | exact Or.inl ⟨_, rfl, .row rfl⟩ | refine Or.inl ⟨_, rfl, .row ?_⟩ | refine Or.inl ⟨_, rfl, .lit rfl ?_⟩ | exact Or.inr ⟨rfl, rfl⟩ | (first | exact .int (by (try dsimp only); exact arA) | (show (p0 ++ [y]) ++ x :: (p2 ++ l.drop (i + 1)) = isort (l.take (i + 1)) ++ l.drop (i + 1); rw [List.take_add_one, hx]; simp [isort_snoc, hi2 (by omega)]))))
      · exact arA
      all_goals exact absurd (by simp only [ncast, List.length_append, List.length_cons, List.length_nil]; omega) h
  · repeat' first
      | (refine Sat.pop ?_; conv => arg 4; cbv)
      | refine Sat.done ?_
    have e : l.take i = l := List.take_of_length_le (by exact arA)
    refine .tup rfl (led_cons (.same _) (led_cons (.sl ?_) led_nil))
    rw [e]; simp; exact arA

theorem Sat.ariu64 {P : Program} {Q : AV → Prop} {As : List (St → Prop)} {v : Unit → Int} {c : (Unit → Int) → Tree} (h1 : 0 ≤ v ()) (h2 : v () ≤ 18446744073709551615) (hc : Sat P Q As (c v)) : Sat P Q As (.ari .u64 v c) := .ari (IntWalk.u64_in _ ⟨h1, h2⟩) hc
theorem Sat.ariu8 {P : Program} {Q : AV → Prop} {As : List (St → Prop)} {v : Unit → Int} {c : (Unit → Int) → Tree} (h1 : 0 ≤ v ()) (h2 : v () ≤ 255) (hc : Sat P Q As (c v)) : Sat P Q As (.ari .u8 v c) := .ari (IntWalk.u8_in _ ⟨h1, h2⟩) hc
def len4 (n : Int) : Int := if n = 0 then 0 else if n < 2 then 1 else if n < 4 then 2 else if n < 8 then 3 else 4

theorem w_math_bits_Len64 (n : Int) (hn : 0 ≤ n ∧ n ≤ 12) : Fn Pr n_math_bits_Len64 [.int .u64 (fun _ => n)] (.int .i64 (fun _ => len4 n)) := by
  have hk : n = 0 ∨ n = 1 ∨ n = 2 ∨ n = 3 ∨ n = 4 ∨ n = 5 ∨ n = 6 ∨ n = 7 ∨ n = 8 ∨ n = 9 ∨ n = 10 ∨ n = 11 ∨ n = 12 := by omega
  rcases hk with rfl | rfl | rfl | rfl | rfl | rfl | rfl | rfl | rfl | rfl | rfl | rfl | rfl
  all_goals
    refine k_math_bits_Len64.fn (by kernel_rfl) ?_
    conv => arg 4; cbv
    repeat' first
      | (refine Sat.cmp (fun h => by exfalso; simp only [Cmp.holds] at h; omega) (fun h => ?_); conv => arg 4; cbv)
      | (refine Sat.need (by (try dsimp only); exact ⟨by decide, by decide⟩) ?_; conv => arg 4; cbv)
      | (refine Sat.ariu8 (by (try dsimp only); omega) (by (try dsimp only); omega) ?_; conv => arg 4; cbv)
      | (refine Sat.ari64 ndA ndA ?_; conv => arg 4; cbv)
      | (refine Sat.ari64 (by (try dsimp only); decide) (by (try dsimp only); decide) ?_; conv => arg 4; cbv)
      | refine Sat.done (.int ?_)
    rfl

theorem w_math_bits_Len (n : Int) (hn : 0 ≤ n ∧ n ≤ 12) : Fn Pr n_math_bits_Len [.int .u64 (fun _ => n)] (.int .i64 (fun _ => len4 n)) := by
  refine k_math_bits_Len.fn (by kernel_rfl) ?_
  conv => arg 4; cbv
  repeat' first
    | (refine Sat.cmp (fun h => ?_) (fun h => ?_) <;> simp only [Cmp.holds] at h <;> (conv => arg 4; cbv))
    | (refine Sat.call (w_math_bits_Len64 n hn) rfl ledA ?_; conv => arg 4; cbv)
    | (refine Sat.need ndA ?_; conv => arg 4; cbv)
    | (refine Sat.idxk (by assumption) ?_; conv => arg 4; cbv) | (refine Sat.idx ndA (fun v_ hv_ => ?_); conv => arg 4; cbv)
    | (refine Sat.ari64 ndA ndA ?_; conv => arg 4; cbv)
    | (refine Sat.pop ?_; conv => arg 4; cbv)
    | refine Sat.done ?_
  all_goals exact .int rfl

theorem w_slices_pdqsortOrdered_int (l : List Int) (k : Int) (hb : l.length ≤ 12) : FnM Pr n_slices_pdqsortOrdered_int [.ptr 0 0, .int .i64 (fun _ => 0), .int .i64 (fun _ => l.length), .int .i64 (fun _ => k)] [.sl 1 (encI .i64) (fun _ => l)] (.agg [.tup []]) [.sl 1 (encI .i64) (fun _ => isort l)] := by
  refine k_slices_pdqsortOrdered_int.fnm (by kernel_rfl) ⟨.mk isort_len, trivial⟩ ?_
  conv => arg 4; cbv
  refine Sat.loopP (ι := Unit) (fun i => []) (fun i => []) (fun i => True) (fun i => 0) () ?_ trivial (fun i hi => ?_)
  · exact lesA
  conv => arg 4; cbv
  (refine Sat.ari64 ndA ndA ?_; conv => arg 4; cbv)
  refine Sat.cmp (fun h => ?_) (fun h => by exfalso; simp only [Cmp.holds] at h; exact arA)
  conv => arg 4; cbv
  repeat' first
    | (refine Sat.cmp (fun h => ?_) (fun h => ?_) <;> simp only [Cmp.holds] at h <;> (conv => arg 4; cbv))
    | (refine Sat.callm (w_slices_insertionSortOrdered_int l (by omega)) rfl ledA rfl ledA ?_; conv => arg 4; cbv)
    | (refine Sat.need ndA ?_; conv => arg 4; cbv)
    | (refine Sat.need (by (repeat' (first | exact trivial | refine And.intro ?_ ?_ | rfl | (dsimp only; simp [genL_length]; done))); (first | done | fail)) ?_; conv => arg 4; cbv)
    | (refine Sat.idxk (by assumption) ?_; conv => arg 4; cbv) | (refine Sat.idx ndA (fun v_ hv_ => ?_); conv => arg 4; cbv)
    | (refine Sat.ari64 ndA ndA ?_; conv => arg 4; cbv)
    | (refine Sat.pop ?_; conv => arg 4; cbv)
    | refine Sat.done ?_
  all_goals refine .tup rfl (led_cons (.same _) (led_cons (.sl rfl) led_nil))

theorem w_slices_Sort_intint (l : List Int) (hb : l.length ≤ 12) : FnM Pr n_slices_Sort_intint [.ptr 0 0] [.sl 1 (encI .i64) (fun _ => l)] (.agg [.tup []]) [.sl 1 (encI .i64) (fun _ => isort l)] := by
  refine k_slices_Sort_intint.fnm (by kernel_rfl) ⟨.mk isort_len, trivial⟩ ?_
  conv => arg 4; cbv
  repeat' first
    | (refine Sat.cmp (fun h => ?_) (fun h => ?_) <;> simp only [Cmp.holds] at h <;> (conv => arg 4; cbv))
    | (refine Sat.call (w_math_bits_Len (l.length : Int) (by omega)) rfl ledA ?_; conv => arg 4; cbv)
    | (refine Sat.callm (w_slices_pdqsortOrdered_int l (len4 (l.length : Int)) hb) rfl ledA rfl ledA ?_; conv => arg 4; cbv)
    | (refine Sat.ariu64 (by (try dsimp only); exact arA) (by (try dsimp only); exact arA) ?_; conv => arg 4; cbv)
    | (refine Sat.need ndA ?_; conv => arg 4; cbv)
    | (refine Sat.need (by (repeat' (first | exact trivial | refine And.intro ?_ ?_ | rfl | (dsimp only; simp [genL_length]; done))); (first | done | fail)) ?_; conv => arg 4; cbv)
    | (refine Sat.idxk (by assumption) ?_; conv => arg 4; cbv) | (refine Sat.idx ndA (fun v_ hv_ => ?_); conv => arg 4; cbv)
    | (refine Sat.ari64 ndA ndA ?_; conv => arg 4; cbv)
    | (refine Sat.pop ?_; conv => arg 4; cbv)
    | refine Sat.done ?_
  all_goals refine .tup rfl (led_cons (.same _) (led_cons (.sl rfl) led_nil))

theorem w_slices_Index_intint (l : List Int) (v : Int) (hb : bIntS l) : Fn Pr n_slices_Index_intint [.sl 1 (encI .i64) (fun _ => l), .int .i64 (fun _ => v)] (.int .i64 (fun _ => idxF (fun x => decide (v = x)) l)) := by
  refine k_slices_Index_intint.fn (by kernel_rfl) ?_
  have h0 : l.length * 8 ≤ 140737488351232 := hb
  conv => arg 4; cbv
  refine Sat.loopP (ι := Nat) (fun i => [(8, .int .i64 (fun _ => (i : Int)))]) (fun i => []) (fun i => i ≤ l.length ∧ idxF (fun x => decide (v = x)) l = if idxF (fun x => decide (v = x)) (l.drop i) < 0 then -1 else idxF (fun x => decide (v = x)) (l.drop i) + i) (fun i => l.length - i) 0 ?_ ⟨by omega, by have := (idxF_any (p := fun x => decide (v = x)) (l := l)).2; simp; omega⟩ (fun i hi => ?_)
  · exact lesA
  conv => arg 4; cbv
  repeat' first
    | (refine Sat.cmp (fun h => ?_) (fun h => ?_) <;> simp only [Cmp.holds] at h <;> (conv => arg 4; cbv))
    | (refine Sat.need ndA ?_; conv => arg 4; cbv)
    | (refine Sat.idxk (by assumption) ?_; conv => arg 4; cbv) | (refine Sat.idx ndA (fun v_ hv_ => ?_); conv => arg 4; cbv)
    | (refine Sat.ari64 ndA ndA ?_; conv => arg 4; cbv)
    | (refine Sat.pop ?_; conv => arg 4; cbv)
    | refine Sat.next (i + 1) ?_ ?_ (by (try dsimp only); exact arA)
    | refine Sat.done ?_
  · refine .int ?_
    exact idxF_hit (by assumption) hi.2 (decide_eq_true h)
  · exact lesA
  · exact ⟨by exact arA, idxF_step (by assumption) hi.2 (decide_eq_false h)⟩
  · refine .int ?_
    have e1 : i = l.length := by exact arA
    rw [hi.2, e1, List.drop_length, idxF]
    simp

theorem any_mem {v : Int} {l : List Int} : l.any (fun x => decide (v = x)) = decide (v ∈ l) := by
  rw [Bool.eq_iff_iff, List.any_eq_true, decide_eq_true_eq]
  constructor
  · rintro ⟨x, h1, h2⟩; simp at h2; subst h2; exact h1
  · exact fun h => ⟨v, h, by simp⟩
theorem w_slices_Contains_intint (l : List Int) (v : Int) (hb : bIntS l) : Fn Pr n_slices_Contains_intint [.sl 1 (encI .i64) (fun _ => l), .int .i64 (fun _ => v)] (.bo (decide (v ∈ l))) := by
  refine k_slices_Contains_intint.fn (by kernel_rfl) ?_
  conv => arg 4; cbv
  repeat' first
    | (refine Sat.cmp (fun h => ?_) (fun h => ?_) <;> simp only [Cmp.holds] at h <;> (conv => arg 4; cbv))
    | (refine Sat.call (w_slices_Index_intint l v hb) rfl ledA ?_; conv => arg 4; cbv)
    | (refine Sat.need ndA ?_; conv => arg 4; cbv)
    | (refine Sat.idxk (by assumption) ?_; conv => arg 4; cbv) | (refine Sat.idx ndA (fun v_ hv_ => ?_); conv => arg 4; cbv)
    | (refine Sat.ari64 ndA ndA ?_; conv => arg 4; cbv)
    | (refine Sat.pop ?_; conv => arg 4; cbv)
    | refine Sat.done ?_
  all_goals refine led_bo ?_
  all_goals have q := (idxF_any (p := fun x => decide (v = x)) (l := l)).1
  all_goals rw [any_mem, decide_eq_true_eq] at q
  · exact (decide_eq_true (q.1 h)).symm
  · exact (decide_eq_false (fun e => h (q.2 e))).symm

theorem w_impl_HasServer (l : List Int) (v : Int) (hb : bIntS l) : Fn Pr n_impl_HasServer [.sl 1 (encI .i64) (fun _ => l), .int .i64 (fun _ => v)] (.bo (decide (v ∈ l))) := by
  refine k_impl_HasServer.fn (by kernel_rfl) ?_
  conv => arg 4; cbv
  repeat' first
    | (refine Sat.cmp (fun h => ?_) (fun h => ?_) <;> simp only [Cmp.holds] at h <;> (conv => arg 4; cbv))
    | (refine Sat.callb (w_slices_Contains_intint l v hb) rfl ledA (fun h => ?_) (fun h => ?_) <;> (try simp only [decide_eq_true_eq, decide_eq_false_iff_not] at h) <;> (conv => arg 4; cbv))
    | (refine Sat.need ndA ?_; conv => arg 4; cbv)
    | (refine Sat.idxk (by assumption) ?_; conv => arg 4; cbv) | (refine Sat.idx ndA (fun v_ hv_ => ?_); conv => arg 4; cbv)
    | (refine Sat.ari64 ndA ndA ?_; conv => arg 4; cbv)
    | (refine Sat.pop ?_; conv => arg 4; cbv)
    | refine Sat.done ?_
  all_goals refine led_bo ?_
  all_goals simp_all

theorem w_spec_HasServer (l : List Int) (v : Int) (hb : bIntS l) : Fn Pr n_spec_HasServer [.sl 1 (encI .i64) (fun _ => l), .int .i64 (fun _ => v)] (.bo (decide (v ∈ l))) := by
  refine k_spec_HasServer.fn (by kernel_rfl) ?_
  have h0 : l.length * 8 ≤ 140737488351232 := hb
  conv => arg 4; cbv
  refine Sat.loopP (ι := Nat) (fun i => [(5, .int .i64 (fun _ => (i : Int)))]) (fun i => []) (fun i => i ≤ l.length ∧ (v ∈ l ↔ v ∈ l.drop i)) (fun i => l.length - i) 0 ?_ ⟨by omega, by simp⟩ (fun i hi => ?_)
  · exact lesA
  conv => arg 4; cbv
  repeat' first
    | (refine Sat.cmp (fun h => ?_) (fun h => ?_) <;> simp only [Cmp.holds] at h <;> (conv => arg 4; cbv))
    | (refine Sat.need ndA ?_; conv => arg 4; cbv)
    | (refine Sat.idxk (by assumption) ?_; conv => arg 4; cbv) | (refine Sat.idx ndA (fun v_ hv_ => ?_); conv => arg 4; cbv)
    | (refine Sat.ari64 ndA ndA ?_; conv => arg 4; cbv)
    | (refine Sat.pop ?_; conv => arg 4; cbv)
    | refine Sat.next (i + 1) ?_ ?_ (by (try dsimp only); exact arA)
    | refine Sat.done ?_
  · refine led_bo (decide_eq_true ?_).symm
    rw [hi.2, drop_get (i := i) hv_, h]
    exact List.mem_cons_self ..
  · exact lesA
  · refine ⟨by exact arA, ?_⟩
    rw [hi.2, drop_get (i := i) hv_, List.mem_cons]
    exact ⟨fun q => q.elim (fun e => absurd e.symm h) id, .inr⟩
  · refine led_bo (decide_eq_false ?_).symm
    have e1 : i = l.length := by exact arA
    rw [hi.2, e1, List.drop_length]
    simp

/-- Each run of equal numbers once. -/
def ddf (p : List Int) (x : Int) : List Int := if p.getLast? = some x then p else p ++ [x]
def dd (l : List Int) : List Int := l.foldl ddf []
theorem dd_snoc {l : List Int} {x : Int} : dd (l ++ [x]) = if (dd l).getLast? = some x then dd l else dd l ++ [x] := by rw [dd, List.foldl_append]; rfl
theorem snoc_ind {α : Type} {p : List α → Prop} (h0 : p []) (h1 : ∀ l x, p l → p (l ++ [x])) (l : List α) : p l := by
  have key : ∀ n (l : List α), l.length = n → p l := by
    intro n
    induction n with
    | zero => intro l hl; rw [List.eq_nil_of_length_eq_zero hl]; exact h0
    | succ n ih =>
      intro l hl
      rcases List.eq_nil_or_concat l with rfl | ⟨L, b, rfl⟩
      · simp at hl
      · rw [List.concat_eq_append] at hl ⊢
        exact h1 L b (ih L (by simpa using hl))
  exact key _ l rfl
theorem dd_last (l : List Int) : (dd l).getLast? = l.getLast? := by
  refine snoc_ind (p := fun l => (dd l).getLast? = l.getLast?) rfl (fun l x h => ?_) l
  rw [dd_snoc]
  split
  · rename_i e; rw [e]; simp
  · simp
theorem dd_len (l : List Int) : (dd l).length ≤ l.length := by
  refine snoc_ind (p := fun l => (dd l).length ≤ l.length) (by simp [dd]) (fun l x h => ?_) l
  rw [dd_snoc]
  split <;> simp <;> omega
theorem dd_mem {y : Int} (l : List Int) : y ∈ dd l ↔ y ∈ l := by
  refine snoc_ind (p := fun l => y ∈ dd l ↔ y ∈ l) (by simp [dd]) (fun l x h => ?_) l
  rw [dd_snoc]
  split
  · rename_i e
    rw [List.mem_append, h, List.mem_singleton]
    exact ⟨.inl, fun q => q.elim id (fun q => by subst q; exact h.1 (List.mem_of_getLast? e))⟩
  · rw [List.mem_append, List.mem_append, h]
def SAsc (l : List Int) : Prop := l.Pairwise (· < ·)
theorem dd_strict (l : List Int) : Asc l → SAsc (dd l) := by
  refine snoc_ind (p := fun l => Asc l → SAsc (dd l)) (fun _ => by simp [dd, SAsc]) (fun l x h ha => ?_) l
  rw [Asc, List.pairwise_append] at ha
  rw [dd_snoc]
  split
  · exact h ha.1
  · rename_i e
    rw [SAsc, List.pairwise_append]
    refine ⟨h ha.1, by simp, fun y hy z hz => ?_⟩
    rw [List.mem_singleton] at hz
    subst hz
    have h1 := ha.2.2 y ((dd_mem l).1 hy) z (by simp)
    rcases Int.lt_or_eq_of_le h1 with h1 | h1
    · exact h1
    · exfalso
      subst h1
      -- the last is the greatest
      have hs := h ha.1
      rcases List.eq_nil_or_concat (dd l) with e2 | ⟨L, b, e2⟩
      · rw [e2] at hy; cases hy
      · rw [List.concat_eq_append] at e2
        rw [e2] at e hs hy
        rw [SAsc, List.pairwise_append] at hs
        have hbz : b ≤ y := ha.2.2 b ((dd_mem l).1 (by rw [e2]; simp)) y (by simp)
        rcases List.mem_append.1 hy with hy | hy
        · have := hs.2.2 y hy b (by simp); omega
        · simp at hy; subst hy; simp at e
/-- Two strictly ascending lists of the same numbers are the same. -/
theorem sasc_eq : ∀ {a b : List Int}, SAsc a → SAsc b → (∀ y, y ∈ a ↔ y ∈ b) → a = b
  | [], [], _, _, _ => rfl
  | [], y :: b, _, _, h => by have := (h y).2 (List.mem_cons_self ..); cases this
  | x :: a, [], _, _, h => by have := (h x).1 (List.mem_cons_self ..); cases this
  | x :: a, y :: b, ha, hb, h => by
    obtain ⟨ha1, ha2⟩ := List.pairwise_cons.1 ha
    obtain ⟨hb1, hb2⟩ := List.pairwise_cons.1 hb
    have hx := (h x).1 (List.mem_cons_self ..)
    have hy := (h y).2 (List.mem_cons_self ..)
    have e : x = y := by
      rcases List.mem_cons.1 hx with e | hx
      · exact e
      · rcases List.mem_cons.1 hy with e | hy
        · exact e.symm
        · have := ha1 y hy; have := hb1 x hx; omega
    subst e
    rw [sasc_eq ha2 hb2 (fun z => ?_)]
    have hz := h z
    rw [List.mem_cons, List.mem_cons] at hz
    constructor
    · intro q
      have := ha1 z q
      rcases hz.1 (.inr q) with e | e
      · omega
      · exact e
    · intro q
      have := hb1 z q
      rcases hz.2 (.inr q) with e | e
      · omega
      · exact e
def ddZ (l : List Int) : List Int := dd l ++ List.replicate (l.length - (dd l).length) 0
theorem ddZ_len (l : List Int) : (ddZ l).length = l.length := by have := dd_len l; simp [ddZ]; omega
theorem take_last {l : List Int} {i : Nat} {x : Int} (h : l[i]? = some x) : (l.take (i + 1)).getLast? = some x := by
  rw [List.take_add_one, h]; simp
theorem dd_take {l : List Int} {i : Nat} {x y : Int} (hx : l[i + 1]? = some x) (hy : l[i]? = some y) : dd (l.take (i + 1 + 1)) = if x = y then dd (l.take (i + 1)) else dd (l.take (i + 1)) ++ [x] := by
  rw [List.take_add_one (i := i + 1), hx]
  show dd (l.take (i + 1) ++ [x]) = _
  rw [dd_snoc, dd_last, take_last hy]
  by_cases e : x = y
  · rw [if_pos (by rw [e]), if_pos e]
  · rw [if_neg (fun q => e (Option.some.inj q).symm), if_neg e]
theorem set_run {D M t : List Int} {z x : Int} {k : Nat} (h : k = D.length) : setAt (D ++ (M ++ z :: x :: t)) k x = D ++ x :: ((M ++ [z]).tail ++ x :: t) := by
  cases M with
  | nil => exact set_at h
  | cons a M => rw [List.cons_append, set_at h]; simp

set_option maxHeartbeats 1000000 in
theorem w_slices_Compact_intint (l : List Int) (hb : l.length ≤ 1048576) : FnM Pr n_slices_Compact_intint [.ptr 0 0] [.sl 1 (encI .i64) (fun _ => l)] (.clo 0 [.int .i64 (fun _ => 0), .int .i64 (fun _ => ((dd l).length : Int))]) [.sl 1 (encI .i64) (fun _ => ddZ l)] := by
  refine k_slices_Compact_intint.fnm (by kernel_rfl) ⟨.mk (ddZ_len l), trivial⟩ ?_
  have fin : dd l = l → LeD (.tup [.clo 0 [.int .i64 (fun _ => 0), .int .i64 (fun _ => (l.length : Int))], .sl 1 (encI .i64) (fun _ => l)]) (.tup [.clo 0 [.int .i64 (fun _ => 0), .int .i64 (fun _ => ((dd l).length : Int))], .sl 1 (encI .i64) (fun _ => ddZ l)]) := fun e => by
    have e2 : ddZ l = l := by simp [ddZ, e]
    rw [e, e2]
    exact .same _
  conv => arg 4; cbv
  refine Sat.cmp (fun h => ?_) (fun h => ?_) <;> simp only [Cmp.holds] at h <;> (conv => arg 4; cbv)
  · refine Sat.done (fin ?_)
    have : l.length < 2 := by exact arA
    match l, this with
    | [], _ => rfl
    | [x], _ => rfl
  have hl2 : 2 ≤ l.length := by exact arA
  refine Sat.loopP (ι := Nat) (fun k => [(3, .int .i64 (fun _ => (k : Int)))]) (fun k => []) (fun k => 1 ≤ k ∧ k ≤ l.length ∧ dd (l.take k) = l.take k) (fun k => l.length - k) 1 ?_ ⟨by omega, by omega, by cases l with | nil => rfl | cons a r => rfl⟩ (fun k hk => ?_)
  · exact lesA
  conv => arg 4; cbv
  obtain ⟨hk1, hk2, hk3⟩ := hk
  refine Sat.cmp (fun h => ?_) (fun h => ?_) <;> simp only [Cmp.holds] at h <;> (conv => arg 4; cbv)
  · obtain ⟨k0, rfl⟩ : ∃ k0, k = k0 + 1 := ⟨k - 1, by omega⟩
    have hkl : k0 + 1 < l.length := by exact arA
    obtain ⟨x, hx⟩ : ∃ x, l[k0 + 1]? = some x := ⟨_, List.getElem?_eq_getElem hkl⟩
    obtain ⟨y, hy⟩ : ∃ y, l[k0]? = some y := ⟨_, List.getElem?_eq_getElem (by omega)⟩
    have hdt := dd_take hx hy
    have ix : ∀ {n : Nat}, n = k0 + 1 → l[n]? = some x := fun e => e ▸ hx
    have iy : ∀ {n : Nat}, n = k0 → l[n]? = some y := fun e => e ▸ hy
    repeat' first
      | (refine Sat.cmp (fun h => ?_) (fun h => ?_) <;> simp only [Cmp.holds] at h <;> (conv => arg 4; cbv))
      | (refine Sat.need ndA ?_; conv => arg 4; cbv)
      | (refine Sat.idxk (ix (by (try dsimp only); exact arA)) ?_; conv => arg 4; cbv)
      | (refine Sat.idxk (iy (by (try dsimp only); exact arA)) ?_; conv => arg 4; cbv)
      | (refine Sat.ari64 ndA ndA ?_; conv => arg 4; cbv)
      | (refine Sat.pop ?_; conv => arg 4; cbv)
      | refine Sat.next (k0 + 1 + 1) ?_ ?_ (by (try dsimp only); exact arA)
    · subst h
      rw [if_pos rfl] at hdt
      have hd0 : dd (l.take (k0 + 1 + 1)) = l.take (k0 + 1) := hdt.trans hk3
      refine Sat.loopP (ι := Nat × List Int × Int) (fun q => [(3, .int .i64 (fun _ => ((dd (l.take q.1)).length : Int))), (5, .int .i64 (fun _ => (q.1 : Int) - (k0 + 1)))]) (fun q => [(0, .row 1 (encI .i64) (fun _ => dd (l.take q.1) ++ (q.2.1 ++ q.2.2 :: l.drop q.1)) true)]) (fun q => k0 + 2 ≤ q.1 ∧ q.1 ≤ l.length ∧ (dd (l.take q.1)).length + q.2.1.length + 1 = q.1 ∧ l[q.1 - 1]? = some q.2.2) (fun q => l.length - q.1) (k0 + 1 + 1, [], x) ?_ ⟨by (try dsimp only); omega, by (try dsimp only); omega, by rw [hd0]; simp; omega, hx⟩ (fun q hq => ?_)
      · refine les_of ?_ ?_ rfl
        iterate 2 (focus repeat' (first | exact trivial | refine And.intro ?_ ?_ | exact levA | refine lev_cons ?_ ?_ | refine LeV.agg rfl ?_ | exact Nat.le_of_ble_eq_true rfl | exact Or.inl ⟨_, rfl, .row rfl⟩ | refine Or.inl ⟨_, rfl, .row ?_⟩ | refine Or.inl ⟨_, rfl, .lit rfl ?_⟩ | exact Or.inr ⟨rfl, rfl⟩ | (first | exact .int (by (try dsimp only); first | (rw [hd0]; simp; omega) | exact arA) | (show l = dd (l.take (k0 + 1 + 1)) ++ ([] ++ x :: l.drop (k0 + 1 + 1)); rw [hd0, List.nil_append, ← drop_get hx, List.take_append_drop]))))
      obtain ⟨j, M, z⟩ := q
      obtain ⟨hj1, hj2, hj3, hj4⟩ := hq
      dsimp only at hj1 hj2 hj3 hj4
      have hld : (l.drop j).length = l.length - j := by simp
      conv => arg 4; cbv
      refine Sat.cmp (fun h => ?_) (fun h => ?_) <;> simp only [Cmp.holds] at h <;> (conv => arg 4; cbv)
      · have hjl : j < l.length := by exact arA
        obtain ⟨w, hw⟩ : ∃ w, l[j]? = some w := ⟨_, List.getElem?_eq_getElem hjl⟩
        have hdj := drop_get hw
        have hd1 := dd_take (i := j - 1) (x := w) (y := z) (by rw [show j - 1 + 1 = j by omega]; exact hw) hj4
        rw [show j - 1 + 1 = j by omega] at hd1
        have iw : ∀ {n : Nat}, n = j → (dd (l.take j) ++ (M ++ z :: l.drop j))[n]? = some w := fun e => by
          rw [hdj, show dd (l.take j) ++ (M ++ z :: w :: l.drop (j + 1)) = (dd (l.take j) ++ M ++ [z]) ++ w :: l.drop (j + 1) by simp]
          exact get_at (by simp; omega)
        have iz : ∀ {n : Nat}, n = j - 1 → (dd (l.take j) ++ (M ++ z :: l.drop j))[n]? = some z := fun e => by
          rw [← List.append_assoc]
          exact get_at (by simp; omega)
        repeat' first
          | (refine Sat.cmp (fun h => ?_) (fun h => ?_) <;> simp only [Cmp.holds] at h <;> (conv => arg 4; cbv))
          | (refine Sat.need (by (try dsimp only); simp only [ncast, List.length_append, List.length_cons, List.length_nil, List.length_drop] at *; omega) ?_; conv => arg 4; cbv)
          | (refine Sat.idxk (iw (by (try dsimp only); exact arA)) ?_; conv => arg 4; cbv)
          | (refine Sat.idxk (iz (by (try dsimp only); exact arA)) ?_; conv => arg 4; cbv)
          | (refine Sat.idx (by (try dsimp only); simp only [ncast, setAt, List.length_set, List.length_append, List.length_cons, List.length_nil, List.length_drop] at *; omega) (fun v_ hv_ => ?_); conv => arg 4; cbv)
          | (refine Sat.typed w tcA ?_; conv => arg 4; cbv)
          | (refine Sat.ari64 ndA ndA ?_; conv => arg 4; cbv)
          | (refine Sat.pop ?_; conv => arg 4; cbv)
        · have hdA : dd (l.take (j + 1)) = dd (l.take j) := by rw [hd1, if_pos h]
          refine Sat.next (j + 1, M ++ [z], w) ?_ ⟨by (try dsimp only); omega, by (try dsimp only); omega, by rw [hdA]; simp; omega, hw⟩ (by (try dsimp only); omega)
          refine les_of ?_ ?_ rfl
          iterate 2 (focus repeat' (first | exact trivial | refine And.intro ?_ ?_ | exact levA | refine lev_cons ?_ ?_ | refine LeV.agg rfl ?_ | exact Nat.le_of_ble_eq_true rfl | exact Or.inl ⟨_, rfl, .row rfl⟩ | refine Or.inl ⟨_, rfl, .row ?_⟩ | refine Or.inl ⟨_, rfl, .lit rfl ?_⟩ | exact Or.inr ⟨rfl, rfl⟩ | (first | exact .int (by (try dsimp only); rw [hdA]) | exact .int (by (try dsimp only); exact arA) | (show dd (l.take j) ++ (M ++ z :: l.drop j) = dd (l.take (j + 1)) ++ ((M ++ [z]) ++ w :: l.drop (j + 1)); rw [hdA, hdj]; simp))))
        · have hdB : dd (l.take (j + 1)) = dd (l.take j) ++ [w] := by rw [hd1, if_neg h]
          refine Sat.next (j + 1, (M ++ [z]).tail, w) ?_ ⟨by (try dsimp only); omega, by (try dsimp only); omega, by rw [hdB]; simp; omega, hw⟩ (by (try dsimp only); omega)
          refine les_of ?_ ?_ rfl
          iterate 2 (focus repeat' (first | exact trivial | refine And.intro ?_ ?_ | exact levA | refine lev_cons ?_ ?_ | refine LeV.agg rfl ?_ | exact Nat.le_of_ble_eq_true rfl | exact Or.inl ⟨_, rfl, .row rfl⟩ | refine Or.inl ⟨_, rfl, .row ?_⟩ | refine Or.inl ⟨_, rfl, .lit rfl ?_⟩ | exact Or.inr ⟨rfl, rfl⟩ | (first | exact .int (by (try dsimp only); rw [hdB]; simp; done) | exact .int (by (try dsimp only); exact arA) | (show setAt (dd (l.take j) ++ (M ++ z :: l.drop j)) _ w = dd (l.take (j + 1)) ++ ((M ++ [z]).tail ++ w :: l.drop (j + 1)); rw [hdj, set_run (by (try dsimp only); exact arA), hdB]; simp))))
      · have hjl : j = l.length := by exact arA
        subst hjl
        rw [List.take_length] at hj3
        repeat' first
          | (refine Sat.pop ?_; conv => arg 4; cbv)
          | (refine Sat.need (by (try dsimp only); simp only [ncast, List.take_length, List.length_append, List.length_cons, List.length_nil, List.length_drop] at *; omega) ?_; conv => arg 4; cbv)
          | (refine Sat.need (fun _ _ _ _ => rfl) ?_; conv => arg 4; cbv)
          | (refine Sat.typed (0 : Int) tcA ?_; conv => arg 4; cbv)
          | refine Sat.done ?_
        refine .tup rfl (led_cons (.clo rfl (led_cons (.int ?_) (led_cons (.int ?_) led_nil))) (led_cons (.sl ?_) led_nil))
        · rfl
        · (try dsimp only); rw [List.take_length]; exact arA
        · (try dsimp only)
          simp only [ncast, List.take_length, List.drop_length, Int.toNat_natCast, Nat.zero_add]
          rw [List.take_left, List.drop_eq_nil_of_le (by simp; omega), List.append_nil]
          rfl
    · exact lesA
    · refine ⟨by omega, by omega, ?_⟩
      rw [hdt, if_neg h, hk3, List.take_add_one (i := k0 + 1), hx]
      rfl
  · repeat' first
      | (refine Sat.pop ?_; conv => arg 4; cbv)
      | refine Sat.done (fin ?_)
    rw [List.take_of_length_le (by exact arA)] at hk3
    exact hk3

theorem w_slices_Clone_intint (l : List Int) (hb : bIntS l) : Fn Pr n_slices_Clone_intint [.sl 1 (encI .i64) (fun _ => l)] (.sl 1 (encI .i64) (fun _ => l)) := by
  refine k_slices_Clone_intint.fn (by kernel_rfl) ?_
  have h0 : l.length * 8 ≤ 140737488351232 := hb
  conv => arg 4; cbv
  repeat' first
    | (refine Sat.cmp (fun h => ?_) (fun h => ?_) <;> simp only [Cmp.holds] at h <;> (conv => arg 4; cbv))
    | (refine Sat.need ⟨fun y _ => flat_encI .i64 y, by exact arA⟩ ?_; conv => arg 4; cbv)
    | (refine Sat.may (fun h => ?_) ?_ <;> (conv => arg 4; cbv))
    | (refine Sat.need ndA ?_; conv => arg 4; cbv)
    | (refine Sat.idxk (by assumption) ?_; conv => arg 4; cbv) | (refine Sat.idx ndA (fun v_ hv_ => ?_); conv => arg 4; cbv)
    | (refine Sat.ari64 ndA ndA ?_; conv => arg 4; cbv)
    | (refine Sat.pop ?_; conv => arg 4; cbv)
    | refine Sat.done ?_
  all_goals first | exact .nil (by assumption) | exact .sl (by simp)

/-- Each number once, in order. -/
def asc (l : List Int) : List Int := dd (isort l)
theorem asc_mem {y : Int} {l : List Int} : y ∈ asc l ↔ y ∈ l := by rw [asc, dd_mem, isort_mem]
theorem asc_strict (l : List Int) : SAsc (asc l) := dd_strict _ (isort_asc l)
theorem asc_len (l : List Int) : (asc l).length ≤ l.length := by have := dd_len (isort l); rw [isort_len] at this; exact this
theorem asc_eq {a b : List Int} (h : ∀ y, y ∈ a ↔ y ∈ b) : asc a = asc b := sasc_eq (asc_strict a) (asc_strict b) (fun y => by rw [asc_mem, asc_mem, h])
theorem asc_of {a : List Int} (h : SAsc a) : asc a = a := sasc_eq (asc_strict a) h (fun y => asc_mem)

theorem w_impl_ascending (l : List Int) (hb : l.length ≤ 12) : Fn Pr n_impl_ascending [.sl 1 (encI .i64) (fun _ => l)] (.sl 1 (encI .i64) (fun _ => asc l)) := by
  have h0 : bIntS l := by show l.length * 8 ≤ _; omega
  have h1 := isort_len (l := l)
  have h2 := dd_len (isort l)
  refine k_impl_ascending.fn (by kernel_rfl) ?_
  conv => arg 4; cbv
  repeat' first
    | (refine Sat.cmp (fun h => ?_) (fun h => ?_) <;> simp only [Cmp.holds] at h <;> (conv => arg 4; cbv))
    | (refine Sat.call (w_slices_Clone_intint l h0) rfl ledA ?_; conv => arg 4; cbv)
    | (refine Sat.callm (w_slices_Sort_intint l hb) rfl ledA rfl ledA ?_; conv => arg 4; cbv)
    | (refine Sat.callm (w_slices_Compact_intint (isort l) (by omega)) rfl ledA rfl ledA ?_; conv => arg 4; cbv)
    | (refine Sat.need (And.intro (And.intro rfl isort_len.symm) trivial) ?_; conv => arg 4; cbv)
    | (refine Sat.need ndA ?_; conv => arg 4; cbv)
    | (refine Sat.need (by (repeat' (first | exact trivial | refine And.intro ?_ ?_ | rfl | (dsimp only; simp [genL_length]; done))); (first | done | fail)) ?_; conv => arg 4; cbv)
    | (refine Sat.idxk (by assumption) ?_; conv => arg 4; cbv) | (refine Sat.idx ndA (fun v_ hv_ => ?_); conv => arg 4; cbv)
    | (refine Sat.ari64 ndA ndA ?_; conv => arg 4; cbv)
    | (refine Sat.pop ?_; conv => arg 4; cbv)
    | refine Sat.done ?_
  all_goals refine .sl ?_
  all_goals simp [ddZ, asc]

theorem w_slices_IndexFunc_intint (l b : List Int) (f : Nat) (p : Int → Bool) (hf : ∀ x, Fn Pr f [.int .i64 (fun _ => x), .rptr [.sl 1 (encI .i64) (fun _ => b)]] (.bo (p x))) (hb : bIntS l) : Fn Pr n_slices_IndexFunc_intint [.sl 1 (encI .i64) (fun _ => l), .clo f [.rptr [.sl 1 (encI .i64) (fun _ => b)]]] (.int .i64 (fun _ => idxF p l)) := by
  refine k_slices_IndexFunc_intint.fn (by kernel_rfl) ?_
  have h0 : l.length * 8 ≤ 140737488351232 := hb
  conv => arg 4; cbv
  refine Sat.loopP (ι := Nat) (fun i => [(8, .int .i64 (fun _ => (i : Int)))]) (fun i => []) (fun i => i ≤ l.length ∧ idxF p l = if idxF p (l.drop i) < 0 then -1 else idxF p (l.drop i) + i) (fun i => l.length - i) 0 ?_ ⟨by omega, by have := (idxF_any (p := p) (l := l)).2; simp; omega⟩ (fun i hi => ?_)
  · refine les_of ?_ ?_ rfl
    iterate 2 (focus repeat' (first | exact trivial | refine And.intro ?_ ?_ | exact levA | refine lev_cons ?_ ?_ | refine LeV.agg rfl ?_ | exact Nat.le_of_ble_eq_true rfl | exact Or.inl ⟨_, rfl, .row rfl⟩ | refine Or.inl ⟨_, rfl, .row ?_⟩ | refine Or.inl ⟨_, rfl, .lit rfl ?_⟩ | exact Or.inr ⟨rfl, rfl⟩ | (exact .clo rfl (lev_cons (.rptr _) lev_nil))))
  conv => arg 4; cbv
  repeat' first
    | (refine Sat.cmp (fun h => ?_) (fun h => ?_) <;> simp only [Cmp.holds] at h <;> (conv => arg 4; cbv))
    | (refine Sat.need ndA ?_; conv => arg 4; cbv)
    | (refine Sat.idxk (by assumption) ?_; conv => arg 4; cbv) | (refine Sat.idx ndA (fun v_ hv_ => ?_); conv => arg 4; cbv)
    | (refine Sat.callb (hf _) rfl ledA (fun h => ?_) (fun h => ?_) <;> (conv => arg 4; cbv))
    | (refine Sat.ari64 ndA ndA ?_; conv => arg 4; cbv)
    | (refine Sat.pop ?_; conv => arg 4; cbv)
    | refine Sat.next (i + 1) ?_ ?_ (by (try dsimp only); exact arA)
    | refine Sat.done ?_
  · refine .int ?_
    exact idxF_hit (by assumption) hi.2 h
  · refine les_of ?_ ?_ rfl
    iterate 2 (focus repeat' (first | exact trivial | refine And.intro ?_ ?_ | exact levA | refine lev_cons ?_ ?_ | refine LeV.agg rfl ?_ | exact Nat.le_of_ble_eq_true rfl | exact Or.inl ⟨_, rfl, .row rfl⟩ | refine Or.inl ⟨_, rfl, .row ?_⟩ | refine Or.inl ⟨_, rfl, .lit rfl ?_⟩ | exact Or.inr ⟨rfl, rfl⟩ | (exact .clo rfl (lev_cons (.rptr _) lev_nil))))
  · exact ⟨by exact arA, idxF_step (by assumption) hi.2 h⟩
  · refine .int ?_
    have e1 : i = l.length := by exact arA
    rw [hi.2, e1, List.drop_length, idxF]
    simp

theorem idxF_spec {α : Type} {p : α → Bool} : ∀ {l : List α}, (idxF p l = -1 ∧ ∀ x ∈ l, p x = false) ∨ ∃ i : Nat, ∃ a, idxF p l = i ∧ l[i]? = some a ∧ p a = true ∧ ∀ x ∈ l.take i, p x = false
  | [] => .inl ⟨rfl, by simp⟩
  | x :: r => by
    rw [idxF]
    cases hx : p x with
    | true => exact .inr ⟨0, x, by simp, rfl, hx, by simp⟩
    | false =>
      rw [if_neg (by simp)]
      rcases idxF_spec (p := p) (l := r) with ⟨h1, h2⟩ | ⟨i, a, h1, h2, h3, h4⟩
      · refine .inl ⟨by rw [h1]; simp, fun y hy => ?_⟩
        rcases List.mem_cons.1 hy with rfl | hy
        · exact hx
        · exact h2 y hy
      · refine .inr ⟨i + 1, a, by rw [h1, if_neg (by omega)]; simp, by simpa using h2, h3, fun y hy => ?_⟩
        rw [List.take_succ_cons] at hy
        rcases List.mem_cons.1 hy with rfl | hy
        · exact hx
        · exact h4 y hy
def keep (p : Int → Bool) (l : List Int) : List Int := l.filter (fun x => !p x)
def keepZ (p : Int → Bool) (l : List Int) : List Int := keep p l ++ List.replicate (l.length - (keep p l).length) 0
theorem keep_len {p : Int → Bool} {l : List Int} : (keep p l).length ≤ l.length := List.length_filter_le _ _
theorem keepZ_len {p : Int → Bool} {l : List Int} : (keepZ p l).length = l.length := by have := keep_len (p := p) (l := l); simp [keepZ]; omega
theorem keep_all {p : Int → Bool} {l : List Int} (h : ∀ x ∈ l, p x = false) : keep p l = l := by
  rw [keep, List.filter_eq_self]
  intro x hx
  rw [h x hx]; rfl
theorem keep_snoc {p : Int → Bool} {l : List Int} {j : Nat} {x : Int} (h : l[j]? = some x) : keep p (l.take (j + 1)) = if p x = true then keep p (l.take j) else keep p (l.take j) ++ [x] := by
  rw [List.take_add_one, h, keep, keep, List.filter_append]
  cases e : p x <;> simp [e]

set_option maxHeartbeats 1000000 in
theorem w_slices_DeleteFunc_intint (l b : List Int) (f : Nat) (p : Int → Bool) (hf : ∀ x, Fn Pr f [.int .i64 (fun _ => x), .rptr [.sl 1 (encI .i64) (fun _ => b)]] (.bo (p x))) (hb : l.length ≤ 1048576) : FnM Pr n_slices_DeleteFunc_intint [.ptr 0 0, .clo f [.rptr [.sl 1 (encI .i64) (fun _ => b)]]] [.sl 1 (encI .i64) (fun _ => l)] (.clo 0 [.int .i64 (fun _ => 0), .int .i64 (fun _ => ((keep p l).length : Int))]) [.sl 1 (encI .i64) (fun _ => keepZ p l)] := by
  refine k_slices_DeleteFunc_intint.fnm (by kernel_rfl) ⟨.mk keepZ_len, trivial⟩ ?_
  have h0 : bIntS l := by show l.length * 8 ≤ _; omega
  conv => arg 4; cbv
  rcases idxF_spec (p := p) (l := l) with ⟨h1, h2⟩ | ⟨i, a, h1, h2, h3, h4⟩
  · repeat' first
      | (refine Sat.call (w_slices_IndexFunc_intint l b f p hf h0) rfl ledA ?_; conv => arg 4; cbv)
      | (refine Sat.cmp (fun h => ?_) (fun h => by exfalso; simp only [Cmp.holds] at h; omega); conv => arg 4; cbv)
      | refine Sat.done ?_
    have e := keep_all h2
    have e2 : keepZ p l = l := by simp [keepZ, e]
    rw [e, e2]
    exact .same _
  have hil := lt_of_get h2
  have hk0 : keep p (l.take (i + 1)) = l.take i := by rw [keep_snoc h2, if_pos h3, keep_all h4]
  repeat' first
    | (refine Sat.call (w_slices_IndexFunc_intint l b f p hf h0) rfl ledA ?_; conv => arg 4; cbv)
    | (refine Sat.cmp (fun h => by exfalso; simp only [Cmp.holds] at h; omega) (fun h => ?_); conv => arg 4; cbv)
    | (refine Sat.ari64 ndA ndA ?_; conv => arg 4; cbv)
  refine Sat.loopP (ι := Nat × List Int) (fun q => [(5, .int .i64 (fun _ => ((keep p (l.take q.1)).length : Int))), (6, .int .i64 (fun _ => (q.1 : Int)))]) (fun q => [(0, .row 1 (encI .i64) (fun _ => keep p (l.take q.1) ++ (q.2 ++ l.drop q.1)) true)]) (fun q => q.1 ≤ l.length ∧ (keep p (l.take q.1)).length + q.2.length = q.1 ∧ q.2 ≠ []) (fun q => l.length - q.1) (i + 1, [a]) ?_ ⟨by (try dsimp only); omega, by rw [hk0]; simp; omega, by simp⟩ (fun q hq => ?_)
  · refine les_of ?_ ?_ rfl
    iterate 2 (focus repeat' (first | exact trivial | refine And.intro ?_ ?_ | exact levA | refine lev_cons ?_ ?_ | refine LeV.agg rfl ?_ | exact Nat.le_of_ble_eq_true rfl | exact Or.inl ⟨_, rfl, .row rfl⟩ | refine Or.inl ⟨_, rfl, .row ?_⟩ | refine Or.inl ⟨_, rfl, .lit rfl ?_⟩ | exact Or.inr ⟨rfl, rfl⟩ | (first | exact .clo rfl (lev_cons (.rptr _) lev_nil) | exact .int (by (try dsimp only); first | (rw [hk0, h1]; simp; omega) | exact arA) | (show l = keep p (l.take (i + 1)) ++ ([a] ++ l.drop (i + 1)); rw [hk0, List.singleton_append, ← drop_get h2, List.take_append_drop]))))
  obtain ⟨j, M⟩ := q
  obtain ⟨hj1, hj2, hj3⟩ := hq
  dsimp only at hj1 hj2 hj3
  have hld : (l.drop j).length = l.length - j := by simp
  conv => arg 4; cbv
  refine Sat.cmp (fun h => ?_) (fun h => ?_) <;> simp only [Cmp.holds] at h <;> (conv => arg 4; cbv)
  · have hjl : j < l.length := by exact arA
    obtain ⟨w, hw⟩ : ∃ w, l[j]? = some w := ⟨_, List.getElem?_eq_getElem hjl⟩
    have hdj := drop_get hw
    have hks := keep_snoc (p := p) hw
    obtain ⟨m, M', rfl⟩ : ∃ m M', M = m :: M' := by
      cases M with
      | nil => exact absurd rfl hj3
      | cons m M' => exact ⟨m, M', rfl⟩
    simp only [List.length_cons] at hj2
    have iw : ∀ {n : Nat}, n = j → (keep p (l.take j) ++ (m :: M' ++ l.drop j))[n]? = some w := fun e => by
      rw [hdj, ← List.append_assoc]
      exact get_at (by simp; omega)
    repeat' first
      | (refine Sat.need (by (try dsimp only); simp only [ncast, List.length_append, List.length_cons, List.length_nil, List.length_drop] at *; omega) ?_; conv => arg 4; cbv)
      | (refine Sat.idxk (iw (by (try dsimp only); exact arA)) ?_; conv => arg 4; cbv)
      | (refine Sat.callb (hf w) rfl ledA (fun h => ?_) (fun h => ?_) <;> (conv => arg 4; cbv))
      | (refine Sat.idx (by (try dsimp only); simp only [ncast, setAt, List.length_set, List.length_append, List.length_cons, List.length_nil, List.length_drop] at *; omega) (fun v_ hv_ => ?_); conv => arg 4; cbv)
      | (refine Sat.typed w tcA ?_; conv => arg 4; cbv)
      | (refine Sat.ari64 ndA ndA ?_; conv => arg 4; cbv)
      | (refine Sat.pop ?_; conv => arg 4; cbv)
    · rw [if_pos h] at hks
      refine Sat.next (j + 1, m :: M' ++ [w]) ?_ ⟨by (try dsimp only); omega, by rw [hks]; simp; omega, by simp⟩ (by (try dsimp only); omega)
      refine les_of ?_ ?_ rfl
      iterate 2 (focus repeat' (first | exact trivial | refine And.intro ?_ ?_ | exact levA | refine lev_cons ?_ ?_ | refine LeV.agg rfl ?_ | exact Nat.le_of_ble_eq_true rfl | exact Or.inl ⟨_, rfl, .row rfl⟩ | refine Or.inl ⟨_, rfl, .row ?_⟩ | refine Or.inl ⟨_, rfl, .lit rfl ?_⟩ | exact Or.inr ⟨rfl, rfl⟩ | (first | exact .clo rfl (lev_cons (.rptr _) lev_nil) | exact .int (by (try dsimp only); rw [hks]) | exact .int (by (try dsimp only); exact arA) | (show keep p (l.take j) ++ (m :: M' ++ l.drop j) = keep p (l.take (j + 1)) ++ ((m :: M' ++ [w]) ++ l.drop (j + 1)); rw [hks, hdj]; simp))))
    · rw [if_neg (by rw [h]; simp)] at hks
      refine Sat.next (j + 1, M' ++ [w]) ?_ ⟨by (try dsimp only); omega, by rw [hks]; simp; omega, by simp⟩ (by (try dsimp only); omega)
      refine les_of ?_ ?_ rfl
      iterate 2 (focus repeat' (first | exact trivial | refine And.intro ?_ ?_ | exact levA | refine lev_cons ?_ ?_ | refine LeV.agg rfl ?_ | exact Nat.le_of_ble_eq_true rfl | exact Or.inl ⟨_, rfl, .row rfl⟩ | refine Or.inl ⟨_, rfl, .row ?_⟩ | refine Or.inl ⟨_, rfl, .lit rfl ?_⟩ | exact Or.inr ⟨rfl, rfl⟩ | (first | exact .clo rfl (lev_cons (.rptr _) lev_nil) | exact .int (by (try dsimp only); rw [hks]; simp; done) | exact .int (by (try dsimp only); exact arA) | (show setAt (keep p (l.take j) ++ (m :: M' ++ l.drop j)) _ w = keep p (l.take (j + 1)) ++ ((M' ++ [w]) ++ l.drop (j + 1)); rw [List.cons_append, set_at (by (try dsimp only); exact arA), hks, hdj]; simp))))
  · have hjl : j = l.length := by exact arA
    subst hjl
    rw [List.take_length] at hj2
    repeat' first
      | (refine Sat.pop ?_; conv => arg 4; cbv)
      | (refine Sat.need (by (try dsimp only); simp only [ncast, List.take_length, List.length_append, List.length_cons, List.length_nil, List.length_drop] at *; omega) ?_; conv => arg 4; cbv)
      | (refine Sat.need (fun _ _ _ _ => rfl) ?_; conv => arg 4; cbv)
      | (refine Sat.typed (0 : Int) tcA ?_; conv => arg 4; cbv)
      | refine Sat.done ?_
    refine .tup rfl (led_cons (.clo rfl (led_cons (.int ?_) (led_cons (.int ?_) led_nil))) (led_cons (.sl ?_) led_nil))
    · rfl
    · (try dsimp only); rw [List.take_length]; exact arA
    · (try dsimp only)
      simp only [ncast, List.take_length, List.drop_length, Int.toNat_natCast, Nat.zero_add]
      rw [List.take_left, List.drop_eq_nil_of_le (by simp; omega), List.append_nil]
      rfl

def okSrv (p : Int) : List Int → Bool
  | [] => true
  | x :: r => decide (0 ≤ x ∧ x ≤ 4) && decide (p < x) && okSrv x r
def areServers (l : List Int) : Bool := okSrv (-1) l
/-- The number ahead of place i. -/
def prevS (l : List Int) : Nat → Int
  | 0 => -1
  | i + 1 => match l[i]? with | some e => e | none => 0
theorem prevS_get {l : List Int} {i : Nat} {e : Int} (h : l[i]? = some e) : prevS l (i + 1) = e := by simp [prevS, h]
theorem okSrv_step {l : List Int} {i : Nat} {e : Int} {b : Bool} (hb : b = okSrv (prevS l i) (l.drop i)) (h : l[i]? = some e) (h1 : 0 ≤ e ∧ e ≤ 4) (h3 : prevS l i < e) : b = okSrv (prevS l (i + 1)) (l.drop (i + 1)) := by
  rw [hb, drop_get h, okSrv, prevS_get h, decide_eq_true h1, decide_eq_true h3]
  simp
theorem okSrv_bad {l : List Int} {i : Nat} {e : Int} {b : Bool} (hb : b = okSrv (prevS l i) (l.drop i)) (h : l[i]? = some e) (hn : ¬ ((0 ≤ e ∧ e ≤ 4) ∧ prevS l i < e)) : b = false := by
  rw [hb, drop_get h, okSrv]
  by_cases h1 : 0 ≤ e ∧ e ≤ 4
  · by_cases h3 : prevS l i < e
    · exact absurd ⟨h1, h3⟩ hn
    · rw [decide_eq_false h3]; simp
  · rw [decide_eq_false h1]; simp
theorem okSrv_end {l : List Int} {i : Nat} {b : Bool} (hb : b = okSrv (prevS l i) (l.drop i)) (h : i = l.length) : b = true := by
  rw [hb, h, List.drop_length, okSrv]
theorem prevS_zero {l : List Int} {i : Nat} (h : i = 0) : prevS l i = -1 := by subst h; rfl
theorem prevS_pos {l : List Int} {i j : Nat} {e : Int} (h : l[j]? = some e) (hj : i = j + 1) : prevS l i = e := by subst hj; exact prevS_get h
theorem okSrv_spec : ∀ {l : List Int} {p : Int}, okSrv p l = true → p ≤ 4 → ((l.length : Int) ≤ 4 - p) ∧ (∀ x ∈ l, 0 ≤ x ∧ x ≤ 4 ∧ p < x) ∧ SAsc l
  | [], p, _, hp => ⟨by simp; omega, by simp, List.Pairwise.nil⟩
  | x :: r, p, h, hp => by
    simp only [okSrv, Bool.and_eq_true, decide_eq_true_eq] at h
    obtain ⟨h1, h2, h3⟩ := okSrv_spec h.2 h.1.1.2
    refine ⟨by simp only [List.length_cons]; omega, fun y hy => ?_, List.pairwise_cons.2 ⟨fun y hy => (h2 y hy).2.2, h3⟩⟩
    rcases List.mem_cons.1 hy with rfl | hy
    · exact ⟨h.1.1.1, h.1.1.2, h.1.2⟩
    · have := h2 y hy; omega
theorem areServers_len {l : List Int} (h : areServers l = true) : l.length ≤ 5 := by have := (okSrv_spec h (by omega)).1; omega
theorem areServers_rng {l : List Int} (h : areServers l = true) : ∀ x ∈ l, 0 ≤ x ∧ x ≤ 4 := fun x hx => by have := (okSrv_spec h (by omega)).2.1 x hx; omega
theorem areServers_sasc {l : List Int} (h : areServers l = true) : SAsc l := (okSrv_spec h (by omega)).2.2

theorem w_spec_AreServers (l : List Int) (hb : bIntS l) : Fn Pr n_spec_AreServers [.sl 1 (encI .i64) (fun _ => l)] (.bo (areServers l)) := by
  refine k_spec_AreServers.fn (by kernel_rfl) ?_
  have h0 : l.length * 8 ≤ 140737488351232 := hb
  conv => arg 4; cbv
  refine Sat.loopP (ι := Nat) (fun i => [(3, .int .i64 (fun _ => (i : Int)))]) (fun i => []) (fun i => i ≤ l.length ∧ okSrv (-1) l = okSrv (prevS l i) (l.drop i)) (fun i => l.length - i) 0 ?_ ⟨by omega, by simp [prevS]⟩ (fun i hi => ?_)
  · exact lesA
  conv => arg 4; cbv
  repeat' first
    | (refine Sat.cmp (fun h => ?_) (fun h => ?_) <;> simp only [Cmp.holds] at h <;> (conv => arg 4; cbv))
    | (refine Sat.need ndA ?_; conv => arg 4; cbv)
    | (refine Sat.idxk (by assumption) ?_; conv => arg 4; cbv) | (refine Sat.idx ndA (fun v_ hv_ => ?_); conv => arg 4; cbv)
    | (refine Sat.callb (w_spec_l1In _ _ _) rfl ledA (fun h => ?_) (fun h => ?_) <;> (try simp only [decide_eq_true_eq, decide_eq_false_iff_not] at h) <;> (conv => arg 4; cbv))
    | (refine Sat.ari64 ndA ndA ?_; conv => arg 4; cbv)
    | (refine Sat.pop ?_; conv => arg 4; cbv)
    | refine Sat.next (i + 1) ?_ ?_ (by (try dsimp only); exact arA)
    | refine Sat.done ?_
  · refine led_bo ?_
    rw [areServers, okSrv_bad (i := i) hi.2 (by assumption) (fun q => by have := prevS_pos (l := l) (i := i) hv_ (by exact arA); omega)]
  · exact lesA
  · have := prevS_pos (l := l) (i := i) hv_ (by exact arA)
    exact ⟨by exact arA, okSrv_step hi.2 (by assumption) (by assumption) (by omega)⟩
  · exact lesA
  · have := prevS_zero (l := l) (i := i) (by exact arA)
    exact ⟨by exact arA, okSrv_step hi.2 (by assumption) (by assumption) (by omega)⟩
  · refine led_bo ?_
    rw [areServers, okSrv_bad (i := i) hi.2 (by assumption) (fun q => h q.1)]
  · refine led_bo ?_
    rw [areServers, okSrv_end hi.2 (by exact arA)]

theorem w_impl_AreServers (l : List Int) (hb : bIntS l) : Fn Pr n_impl_AreServers [.sl 1 (encI .i64) (fun _ => l)] (.bo (areServers l)) := by
  refine k_impl_AreServers.fn (by kernel_rfl) ?_
  have h0 : l.length * 8 ≤ 140737488351232 := hb
  conv => arg 4; cbv
  refine Sat.loopP (ι := Nat) (fun i => [(7, .int .i64 (fun _ => (i : Int)))]) (fun i => []) (fun i => i ≤ l.length ∧ okSrv (-1) l = okSrv (prevS l i) (l.drop i)) (fun i => l.length - i) 0 ?_ ⟨by omega, by simp [prevS]⟩ (fun i hi => ?_)
  · exact lesA
  conv => arg 4; cbv
  repeat' first
    | (refine Sat.cmp (fun h => ?_) (fun h => ?_) <;> simp only [Cmp.holds] at h <;> (conv => arg 4; cbv))
    | (refine Sat.need ndA ?_; conv => arg 4; cbv)
    | (refine Sat.idxk (by assumption) ?_; conv => arg 4; cbv) | (refine Sat.idx ndA (fun v_ hv_ => ?_); conv => arg 4; cbv)
    | (refine Sat.callb (w_impl_within _ _ _) rfl ledA (fun h => ?_) (fun h => ?_) <;> (try simp only [decide_eq_true_eq, decide_eq_false_iff_not] at h) <;> (conv => arg 4; cbv))
    | (refine Sat.ari64 ndA ndA ?_; conv => arg 4; cbv)
    | (refine Sat.pop ?_; conv => arg 4; cbv)
    | refine Sat.next (i + 1) ?_ ?_ (by (try dsimp only); exact arA)
    | refine Sat.done ?_
  · refine led_bo ?_
    rw [areServers, okSrv_bad (i := i) hi.2 (by assumption) (fun q => by have := prevS_pos (l := l) (i := i) hv_ (by exact arA); omega)]
  · exact lesA
  · have := prevS_pos (l := l) (i := i) hv_ (by exact arA)
    exact ⟨by exact arA, okSrv_step hi.2 (by assumption) (by assumption) (by omega)⟩
  · exact lesA
  · have := prevS_zero (l := l) (i := i) (by exact arA)
    exact ⟨by exact arA, okSrv_step hi.2 (by assumption) (by assumption) (by omega)⟩
  · refine led_bo ?_
    rw [areServers, okSrv_bad (i := i) hi.2 (by assumption) (fun q => h q.1)]
  · refine led_bo ?_
    rw [areServers, okSrv_end hi.2 (by exact arA)]

/-- x is put in its place, once. -/
def put (x : Int) : List Int → List Int
  | [] => [x]
  | y :: r => if x < y then x :: y :: r else if x = y then y :: r else y :: put x r
theorem put_mem {x y : Int} : ∀ {l : List Int}, y ∈ put x l ↔ y = x ∨ y ∈ l
  | [] => by simp [put]
  | z :: r => by
    rw [put]
    split
    · simp
    · split
      · rename_i e; subst e; simp
      · rw [List.mem_cons, put_mem (l := r), List.mem_cons]
        constructor
        · rintro (h | h | h)
          · exact .inr (.inl h)
          · exact .inl h
          · exact .inr (.inr h)
        · rintro (h | h | h)
          · exact .inr (.inl h)
          · exact .inl h
          · exact .inr (.inr h)
theorem put_sasc {x : Int} : ∀ {l : List Int}, SAsc l → SAsc (put x l)
  | [], _ => by simp [put, SAsc]
  | y :: r, h => by
    obtain ⟨h1, h2⟩ := List.pairwise_cons.1 h
    rw [put]
    split
    · rename_i hlt
      refine List.pairwise_cons.2 ⟨fun z hz => ?_, h⟩
      rcases List.mem_cons.1 hz with rfl | hz
      · exact hlt
      · have := h1 z hz; omega
    · split
      · exact h
      · refine List.pairwise_cons.2 ⟨fun z hz => ?_, put_sasc h2⟩
        rcases put_mem.1 hz with rfl | hz
        · omega
        · exact h1 z hz
theorem put_asc {l : List Int} {x : Int} : put x (asc l) = asc (l ++ [x]) := sasc_eq (put_sasc (asc_strict l)) (asc_strict _) (fun y => by rw [put_mem, asc_mem, asc_mem, List.mem_append, List.mem_singleton]; exact Or.comm)
theorem put_at {x : Int} : ∀ {p q : List Int}, (∀ y ∈ p, y < x) → (∀ y, q.head? = some y → x < y) → put x (p ++ q) = p ++ x :: q
  | [], [], _, _ => rfl
  | [], y :: q, _, h => by rw [List.nil_append, put, if_pos (h y rfl), List.nil_append]
  | z :: p, q, h1, h2 => by
    have := h1 z (List.mem_cons_self ..)
    rw [List.cons_append, put, if_neg (by omega), if_neg (by omega), put_at (fun y hy => h1 y (List.mem_cons_of_mem _ hy)) h2, List.cons_append]
theorem put_same {x : Int} : ∀ {p q : List Int}, (∀ y ∈ p, y < x) → put x (p ++ x :: q) = p ++ x :: q
  | [], q, _ => by rw [List.nil_append, put, if_neg (by omega), if_pos rfl]
  | z :: p, q, h1 => by
    have := h1 z (List.mem_cons_self ..)
    rw [List.cons_append, put, if_neg (by omega), if_neg (by omega), put_same (fun y hy => h1 y (List.mem_cons_of_mem _ hy))]
theorem put_len {x : Int} : ∀ {l : List Int}, (put x l).length ≤ l.length + 1
  | [] => by simp [put]
  | y :: r => by
    have := put_len (x := x) (l := r)
    rw [put]
    split
    · simp
    · split
      · simp
      · simp; omega

theorem w_spec_l2Put (l : List Int) (x : Int) (hb : l.length ≤ 2000000) : Fn Pr n_spec_l2Put [.sl 1 (encI .i64) (fun _ => l), .int .i64 (fun _ => x)] (.sl 1 (encI .i64) (fun _ => put x l)) := by
  refine k_spec_l2Put.fn (by kernel_rfl) ?_
  conv => arg 4; cbv
  refine Sat.loopP (ι := Nat) (fun i => [(5, .int .i64 (fun _ => (i : Int)))]) (fun i => []) (fun i => i ≤ l.length ∧ ∀ y ∈ l.take i, y < x) (fun i => l.length - i) 0 ?_ ⟨by omega, by simp⟩ (fun i hi => ?_)
  · exact lesA
  have hdr : (l.drop i).head? = l[i]? := by simp
  have htd := List.take_append_drop i l
  have hins : (∀ y, l[i]? = some y → x < y) → put x l = l.take i ++ x :: l.drop i := fun h => by
    have := put_at (x := x) (p := l.take i) (q := l.drop i) hi.2 (fun y hy => h y (by rw [← hdr]; exact hy))
    rwa [htd] at this
  have hsame : l[i]? = some x → put x l = l := fun h => by
    have := put_same (x := x) (p := l.take i) (q := l.drop (i + 1)) hi.2
    rwa [← drop_get h, htd] at this
  conv => arg 4; cbv
  repeat' first
    | (refine Sat.cmp (fun h => ?_) (fun h => ?_) <;> simp only [Cmp.holds] at h <;> (conv => arg 4; cbv))
    | (refine Sat.need ⟨fun y _ => flat_encI .i64 y, by (try dsimp only); exact arA⟩ ?_; conv => arg 4; cbv)
    | (refine Sat.need ⟨rfl, rfl, rfl, by (try dsimp only); exact arA⟩ ?_; conv => arg 4; cbv)
    | (refine Sat.need ⟨rfl, fun y _ => flat_encI .i64 y, by (try dsimp only); exact arA⟩ ?_; conv => arg 4; cbv)
    | (refine Sat.need ndA ?_; conv => arg 4; cbv)
    | (refine Sat.idxk (by assumption) ?_; conv => arg 4; cbv) | (refine Sat.idx ndA (fun v_ hv_ => ?_); conv => arg 4; cbv)
    | (refine Sat.typed x tcA ?_; conv => arg 4; cbv)
    | (refine Sat.same ?_; conv => arg 4; cbv)
    | (refine Sat.ari64 ndA ndA ?_; conv => arg 4; cbv)
    | (refine Sat.pop ?_; conv => arg 4; cbv)
    | refine Sat.next (i + 1) ?_ ?_ (by (try dsimp only); exact arA)
    | refine Sat.done ?_
  · exact lesA
  · refine ⟨by exact arA, fun y hy => ?_⟩
    rw [List.take_add_one, show l[i]? = some v_ from hv_] at hy
    simp only [Option.toList_some, List.mem_append, List.mem_singleton] at hy
    rcases hy with hy | rfl
    · exact hi.2 y hy
    · exact h
  · refine .sl ?_
    rw [hsame (by subst h; exact hv_)]; simp
  · refine .sl ?_
    rw [hins (fun y hy => by rw [show l[i]? = some v_ from hv_] at hy; cases hy; omega)]
    simp only [List.drop_zero]
    rw [List.take_of_length_le (by simp; omega)]; simp
  all_goals first
    | (exfalso; exact arA)
    | (refine .sl ?_
       rw [hins (fun y hy => by have := lt_of_get hy; exfalso; exact arA)]
       simp only [List.drop_zero]
       rw [List.take_of_length_le (by simp; omega)]; simp; done)

def without (a b : List Int) : List Int := asc (a.filter (fun x => !decide (x ∈ b)))
def common (a b : List Int) : List Int := asc (a.filter (fun x => decide (x ∈ b)))
def unite (a b : List Int) : List Int := asc (a ++ b)
theorem without_len {a b : List Int} : (without a b).length ≤ a.length := Nat.le_trans (asc_len _) (List.length_filter_le _ _)
theorem common_len {a b : List Int} : (common a b).length ≤ a.length := Nat.le_trans (asc_len _) (List.length_filter_le _ _)
theorem unite_len {a b : List Int} : (unite a b).length ≤ a.length + b.length := by have := asc_len (a ++ b); simpa [unite] using this
theorem without_mem {a b : List Int} {x : Int} : x ∈ without a b ↔ x ∈ a ∧ x ∉ b := by simp [without, asc_mem]
theorem common_mem {a b : List Int} {x : Int} : x ∈ common a b ↔ x ∈ a ∧ x ∈ b := by simp [common, asc_mem]
theorem unite_mem {a b : List Int} {x : Int} : x ∈ unite a b ↔ x ∈ a ∨ x ∈ b := by simp [unite, asc_mem]
theorem filter_sasc {p : Int → Bool} {l : List Int} (h : SAsc l) : SAsc (l.filter p) := List.Pairwise.filter p h

set_option maxHeartbeats 1000000 in
theorem w_spec_CommonServers (a b : List Int) (ha : a.length ≤ 2000000) (hb : bIntS b) : Fn Pr n_spec_CommonServers [.sl 1 (encI .i64) (fun _ => a), .sl 1 (encI .i64) (fun _ => b)] (.sl 1 (encI .i64) (fun _ => common a b)) := by
  refine k_spec_CommonServers.fn (by kernel_rfl) ?_
  have hla : ∀ i, (asc ((a.take i).filter (fun x => decide (x ∈ b)))).length ≤ a.length := fun i => Nat.le_trans (asc_len _) (Nat.le_trans (List.length_filter_le _ _) (by simp; omega))
  conv => arg 4; cbv
  refine Sat.loopP (ι := Nat) (fun i => [(6, .int .i64 (fun _ => (i : Int))), (5, .ref 64 (fun _ => 0) (fun _ => (asc ((a.take i).filter (fun x => decide (x ∈ b)))).length))]) (fun i => [(64, .row 1 (encI .i64) (fun _ => asc ((a.take i).filter (fun x => decide (x ∈ b)))) false)]) (fun i => i ≤ a.length) (fun i => a.length - i) 0 ?_ (by omega) (fun i hi => ?_)
  · refine les_of ?_ ?_ rfl
    iterate 2 (focus repeat' (first | exact trivial | refine And.intro ?_ ?_ | exact levA | refine lev_cons ?_ ?_ | refine LeV.agg rfl ?_ | exact Nat.le_of_ble_eq_true rfl | exact Or.inl ⟨_, rfl, .row rfl⟩ | refine Or.inl ⟨_, rfl, .row ?_⟩ | refine Or.inl ⟨_, rfl, .lit rfl ?_⟩ | exact Or.inr ⟨rfl, rfl⟩ | (first | exact .empref (fun h => nomatch h) rfl rfl rfl | rfl)))
  have hl := hla i
  conv => arg 4; cbv
  repeat' first
    | (refine Sat.cmp (fun h => ?_) (fun h => ?_) <;> simp only [Cmp.holds] at h <;> (conv => arg 4; cbv))
    | (refine Sat.need ndA ?_; conv => arg 4; cbv)
    | (refine Sat.idxk (by assumption) ?_; conv => arg 4; cbv) | (refine Sat.idx ndA (fun v_ hv_ => ?_); conv => arg 4; cbv)
    | (refine Sat.callb (w_spec_HasServer b _ hb) rfl ledA (fun h => ?_) (fun h => ?_) <;> (try simp only [decide_eq_true_eq, decide_eq_false_iff_not] at h) <;> (conv => arg 4; cbv))
    | (refine Sat.call (w_spec_l2Put (asc ((a.take i).filter (fun x => decide (x ∈ b)))) _ (by omega)) rfl ledA ?_; conv => arg 4; cbv)
    | (refine Sat.ari64 ndA ndA ?_; conv => arg 4; cbv)
    | (refine Sat.pop ?_; conv => arg 4; cbv)
    | refine Sat.done ?_
  · have hs : asc ((a.take (i + 1)).filter (fun x => decide (x ∈ b))) = put v_ (asc ((a.take i).filter (fun x => decide (x ∈ b)))) := by rw [put_asc, List.take_add_one, show a[i]? = some v_ from hv_]; simp [h]
    refine Sat.nextR 305 64 (i + 1) rfl rfl rfl rfl ?_ (by exact arA) (by exact arA)
    refine les_of ?_ ?_ rfl
    iterate 2 (focus repeat' (first | exact trivial | refine And.intro ?_ ?_ | exact levA | refine lev_cons ?_ ?_ | refine LeV.agg rfl ?_ | exact Nat.le_of_ble_eq_true rfl | exact Or.inl ⟨_, rfl, .row rfl⟩ | refine Or.inl ⟨_, rfl, .row ?_⟩ | refine Or.inl ⟨_, rfl, .lit rfl ?_⟩ | exact Or.inr ⟨rfl, rfl⟩ | (first | exact .ref (fun h => nomatch h) (fun h => nomatch h) rfl (by (try dsimp only); rw [hs]) | (show put v_ (asc ((a.take i).filter (fun x => decide (x ∈ b)))) = asc ((a.take (i + 1)).filter (fun x => decide (x ∈ b))); rw [hs]))))
  · have hs : asc ((a.take (i + 1)).filter (fun x => decide (x ∈ b))) = asc ((a.take i).filter (fun x => decide (x ∈ b))) := by rw [List.take_add_one, show a[i]? = some v_ from hv_]; simp [h]
    refine Sat.next (i + 1) ?_ (by exact arA) (by exact arA)
    refine les_of ?_ ?_ rfl
    iterate 2 (focus repeat' (first | exact trivial | refine And.intro ?_ ?_ | exact levA | refine lev_cons ?_ ?_ | refine LeV.agg rfl ?_ | exact Nat.le_of_ble_eq_true rfl | exact Or.inl ⟨_, rfl, .row rfl⟩ | refine Or.inl ⟨_, rfl, .row ?_⟩ | refine Or.inl ⟨_, rfl, .lit rfl ?_⟩ | exact Or.inr ⟨rfl, rfl⟩ | (first | exact .ref (fun h => nomatch h) (fun h => nomatch h) rfl (by (try dsimp only); rw [hs]) | (show asc ((a.take i).filter (fun x => decide (x ∈ b))) = asc ((a.take (i + 1)).filter (fun x => decide (x ∈ b))); rw [hs]))))
  · refine .sl ?_
    have e : i = a.length := by exact arA
    subst e
    simp [common]

theorem keep_asc {a b : List Int} : keep (fun x => decide (x ∈ b)) (asc a) = without a b := sasc_eq (filter_sasc (asc_strict a)) (asc_strict _) (fun y => by simp [keep, without, asc_mem])
theorem common_without {a b : List Int} : without a (without a b) = common a b := asc_eq (fun y => by
  by_cases h1 : y ∈ a <;> by_cases h2 : y ∈ b <;> simp [List.mem_filter, without_mem, h1, h2])

theorem w_impl_WithoutServers_c1 (b : List Int) (hb : bIntS b) (x : Int) : Fn Pr n_impl_WithoutServers_c1 [.int .i64 (fun _ => x), .rptr [.sl 1 (encI .i64) (fun _ => b)]] (.bo (decide (x ∈ b))) := by
  refine k_impl_WithoutServers_c1.fn (by kernel_rfl) ?_
  conv => arg 4; cbv
  repeat' first
    | (refine Sat.cmp (fun h => ?_) (fun h => ?_) <;> simp only [Cmp.holds] at h <;> (conv => arg 4; cbv))
    | (refine Sat.callb (w_impl_HasServer b x hb) rfl ledA (fun h => ?_) (fun h => ?_) <;> (try simp only [decide_eq_true_eq, decide_eq_false_iff_not] at h) <;> (conv => arg 4; cbv))
    | (refine Sat.need ndA ?_; conv => arg 4; cbv)
    | (refine Sat.idxk (by assumption) ?_; conv => arg 4; cbv) | (refine Sat.idx ndA (fun v_ hv_ => ?_); conv => arg 4; cbv)
    | (refine Sat.ari64 ndA ndA ?_; conv => arg 4; cbv)
    | (refine Sat.pop ?_; conv => arg 4; cbv)
    | refine Sat.done ?_
  all_goals refine led_bo ?_
  all_goals simp_all

theorem w_impl_WithoutServers (a b : List Int) (ha : a.length ≤ 12) (hb : bIntS b) : Fn Pr n_impl_WithoutServers [.sl 1 (encI .i64) (fun _ => a), .sl 1 (encI .i64) (fun _ => b)] (.sl 1 (encI .i64) (fun _ => without a b)) := by
  have hl := asc_len a
  refine k_impl_WithoutServers.fn (by kernel_rfl) ?_
  conv => arg 4; cbv
  repeat' first
    | (refine Sat.cmp (fun h => ?_) (fun h => ?_) <;> simp only [Cmp.holds] at h <;> (conv => arg 4; cbv))
    | (refine Sat.call (w_impl_ascending a ha) rfl ledA ?_; conv => arg 4; cbv)
    | (refine Sat.callm (w_slices_DeleteFunc_intint (asc a) b n_impl_WithoutServers_c1 (fun x => decide (x ∈ b)) (w_impl_WithoutServers_c1 b hb) (by omega)) rfl ledA rfl ledA ?_; conv => arg 4; cbv)
    | (refine Sat.need ndA ?_; conv => arg 4; cbv)
    | (refine Sat.need (by (repeat' (first | exact trivial | refine And.intro ?_ ?_ | rfl | (dsimp only; simp [genL_length]; done))); (first | done | fail)) ?_; conv => arg 4; cbv)
    | (refine Sat.idxk (by assumption) ?_; conv => arg 4; cbv) | (refine Sat.idx ndA (fun v_ hv_ => ?_); conv => arg 4; cbv)
    | (refine Sat.ari64 ndA ndA ?_; conv => arg 4; cbv)
    | (refine Sat.pop ?_; conv => arg 4; cbv)
    | refine Sat.done ?_
  all_goals refine .sl ?_
  all_goals simp [keepZ, keep_asc]

theorem w_impl_CommonServers (a b : List Int) (ha : a.length ≤ 12) (hb : bIntS b) : Fn Pr n_impl_CommonServers [.sl 1 (encI .i64) (fun _ => a), .sl 1 (encI .i64) (fun _ => b)] (.sl 1 (encI .i64) (fun _ => common a b)) := by
  have hw : bIntS (without a b) := by have := without_len (a := a) (b := b); show (without a b).length * 8 ≤ _; omega
  refine k_impl_CommonServers.fn (by kernel_rfl) ?_
  conv => arg 4; cbv
  repeat' first
    | (refine Sat.cmp (fun h => ?_) (fun h => ?_) <;> simp only [Cmp.holds] at h <;> (conv => arg 4; cbv))
    | (refine Sat.call (w_impl_WithoutServers a b ha hb) rfl ledA ?_; conv => arg 4; cbv)
    | (refine Sat.call (w_impl_WithoutServers a (without a b) ha hw) rfl ledA ?_; conv => arg 4; cbv)
    | (refine Sat.need ndA ?_; conv => arg 4; cbv)
    | (refine Sat.idxk (by assumption) ?_; conv => arg 4; cbv) | (refine Sat.idx ndA (fun v_ hv_ => ?_); conv => arg 4; cbv)
    | (refine Sat.ari64 ndA ndA ?_; conv => arg 4; cbv)
    | (refine Sat.pop ?_; conv => arg 4; cbv)
    | refine Sat.done ?_
  all_goals refine .sl ?_
  all_goals simp [common_without]

def validC (c : GConfig) : Bool := decide (1 ≤ c.Epoch ∧ c.Epoch ≤ 20) && areServers c.Replicas && areServers c.Witnesses && decide (c.Primary ∈ c.Replicas) && decide (((common c.Replicas c.Witnesses).length : Int) = 0)
theorem validC_spec {c : GConfig} (h : validC c = true) : (1 ≤ c.Epoch ∧ c.Epoch ≤ 20) ∧ areServers c.Replicas = true ∧ areServers c.Witnesses = true ∧ c.Primary ∈ c.Replicas ∧ ∀ x ∈ c.Replicas, x ∉ c.Witnesses := by
  simp only [validC, Bool.and_eq_true, decide_eq_true_eq] at h
  obtain ⟨⟨⟨⟨h1, h2⟩, h3⟩, h4⟩, h5⟩ := h
  refine ⟨h1, h2, h3, h4, fun x hx hw => ?_⟩
  have e : common c.Replicas c.Witnesses = [] := List.eq_nil_of_length_eq_zero (by omega)
  have := common_mem.2 ⟨hx, hw⟩
  rw [e] at this
  cases this

theorem w_impl_IsValidConfig (c : GConfig) (hb : bConfig c) : Fn Pr n_impl_IsValidConfig [aGConfig c] (.bo (validC c)) := by
  refine k_impl_IsValidConfig.fn (by kernel_rfl) ?_
  conv => arg 4; cbv
  repeat' first
    | (refine Sat.cmp (fun h => ?_) (fun h => ?_) <;> simp only [Cmp.holds] at h <;> (conv => arg 4; cbv))
    | (refine Sat.callb (w_impl_within _ _ _) rfl ledA (fun h => ?_) (fun h => ?_) <;> (try simp only [decide_eq_true_eq, decide_eq_false_iff_not] at h) <;> (conv => arg 4; cbv))
    | (refine Sat.callb (w_impl_AreServers c.Replicas hb.1) rfl ledA (fun h => ?_) (fun h => ?_) <;> (try simp only [decide_eq_true_eq, decide_eq_false_iff_not] at h) <;> (conv => arg 4; cbv))
    | (refine Sat.callb (w_impl_AreServers c.Witnesses hb.2) rfl ledA (fun h => ?_) (fun h => ?_) <;> (try simp only [decide_eq_true_eq, decide_eq_false_iff_not] at h) <;> (conv => arg 4; cbv))
    | (refine Sat.callb (w_impl_HasServer c.Replicas _ hb.1) rfl ledA (fun h => ?_) (fun h => ?_) <;> (try simp only [decide_eq_true_eq, decide_eq_false_iff_not] at h) <;> (conv => arg 4; cbv))
    | (refine Sat.call (w_impl_CommonServers c.Replicas c.Witnesses (by have := areServers_len (l := c.Replicas) (by assumption); omega) hb.2) rfl ledA ?_; conv => arg 4; cbv)
    | (refine Sat.need ndA ?_; conv => arg 4; cbv)
    | (refine Sat.idxk (by assumption) ?_; conv => arg 4; cbv) | (refine Sat.idx ndA (fun v_ hv_ => ?_); conv => arg 4; cbv)
    | (refine Sat.ari64 ndA ndA ?_; conv => arg 4; cbv)
    | (refine Sat.pop ?_; conv => arg 4; cbv)
    | refine Sat.done ?_
  all_goals refine led_bo ?_
  all_goals (try simp only [ncast] at *)
  all_goals first | (simp_all [validC]; done) | (simp_all [validC]; intros; omega)

theorem w_spec_IsValidConfig (c : GConfig) (hb : bConfig c) : Fn Pr n_spec_IsValidConfig [aGConfig c] (.bo (validC c)) := by
  refine k_spec_IsValidConfig.fn (by kernel_rfl) ?_
  conv => arg 4; cbv
  repeat' first
    | (refine Sat.cmp (fun h => ?_) (fun h => ?_) <;> simp only [Cmp.holds] at h <;> (conv => arg 4; cbv))
    | (refine Sat.callb (w_spec_l1In _ _ _) rfl ledA (fun h => ?_) (fun h => ?_) <;> (try simp only [decide_eq_true_eq, decide_eq_false_iff_not] at h) <;> (conv => arg 4; cbv))
    | (refine Sat.callb (w_spec_AreServers c.Replicas hb.1) rfl ledA (fun h => ?_) (fun h => ?_) <;> (try simp only [decide_eq_true_eq, decide_eq_false_iff_not] at h) <;> (conv => arg 4; cbv))
    | (refine Sat.callb (w_spec_AreServers c.Witnesses hb.2) rfl ledA (fun h => ?_) (fun h => ?_) <;> (try simp only [decide_eq_true_eq, decide_eq_false_iff_not] at h) <;> (conv => arg 4; cbv))
    | (refine Sat.callb (w_spec_HasServer c.Replicas _ hb.1) rfl ledA (fun h => ?_) (fun h => ?_) <;> (try simp only [decide_eq_true_eq, decide_eq_false_iff_not] at h) <;> (conv => arg 4; cbv))
    | (refine Sat.call (w_spec_CommonServers c.Replicas c.Witnesses (by have := areServers_len (l := c.Replicas) (by assumption); omega) hb.2) rfl ledA ?_; conv => arg 4; cbv)
    | (refine Sat.need ndA ?_; conv => arg 4; cbv)
    | (refine Sat.idxk (by assumption) ?_; conv => arg 4; cbv) | (refine Sat.idx ndA (fun v_ hv_ => ?_); conv => arg 4; cbv)
    | (refine Sat.ari64 ndA ndA ?_; conv => arg 4; cbv)
    | (refine Sat.pop ?_; conv => arg 4; cbv)
    | refine Sat.done ?_
  all_goals refine led_bo ?_
  all_goals (try simp only [ncast] at *)
  all_goals first | (simp_all [validC]; done) | (simp_all [validC]; intros; omega)

--import Derived.Shelf.Strings.OnBuilder
def layJoinRen : Go.Shelf.Ren := ⟨fun | 156 => 28 | 165 => 41 | 166 => 42 | 169 => 43 | 240 => 52 | 241 => 53 | 276 => 64 | 277 => 65 | n => n, fun | 31 => 30 | 9 => 9 | 3 => 3 | 4 => 4 | 0 => 0 | 20 => 20 | 72 => 55 | 76 => 59 | 70 => 53 | 37 => 50 | 75 => 58 | 127 => 66 | 164 => 72 | 5 => 5 | 80 => 61 | n => n, fun | n => n⟩
theorem layJoin : Go.Proofs.Lays.n156 Go.Proofs.Tryz.prog layJoinRen := {
  mixed := by kernel_rfl
  f156 := Go.Proofs.Tryz.func28.trans (congrArg some (by kernel_rfl))
  f165 := Go.Proofs.Tryz.func41.trans (congrArg some (by kernel_rfl))
  f166 := Go.Proofs.Tryz.func42.trans (congrArg some (by kernel_rfl))
  f169 := Go.Proofs.Tryz.func43.trans (congrArg some (by kernel_rfl))
  f240 := Go.Proofs.Tryz.func52.trans (congrArg some (by kernel_rfl))
  f241 := Go.Proofs.Tryz.func53.trans (congrArg some (by kernel_rfl))
  f276 := Go.Proofs.Tryz.func64.trans (congrArg some (by kernel_rfl))
  f277 := Go.Proofs.Tryz.func65.trans (congrArg some (by kernel_rfl))
  t0 := Go.Proofs.Tryz.underlying0
  a0 := Go.Proofs.Tryz.isAgg0
  z0 := Go.Proofs.Tryz.sizeOf0
  v0 := Go.Proofs.Tryz.zeroValue0
  t3 := Go.Proofs.Tryz.underlying3
  a3 := Go.Proofs.Tryz.isAgg3
  z3 := Go.Proofs.Tryz.sizeOf3
  v3 := Go.Proofs.Tryz.zeroValue3
  t4 := Go.Proofs.Tryz.underlying4
  a4 := Go.Proofs.Tryz.isAgg4
  z4 := Go.Proofs.Tryz.sizeOf4
  v4 := Go.Proofs.Tryz.zeroValue4
  t9 := Go.Proofs.Tryz.underlying9
  a9 := Go.Proofs.Tryz.isAgg9
  z9 := Go.Proofs.Tryz.sizeOf9
  v9 := Go.Proofs.Tryz.zeroValue9
  t20 := Go.Proofs.Tryz.underlying20
  a20 := Go.Proofs.Tryz.isAgg20
  z20 := Go.Proofs.Tryz.sizeOf20
  v20 := Go.Proofs.Tryz.zeroValue20
  t31 := Go.Proofs.Tryz.underlying30
  a31 := Go.Proofs.Tryz.isAgg30
  z31 := Go.Proofs.Tryz.sizeOf30
  v31 := Go.Proofs.Tryz.zeroValue30
  t37 := Go.Proofs.Tryz.underlying50
  a37 := Go.Proofs.Tryz.isAgg50
  z37 := Go.Proofs.Tryz.sizeOf50
  v37 := Go.Proofs.Tryz.zeroValue50
  t70 := Go.Proofs.Tryz.underlying53
  a70 := Go.Proofs.Tryz.isAgg53
  z70 := Go.Proofs.Tryz.sizeOf53
  v70 := Go.Proofs.Tryz.zeroValue53
  t72 := Go.Proofs.Tryz.underlying55
  a72 := Go.Proofs.Tryz.isAgg55
  z72 := Go.Proofs.Tryz.sizeOf55
  v72 := Go.Proofs.Tryz.zeroValue55
  t75 := Go.Proofs.Tryz.underlying58
  a75 := Go.Proofs.Tryz.isAgg58
  z75 := Go.Proofs.Tryz.sizeOf58
  v75 := Go.Proofs.Tryz.zeroValue58
  t76 := Go.Proofs.Tryz.underlying59
  a76 := Go.Proofs.Tryz.isAgg59
  z76 := Go.Proofs.Tryz.sizeOf59
  v76 := Go.Proofs.Tryz.zeroValue59
  t127 := Go.Proofs.Tryz.underlying66
  a127 := Go.Proofs.Tryz.isAgg66
  z127 := Go.Proofs.Tryz.sizeOf66
  v127 := Go.Proofs.Tryz.zeroValue66
  t164 := Go.Proofs.Tryz.underlying72
  a164 := Go.Proofs.Tryz.isAgg72
  z164 := Go.Proofs.Tryz.sizeOf72
  v164 := Go.Proofs.Tryz.zeroValue72 }

--import Derived.Shelf.Strings.OnBuilder
theorem layJoinX : Go.Proofs.Builder.Extra Go.Proofs.Tryz.prog layJoinRen := {
  sizeBuilder := by kernel_rfl
  liesBuilder := by kernel_rfl
  t5 := Go.Proofs.Tryz.underlying5
  a5 := Go.Proofs.Tryz.isAgg5
  z5 := Go.Proofs.Tryz.sizeOf5
  v5 := Go.Proofs.Tryz.zeroValue5
  infoByte := by kernel_rfl
  cellsByte := by kernel_rfl
  sizeByte := by kernel_rfl
  neB5 := by decide }

--import Derived.Shelf.Strconv.Itoa3
def layItoaRen : Go.Shelf.Ren := ⟨fun | 171 => 44 | 243 => 54 | 246 => 66 | 283 => 73 | 284 => 74 | 285 => 75 | 286 => 76 | 129 => 80 | 317 => 79 | 318 => 81 | 319 => 82 | 320 => 83 | 337 => 94 | 338 => 95 | n => n, fun | 3 => 3 | 9 => 9 | 2 => 2 | 4 => 4 | 171 => 85 | 0 => 0 | 53 => 86 | 37 => 50 | 5 => 5 | 173 => 89 | 212 => 94 | 51 => 80 | 20 => 20 | 213 => 95 | 46 => 68 | 232 => 111 | 233 => 112 | n => n, fun | 17 => 3 | 18 => 4 | 19 => 5 | n => n⟩
theorem layItoa : Go.Proofs.LaysM.n171 Go.Proofs.Tryz.prog layItoaRen := {
  mixed := by kernel_rfl
  f129 := Go.Proofs.Tryz.func80.trans (congrArg some (by kernel_rfl))
  f171 := Go.Proofs.Tryz.func44.trans (congrArg some (by kernel_rfl))
  f243 := Go.Proofs.Tryz.func54.trans (congrArg some (by kernel_rfl))
  f246 := Go.Proofs.Tryz.func66.trans (congrArg some (by kernel_rfl))
  f283 := Go.Proofs.Tryz.func73.trans (congrArg some (by kernel_rfl))
  f284 := Go.Proofs.Tryz.func74.trans (congrArg some (by kernel_rfl))
  f285 := Go.Proofs.Tryz.func75.trans (congrArg some (by kernel_rfl))
  f286 := Go.Proofs.Tryz.func76.trans (congrArg some (by kernel_rfl))
  f317 := Go.Proofs.Tryz.func79.trans (congrArg some (by kernel_rfl))
  f318 := Go.Proofs.Tryz.func81.trans (congrArg some (by kernel_rfl))
  f319 := Go.Proofs.Tryz.func82.trans (congrArg some (by kernel_rfl))
  f320 := Go.Proofs.Tryz.func83.trans (congrArg some (by kernel_rfl))
  f337 := Go.Proofs.Tryz.func94.trans (congrArg some (by kernel_rfl))
  f338 := Go.Proofs.Tryz.func95.trans (congrArg some (by kernel_rfl))
  t0 := Go.Proofs.Tryz.underlying0
  a0 := Go.Proofs.Tryz.isAgg0
  z0 := Go.Proofs.Tryz.sizeOf0
  v0 := Go.Proofs.Tryz.zeroValue0
  t2 := Go.Proofs.Tryz.underlying2
  a2 := Go.Proofs.Tryz.isAgg2
  z2 := Go.Proofs.Tryz.sizeOf2
  v2 := Go.Proofs.Tryz.zeroValue2
  t3 := Go.Proofs.Tryz.underlying3
  a3 := Go.Proofs.Tryz.isAgg3
  z3 := Go.Proofs.Tryz.sizeOf3
  v3 := Go.Proofs.Tryz.zeroValue3
  t4 := Go.Proofs.Tryz.underlying4
  a4 := Go.Proofs.Tryz.isAgg4
  z4 := Go.Proofs.Tryz.sizeOf4
  v4 := Go.Proofs.Tryz.zeroValue4
  t5 := Go.Proofs.Tryz.underlying5
  a5 := Go.Proofs.Tryz.isAgg5
  z5 := Go.Proofs.Tryz.sizeOf5
  v5 := Go.Proofs.Tryz.zeroValue5
  t9 := Go.Proofs.Tryz.underlying9
  a9 := Go.Proofs.Tryz.isAgg9
  z9 := Go.Proofs.Tryz.sizeOf9
  v9 := Go.Proofs.Tryz.zeroValue9
  t20 := Go.Proofs.Tryz.underlying20
  a20 := Go.Proofs.Tryz.isAgg20
  z20 := Go.Proofs.Tryz.sizeOf20
  v20 := Go.Proofs.Tryz.zeroValue20
  t37 := Go.Proofs.Tryz.underlying50
  a37 := Go.Proofs.Tryz.isAgg50
  z37 := Go.Proofs.Tryz.sizeOf50
  v37 := Go.Proofs.Tryz.zeroValue50
  t46 := Go.Proofs.Tryz.underlying68
  a46 := Go.Proofs.Tryz.isAgg68
  z46 := Go.Proofs.Tryz.sizeOf68
  v46 := Go.Proofs.Tryz.zeroValue68
  t51 := Go.Proofs.Tryz.underlying80
  a51 := Go.Proofs.Tryz.isAgg80
  z51 := Go.Proofs.Tryz.sizeOf80
  v51 := Go.Proofs.Tryz.zeroValue80
  t53 := Go.Proofs.Tryz.underlying86
  a53 := Go.Proofs.Tryz.isAgg86
  z53 := Go.Proofs.Tryz.sizeOf86
  v53 := Go.Proofs.Tryz.zeroValue86
  t171 := Go.Proofs.Tryz.underlying85
  a171 := Go.Proofs.Tryz.isAgg85
  z171 := Go.Proofs.Tryz.sizeOf85
  v171 := Go.Proofs.Tryz.zeroValue85
  t173 := Go.Proofs.Tryz.underlying89
  a173 := Go.Proofs.Tryz.isAgg89
  z173 := Go.Proofs.Tryz.sizeOf89
  v173 := Go.Proofs.Tryz.zeroValue89
  t212 := Go.Proofs.Tryz.underlying94
  a212 := Go.Proofs.Tryz.isAgg94
  z212 := Go.Proofs.Tryz.sizeOf94
  v212 := Go.Proofs.Tryz.zeroValue94
  t213 := Go.Proofs.Tryz.underlying95
  a213 := Go.Proofs.Tryz.isAgg95
  z213 := Go.Proofs.Tryz.sizeOf95
  t232 := Go.Proofs.Tryz.underlying111
  a232 := Go.Proofs.Tryz.isAgg111
  z232 := Go.Proofs.Tryz.sizeOf111
  v232 := Go.Proofs.Tryz.zeroValue111
  t233 := Go.Proofs.Tryz.underlying112
  a233 := Go.Proofs.Tryz.isAgg112
  z233 := Go.Proofs.Tryz.sizeOf112
  v233 := Go.Proofs.Tryz.zeroValue112
  g17 := by kernel_rfl
  g18 := by kernel_rfl
  g19 := by kernel_rfl
  i0 := by kernel_rfl
  i2 := by kernel_rfl
  i3 := by kernel_rfl
  i4 := by kernel_rfl
  i5 := by kernel_rfl
  i9 := by kernel_rfl
  i20 := by kernel_rfl
  i37 := by kernel_rfl
  i46 := by kernel_rfl
  i51 := by kernel_rfl
  i53 := by kernel_rfl
  i171 := by kernel_rfl
  i173 := by kernel_rfl
  i212 := by kernel_rfl
  i232 := by kernel_rfl
  i233 := by kernel_rfl
  m17 := by kernel_rfl
  m18 := by kernel_rfl
  m19 := by kernel_rfl }

--import Derived.Shelf.Strings.Split
def laySplitRen : Go.Shelf.Ren := ⟨fun | 146 => 13 | 221 => 24 | 268 => 34 | 138 => 35 | 143 => 36 | 195 => 46 | 197 => 47 | 218 => 48 | 219 => 49 | 260 => 55 | 217 => 56 | 225 => 57 | 224 => 58 | 267 => 59 | 266 => 67 | 314 => 68 | n => n, fun | 9 => 9 | 31 => 30 | 3 => 3 | 4 => 4 | 0 => 0 | 105 => 63 | 21 => 21 | 5 => 5 | 46 => 68 | 119 => 76 | 139 => 79 | 138 => 78 | 146 => 81 | 51 => 80 | n => n, fun | 1 => 0 | 3 => 1 | 4 => 2 | n => n⟩
theorem laySplit : Go.Proofs.Lays.n146 Go.Proofs.Tryz.prog laySplitRen := {
  mixed := by kernel_rfl
  f138 := Go.Proofs.Tryz.func35.trans (congrArg some (by kernel_rfl))
  f143 := Go.Proofs.Tryz.func36.trans (congrArg some (by kernel_rfl))
  f146 := Go.Proofs.Tryz.func13.trans (congrArg some (by kernel_rfl))
  f195 := Go.Proofs.Tryz.func46.trans (congrArg some (by kernel_rfl))
  f197 := Go.Proofs.Tryz.func47.trans (congrArg some (by kernel_rfl))
  f217 := Go.Proofs.Tryz.func56.trans (congrArg some (by kernel_rfl))
  f218 := Go.Proofs.Tryz.func48.trans (congrArg some (by kernel_rfl))
  f219 := Go.Proofs.Tryz.func49.trans (congrArg some (by kernel_rfl))
  f221 := Go.Proofs.Tryz.func24.trans (congrArg some (by kernel_rfl))
  f224 := Go.Proofs.Tryz.func58.trans (congrArg some (by kernel_rfl))
  f225 := Go.Proofs.Tryz.func57.trans (congrArg some (by kernel_rfl))
  f260 := Go.Proofs.Tryz.func55.trans (congrArg some (by kernel_rfl))
  f266 := Go.Proofs.Tryz.func67.trans (congrArg some (by kernel_rfl))
  f267 := Go.Proofs.Tryz.func59.trans (congrArg some (by kernel_rfl))
  f268 := Go.Proofs.Tryz.func34.trans (congrArg some (by kernel_rfl))
  f314 := Go.Proofs.Tryz.func68.trans (congrArg some (by kernel_rfl))
  t0 := Go.Proofs.Tryz.underlying0
  a0 := Go.Proofs.Tryz.isAgg0
  z0 := Go.Proofs.Tryz.sizeOf0
  v0 := Go.Proofs.Tryz.zeroValue0
  t3 := Go.Proofs.Tryz.underlying3
  a3 := Go.Proofs.Tryz.isAgg3
  z3 := Go.Proofs.Tryz.sizeOf3
  v3 := Go.Proofs.Tryz.zeroValue3
  t4 := Go.Proofs.Tryz.underlying4
  a4 := Go.Proofs.Tryz.isAgg4
  z4 := Go.Proofs.Tryz.sizeOf4
  v4 := Go.Proofs.Tryz.zeroValue4
  t5 := Go.Proofs.Tryz.underlying5
  a5 := Go.Proofs.Tryz.isAgg5
  z5 := Go.Proofs.Tryz.sizeOf5
  v5 := Go.Proofs.Tryz.zeroValue5
  t9 := Go.Proofs.Tryz.underlying9
  a9 := Go.Proofs.Tryz.isAgg9
  z9 := Go.Proofs.Tryz.sizeOf9
  v9 := Go.Proofs.Tryz.zeroValue9
  t21 := Go.Proofs.Tryz.underlying21
  a21 := Go.Proofs.Tryz.isAgg21
  z21 := Go.Proofs.Tryz.sizeOf21
  v21 := Go.Proofs.Tryz.zeroValue21
  t31 := Go.Proofs.Tryz.underlying30
  a31 := Go.Proofs.Tryz.isAgg30
  z31 := Go.Proofs.Tryz.sizeOf30
  v31 := Go.Proofs.Tryz.zeroValue30
  t46 := Go.Proofs.Tryz.underlying68
  a46 := Go.Proofs.Tryz.isAgg68
  z46 := Go.Proofs.Tryz.sizeOf68
  v46 := Go.Proofs.Tryz.zeroValue68
  t51 := Go.Proofs.Tryz.underlying80
  a51 := Go.Proofs.Tryz.isAgg80
  z51 := Go.Proofs.Tryz.sizeOf80
  v51 := Go.Proofs.Tryz.zeroValue80
  t105 := Go.Proofs.Tryz.underlying63
  a105 := Go.Proofs.Tryz.isAgg63
  z105 := Go.Proofs.Tryz.sizeOf63
  v105 := Go.Proofs.Tryz.zeroValue63
  t119 := Go.Proofs.Tryz.underlying76
  a119 := Go.Proofs.Tryz.isAgg76
  z119 := Go.Proofs.Tryz.sizeOf76
  t138 := Go.Proofs.Tryz.underlying78
  a138 := Go.Proofs.Tryz.isAgg78
  z138 := Go.Proofs.Tryz.sizeOf78
  v138 := Go.Proofs.Tryz.zeroValue78
  t139 := Go.Proofs.Tryz.underlying79
  a139 := Go.Proofs.Tryz.isAgg79
  z139 := Go.Proofs.Tryz.sizeOf79
  v139 := Go.Proofs.Tryz.zeroValue79
  t146 := Go.Proofs.Tryz.underlying81
  a146 := Go.Proofs.Tryz.isAgg81
  z146 := Go.Proofs.Tryz.sizeOf81
  v146 := Go.Proofs.Tryz.zeroValue81
  g1 := by kernel_rfl
  g3 := by kernel_rfl
  g4 := by kernel_rfl }

abbrev n_strings_Join : Nat := 28
theorem cl_strings_Join : Callable Pr n_strings_Join := ⟨Go.Proofs.Tryz.f28, Go.Proofs.Tryz.func28, fun h => by
    have e : (Go.Proofs.Tryz.f28.name == "runtime.NumGoroutine") = false := by kernel_rfl
    rw [h] at e
    simp at e, by kernel_rfl⟩

theorem cl_strconv_Itoa : Callable Pr n_strconv_Itoa := ⟨Go.Proofs.Tryz.f44, Go.Proofs.Tryz.func44, fun h => by
    have e : (Go.Proofs.Tryz.f44.name == "runtime.NumGoroutine") = false := by kernel_rfl
    rw [h] at e
    simp at e, by kernel_rfl⟩

theorem cl_strings_Split : Callable Pr n_strings_Split := ⟨Go.Proofs.Tryz.f13, Go.Proofs.Tryz.func13, fun h => by
    have e : (Go.Proofs.Tryz.f13.name == "runtime.NumGoroutine") = false := by kernel_rfl
    rw [h] at e
    simp at e, by kernel_rfl⟩

theorem tab_here : Pr.globalNamed tabN = some 3 := by kernel_rfl

theorem len_here : Pr.globalNamed lenN = some 0 := by kernel_rfl

--import Derived.Lib.ItoaNum
/-- A number's text. -/
def sI (n : Int) : ByteArray := ⟨(Lib.itoa n).toArray⟩
theorem sI_one {n : Int} (h0 : 0 ≤ n) (h1 : n < 10) : sI n = ⟨#[UInt8.ofNat (48 + n.toNat)]⟩ := by
  rw [sI, Lib.itoa, if_neg (by omega), Lib.decDigits_one (by omega)]
theorem sI_two {n : Int} (h0 : 10 ≤ n) (h1 : n < 100) : sI n = ⟨#[UInt8.ofNat (48 + n.toNat / 10), UInt8.ofNat (48 + n.toNat % 10)]⟩ := by
  rw [sI, Lib.itoa, if_neg (by omega), Lib.decDigits_two (by omega) (by omega)]
theorem sI_size {n : Int} (h0 : 0 ≤ n) (h1 : n < 100) : 1 ≤ (sI n).size ∧ (sI n).size ≤ 2 := by
  by_cases h : n < 10
  · rw [sI_one h0 h]; exact ⟨by simp [ByteArray.size], by simp [ByteArray.size]⟩
  · rw [sI_two (by omega) h1]; exact ⟨by simp [ByteArray.size], by simp [ByteArray.size]⟩

theorem small_one : ∀ i : Fin 10, (⟨#[48, 49, 50, 51, 52, 53, 54, 55, 56, 57, 97, 98, 99, 100, 101, 102, 103, 104, 105, 106, 107, 108, 109, 110, 111, 112, 113, 114, 115, 116, 117, 118, 119, 120, 121, 122]⟩ : ByteArray).extract i.val (i.val + 1) = ⟨#[UInt8.ofNat (48 + i.val)]⟩ := by decide +kernel
theorem small_two : ∀ i : Fin 100, (⟨#[48, 48, 48, 49, 48, 50, 48, 51, 48, 52, 48, 53, 48, 54, 48, 55, 48, 56, 48, 57, 49, 48, 49, 49, 49, 50, 49, 51, 49, 52, 49, 53, 49, 54, 49, 55, 49, 56, 49, 57, 50, 48, 50, 49, 50, 50, 50, 51, 50, 52, 50, 53, 50, 54, 50, 55, 50, 56, 50, 57, 51, 48, 51, 49, 51, 50, 51, 51, 51, 52, 51, 53, 51, 54, 51, 55, 51, 56, 51, 57, 52, 48, 52, 49, 52, 50, 52, 51, 52, 52, 52, 53, 52, 54, 52, 55, 52, 56, 52, 57, 53, 48, 53, 49, 53, 50, 53, 51, 53, 52, 53, 53, 53, 54, 53, 55, 53, 56, 53, 57, 54, 48, 54, 49, 54, 50, 54, 51, 54, 52, 54, 53, 54, 54, 54, 55, 54, 56, 54, 57, 55, 48, 55, 49, 55, 50, 55, 51, 55, 52, 55, 53, 55, 54, 55, 55, 55, 56, 55, 57, 56, 48, 56, 49, 56, 50, 56, 51, 56, 52, 56, 53, 56, 54, 56, 55, 56, 56, 56, 57, 57, 48, 57, 49, 57, 50, 57, 51, 57, 52, 57, 53, 57, 54, 57, 55, 57, 56, 57, 57]⟩ : ByteArray).extract (i.val * 2) (i.val * 2 + 2) = ⟨#[UInt8.ofNat (48 + i.val / 10), UInt8.ofNat (48 + i.val % 10)]⟩ := by decide +kernel

theorem w_internal_strconv_small (n : Int) (h0 : 0 ≤ n) (h1 : n < 100) : Fn Pr n_internal_strconv_small [.int .i64 (fun _ => n)] (.str (fun _ => sI n)) := by
  refine k_internal_strconv_small.fn (by kernel_rfl) ?_
  conv => arg 4; cbv
  repeat' first
    | (refine Sat.cmp (fun h => ?_) (fun h => ?_) <;> simp only [Cmp.holds] at h <;> (conv => arg 4; cbv))
    | (refine Sat.ari64 ndA ndA ?_; conv => arg 4; cbv)
    | (refine Sat.need ⟨by (try dsimp only); omega, by (try dsimp only); omega, by (show _ ≤ ((36 : Nat) : Int)); (try dsimp only); omega⟩ ?_; conv => arg 4; cbv)
    | (refine Sat.need ⟨by (try dsimp only); omega, by (try dsimp only); omega, by (show _ ≤ ((200 : Nat) : Int)); (try dsimp only); omega⟩ ?_; conv => arg 4; cbv)
    | refine Sat.done (.str ?_)
  · have e := small_one ⟨n.toNat, by omega⟩
    dsimp only at e
    rw [sI_one h0 (by assumption), ← e]
    dsimp only
    congr 1
    omega
  · have e := small_two ⟨n.toNat, by omega⟩
    dsimp only at e
    rw [sI_two (by omega) h1, ← e]
    dsimp only
    congr 1 <;> omega

theorem w_internal_strconv_FormatInt (n : Int) (h0 : 0 ≤ n) (h1 : n < 100) : Fn Pr n_internal_strconv_FormatInt [.int .i64 (fun _ => n), .int .i64 (fun _ => 10)] (.str (fun _ => sI n)) := by
  refine k_internal_strconv_FormatInt.fn (by kernel_rfl) ?_
  conv => arg 4; cbv
  repeat' first
    | (refine Sat.cmp (fun h => ?_) (fun h => ?_) <;> simp only [Cmp.holds] at h <;> (conv => arg 4; cbv))
    | (refine Sat.call (w_internal_strconv_small n h0 h1) rfl ledA ?_; conv => arg 4; cbv)
    | (exfalso; first | omega | (simp_all; done))
    | (refine Sat.need ndA ?_; conv => arg 4; cbv)
    | (refine Sat.idxk (by assumption) ?_; conv => arg 4; cbv) | (refine Sat.idx ndA (fun v_ hv_ => ?_); conv => arg 4; cbv)
    | (refine Sat.ari64 ndA ndA ?_; conv => arg 4; cbv)
    | (refine Sat.pop ?_; conv => arg 4; cbv)
    | refine Sat.done ?_
  all_goals exact .same _

theorem w_internal_strconv_Itoa (n : Int) (h0 : 0 ≤ n) (h1 : n < 100) : Fn Pr n_internal_strconv_Itoa [.int .i64 (fun _ => n)] (.str (fun _ => sI n)) := by
  refine k_internal_strconv_Itoa.fn (by kernel_rfl) ?_
  conv => arg 4; cbv
  repeat' first
    | (refine Sat.cmp (fun h => ?_) (fun h => ?_) <;> simp only [Cmp.holds] at h <;> (conv => arg 4; cbv))
    | (refine Sat.call (w_internal_strconv_FormatInt n h0 h1) rfl ledA ?_; conv => arg 4; cbv)
    | (refine Sat.need ndA ?_; conv => arg 4; cbv)
    | (refine Sat.idxk (by assumption) ?_; conv => arg 4; cbv) | (refine Sat.idx ndA (fun v_ hv_ => ?_); conv => arg 4; cbv)
    | (refine Sat.ari64 ndA ndA ?_; conv => arg 4; cbv)
    | (refine Sat.pop ?_; conv => arg 4; cbv)
    | refine Sat.done ?_
  all_goals exact .same _

theorem w_strconv_Itoa (n : Int) (h0 : 0 ≤ n) (h1 : n < 100) : Fn Pr n_strconv_Itoa [.int .i64 (fun _ => n)] (.str (fun _ => sI n)) := by
  refine k_strconv_Itoa.fn (by kernel_rfl) ?_
  conv => arg 4; cbv
  repeat' first
    | (refine Sat.cmp (fun h => ?_) (fun h => ?_) <;> simp only [Cmp.holds] at h <;> (conv => arg 4; cbv))
    | (refine Sat.call (w_internal_strconv_Itoa n h0 h1) rfl ledA ?_; conv => arg 4; cbv)
    | (refine Sat.need ndA ?_; conv => arg 4; cbv)
    | (refine Sat.idxk (by assumption) ?_; conv => arg 4; cbv) | (refine Sat.idx ndA (fun v_ hv_ => ?_); conv => arg 4; cbv)
    | (refine Sat.ari64 ndA ndA ?_; conv => arg 4; cbv)
    | (refine Sat.pop ?_; conv => arg 4; cbv)
    | refine Sat.done ?_
  all_goals exact .same _

theorem w_impl_FormatInt (n : Int) (h0 : 0 ≤ n) (h1 : n < 100) : Fn Pr n_impl_FormatInt [.int .i64 (fun _ => n)] (.str (fun _ => sI n)) := by
  refine k_impl_FormatInt.fn (by kernel_rfl) ?_
  conv => arg 4; cbv
  repeat' first
    | (refine Sat.cmp (fun h => ?_) (fun h => ?_) <;> simp only [Cmp.holds] at h <;> (conv => arg 4; cbv))
    | (refine Sat.call (w_strconv_Itoa n h0 h1) rfl ledA ?_; conv => arg 4; cbv)
    | (refine Sat.need ndA ?_; conv => arg 4; cbv)
    | (refine Sat.idxk (by assumption) ?_; conv => arg 4; cbv) | (refine Sat.idx ndA (fun v_ hv_ => ?_); conv => arg 4; cbv)
    | (refine Sat.ari64 ndA ndA ?_; conv => arg 4; cbv)
    | (refine Sat.pop ?_; conv => arg 4; cbv)
    | refine Sat.done ?_
  all_goals exact .same _

theorem nDig_le (u : Nat) : Lib.nDigits u ≤ u / 10 + 1 := by
  induction u using Nat.strongRecOn with
  | _ u ih =>
    by_cases h : u < 10
    · rw [Lib.nDigits_small h]; omega
    · rw [Lib.nDigits_big h]
      have := ih (u / 10) (by omega)
      omega
theorem decDig_big {u : Nat} (h : ¬ u < 10) : Lib.decDigits u = Lib.decDigits (u / 10) ++ [UInt8.ofNat (48 + u % 10)] := by
  rw [Lib.decDigits, dif_neg h]
theorem bytes_ext {a b : ByteArray} (h : a.data.toList = b.data.toList) : a = b := by
  cases a; cases b
  congr 1
  exact Array.toList_inj.1 h
theorem sI_list (n : Int) : (sI n).data.toList = Lib.itoa n := by simp [sI]
theorem sI_pos {n : Int} (h : 0 ≤ n) : sI n = ⟨(Lib.decDigits n.toNat).toArray⟩ := by rw [sI, Lib.itoa, if_neg (by omega)]
theorem Sat.ari8 {P : Program} {Q : AV → Prop} {As : List (St → Prop)} {v : Unit → Int} {c : (Unit → Int) → Tree} (h1 : 0 ≤ v ()) (h2 : v () ≤ 255) (hc : Sat P Q As (c v)) : Sat P Q As (.ari .u8 v c) :=
  .ari (IntWalk.u8_in _ ⟨h1, h2⟩) hc
theorem strOf_one {d : Int} : strOfNums [d] = ⟨#[UInt8.ofNat d.toNat]⟩ := rfl

end Go.V.T
