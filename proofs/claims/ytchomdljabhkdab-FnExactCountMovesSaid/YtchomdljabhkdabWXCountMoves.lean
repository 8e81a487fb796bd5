/- Contracts of the functions that FnExactCountMoves reaches: what each returns. Conditions: those that each theorem states. -/
import Derived.Test.YtchomdljabhkdabMXCountMoves
import Derived.Shelf.Slices.In.SortNone
import Derived.Shelf.Sort.Plain
namespace Go.V.T
open Go Go.V Go.RowKit
set_option maxRecDepth 100000
set_option linter.unusedVariables false
set_option linter.unusedSimpArgs false


theorem take_ext {α : Type _} {l r : List α} {i : Nat} {x y : α} (hx : l[i]? = some x) (hy : r[i]? = some y) (h : l.take i = r.take i) (e : x = y) : l.take (i + 1) = r.take (i + 1) := by
  rw [List.take_add_one, List.take_add_one, hx, hy, h, e]
theorem ne_of_get {α : Type _} {l r : List α} {i : Nat} {x y : α} (hx : l[i]? = some x) (hy : r[i]? = some y) (h : ¬ x = y) : l ≠ r := fun e => h (by subst e; rw [hx] at hy; exact Option.some.inj hy)
theorem set_take {α : Type _} {l : List α} {i : Nat} {x z : α} (h : l[i]? = some x) : setAt (l.take i ++ List.replicate (l.length - i) z) i x = l.take (i + 1) ++ List.replicate (l.length - (i + 1)) z := by
  have hi := lt_of_get h
  have e : l.length - i = (l.length - (i + 1)) + 1 := by omega
  rw [setAt, e, List.replicate_succ, List.set_append_right _ _ (by simp; omega)]
  have : i - (l.take i).length = 0 := by simp; omega
  rw [this, List.set_cons_zero, List.take_add_one, h]
  simp
def szF (k : Nat) (n : Int) : Int := if n - k < 0 then -1 else n - k
theorem szF_rng {k : Nat} {n : Int} (hn : 0 ≤ n) : -1 ≤ szF k n ∧ szF k n ≤ n := by unfold szF; split <;> omega
theorem szF_le {k : Nat} {n : Int} (h : 0 ≤ szF k n) : (k : Int) ≤ n := by unfold szF at h; split at h <;> omega
def szL {α : Type} (f : α → Int → Int) : List α → Int → Int
  | [], n => n
  | x :: r, n => if f x n < 0 then -1 else szL f r (f x n)
theorem szL_rng {α : Type} {f : α → Int → Int} (hf : ∀ x n, 0 ≤ n → -1 ≤ f x n ∧ f x n ≤ n) : ∀ (l : List α) {n : Int}, 0 ≤ n → -1 ≤ szL f l n ∧ szL f l n ≤ n
  | [], n, h => by simp only [szL]; omega
  | x :: r, n, h => by
    rw [szL]
    have := hf x n h
    split
    · omega
    · have := szL_rng hf r (n := f x n) (by omega)
      omega
theorem drop_get {α : Type _} {l : List α} {i : Nat} {x : α} (h : l[i]? = some x) : l.drop i = x :: l.drop (i + 1) := by
  obtain ⟨hi, rfl⟩ := List.getElem?_eq_some_iff.1 h
  exact List.drop_eq_getElem_cons hi

def bIntS (x : List Int) : Prop := x.length * 8 ≤ 140737488351232

theorem w_laws_toIntS (x : List Int) (hb : bIntS x) : Fn Pr n_laws_toIntS [.sl 1 (encI .i64) (fun _ => x)] (.sl 1 (encI .i64) (fun _ => x)) := by
  refine k_laws_toIntS.fn (by kernel_rfl) ?_
  have h0 : x.length * 8 ≤ 140737488351232 := hb
  conv => arg 4; cbv
  refine Sat.need (by (try dsimp only); exact arA) ?_
  conv => arg 4; cbv
  refine Sat.typ (encI .i64) 0 (by (repeat' (first | exact tnil | refine tcons ?_ ?_ | exact .same _ | exact .int rfl | exact .str rfl | exact .sl rfl | exact .nil rfl | (refine .sl ?_; simp; done))); (first | done | fail)) ?_
  conv => arg 4; cbv
  refine Sat.loopP (ι := Nat) (fun i => [(4, .int .i64 (fun _ => (i : Int)))]) (fun i => [(48, .row 1 (encI .i64) (fun _ => x.take i ++ List.replicate (x.length - i) 0) false)]) (fun i => i ≤ x.length) (fun i => x.length - i) 0 ?_ (by omega) (fun i hi => ?_)
  · refine les_of ?_ ?_ rfl
    iterate 2 (focus repeat' (first | exact trivial | refine And.intro ?_ ?_ | exact levA | refine lev_cons ?_ ?_ | refine LeV.agg rfl ?_ | exact Nat.le_of_ble_eq_true rfl | exact Or.inl ⟨_, rfl, .row rfl⟩ | refine Or.inl ⟨_, rfl, .row ?_⟩ | refine Or.inl ⟨_, rfl, .lit rfl ?_⟩ | exact Or.inr ⟨rfl, rfl⟩ | (simp; done)))
  conv => arg 4; cbv
  repeat' first
    | (refine Sat.cmp (fun h => ?_) (fun h => ?_) <;> simp only [Cmp.holds] at h <;> (conv => arg 4; cbv))
    | (refine Sat.need ndA ?_; conv => arg 4; cbv)
    | (refine Sat.idxk (by assumption) ?_; conv => arg 4; cbv) | (refine Sat.idx ndA (fun v_ hv_ => ?_); conv => arg 4; cbv)
    | (refine Sat.ari64 ndA ndA ?_; conv => arg 4; cbv)
    | (refine Sat.pop ?_; conv => arg 4; cbv)
    | (refine Sat.typed _ (by (repeat' (first | exact tnil | refine tcons ?_ ?_ | exact .same _ | exact .int rfl | exact .str rfl | exact .sl rfl | exact .nil rfl | (refine .sl ?_; simp; done))); (first | done | fail)) ?_; conv => arg 4; cbv)
    | refine Sat.next (i + 1) ?_ (by exact arA) (by exact arA)
    | refine Sat.done ?_
  · refine les_of ?_ ?_ rfl
    iterate 2 (focus repeat' (first | exact trivial | refine And.intro ?_ ?_ | exact levA | refine lev_cons ?_ ?_ | refine LeV.agg rfl ?_ | exact Nat.le_of_ble_eq_true rfl | exact Or.inl ⟨_, rfl, .row rfl⟩ | refine Or.inl ⟨_, rfl, .row ?_⟩ | refine Or.inl ⟨_, rfl, .lit rfl ?_⟩ | exact Or.inr ⟨rfl, rfl⟩ | (simp only [Int.toNat_natCast, Nat.zero_add]; exact set_take (by assumption))))
  · refine .sl ?_
    have e : i = x.length := by exact arA
    subst e
    simp

theorem w_laws_eqIntS (x y : List Int) (hb : bIntS x) : Fn Pr n_laws_eqIntS [.sl 1 (encI .i64) (fun _ => x), .sl 1 (encI .i64) (fun _ => y)] (.bo (decide (x = y))) := by
  refine k_laws_eqIntS.fn (by kernel_rfl) ?_
  have h0 : x.length * 8 ≤ 140737488351232 := hb
  conv => arg 4; cbv
  refine Sat.cmp (fun hl => ?_) (fun hl => ?_) <;> simp only [Cmp.holds] at hl <;> (conv => arg 4; cbv)
  · refine Sat.loopP (ι := Nat) (fun i => [(5, .int .i64 (fun _ => (i : Int)))]) (fun i => []) (fun i => i ≤ x.length ∧ x.take i = y.take i) (fun i => x.length - i) 0 ?_ ⟨by omega, by simp⟩ (fun i hi => ?_)
    · exact lesA
    conv => arg 4; cbv
    repeat' first
      | (refine Sat.cmp (fun h => ?_) (fun h => ?_) <;> simp only [Cmp.holds] at h <;> (conv => arg 4; cbv))
      | (refine Sat.need ndA ?_; conv => arg 4; cbv)
      | (refine Sat.idxk (by assumption) ?_; conv => arg 4; cbv) | (refine Sat.idx ndA (fun v_ hv_ => ?_); conv => arg 4; cbv)
      | (refine Sat.ari64 ndA ndA ?_; conv => arg 4; cbv)
      | (refine Sat.pop ?_; conv => arg 4; cbv)
      | refine Sat.next (i + 1) ?_ ?_ (by (try dsimp only); exact arA)
      | refine Sat.done (led_bo (Eq.symm (decide_eq_false (ne_of_get (by assumption) (by assumption) (fun e => by subst e; first | contradiction | (simp_all; done))))))
      | refine Sat.done ?_
    · exact lesA
    · exact ⟨by exact arA, take_ext (by assumption) (by assumption) hi.2 (by assumption)⟩
    · refine led_bo ?_
      have e1 : i = x.length := by exact arA
      have e2 : x.length = y.length := by exact arA
      have := hi.2
      rw [e1, List.take_length, e2, List.take_length] at this
      simp [this]
  · refine Sat.done (led_bo ?_)
    have : x ≠ y := fun e => hl (by rw [e])
    simp [this]

/-- The place of the first that holds; -1 where none does. -/
def idxF {α : Type} (p : α → Bool) : List α → Int
  | [] => -1
  | x :: r => if p x = true then 0 else if idxF p r < 0 then -1 else idxF p r + 1
theorem idxF_any {α : Type} {p : α → Bool} : ∀ {l : List α}, (0 ≤ idxF p l ↔ l.any p = true) ∧ -1 ≤ idxF p l
  | [] => by simp [idxF]
  | x :: r => by
    have := idxF_any (p := p) (l := r)
    rw [idxF, List.any_cons]
    by_cases h : p x = true
    · simp [h]
    · rw [if_neg h]
      simp only [Bool.not_eq_true] at h
      rw [h, Bool.false_or, ← this.1]
      split <;> omega
theorem idxF_step {α : Type} {p : α → Bool} {l : List α} {i : Nat} {x : α} (hx : l[i]? = some x) {k : Int} (h : k = if idxF p (l.drop i) < 0 then -1 else idxF p (l.drop i) + i) (hp : p x = false) : k = if idxF p (l.drop (i + 1)) < 0 then -1 else idxF p (l.drop (i + 1)) + (i + 1 : Nat) := by
  simp only [drop_get hx, idxF, hp, Bool.false_eq_true, if_false] at h
  rw [h]
  have := (idxF_any (p := p) (l := l.drop (i + 1))).2
  split <;> split <;> omega
theorem idxF_hit {α : Type} {p : α → Bool} {l : List α} {i : Nat} {x : α} (hx : l[i]? = some x) {k : Int} (h : k = if idxF p (l.drop i) < 0 then -1 else idxF p (l.drop i) + i) (hp : p x = true) : (i : Int) = k := by
  rw [drop_get hx, idxF, if_pos hp] at h
  rw [h]
  simp

def genL {α : Type} (f : Nat → α) (n : Nat) : List α := (List.range n).map f
@[simp] theorem genL_length {α : Type} {f : Nat → α} {n : Nat} : (genL f n).length = n := by simp [genL]
theorem gen_get {α : Type} {f : Nat → α} {n i : Nat} (h : i < n) : (genL f n)[i]? = some (f i) := by simp [genL, h]
theorem set_self {α : Type} {l : List α} {i : Nat} {z : α} (h : i < l.length) : (setAt l i z)[i]? = some z := by simp [setAt, h]
theorem gen_set {α : Type} {f : Nat → α} {l : List α} {i : Nat} (h : i < l.length) : setAt (genL f i ++ l.drop i) i (f i) = genL f (i + 1) ++ l.drop (i + 1) := by
  rw [setAt, List.set_append_right _ _ (by simp)]
  simp only [genL_length, Nat.sub_self]
  rw [List.drop_eq_getElem_cons h, List.set_cons_zero]
  simp [genL, List.range_succ]
theorem held_k {c : Prop} [Decidable c] {a : Int} (h : ¬ (if c then a else -1) < 0) : (if c then a else -1) = a := by
  by_cases e : c
  · rw [if_pos e]
  · rw [if_neg e] at h; omega
theorem Sat.typedG {P : Program} {Q : AV → Prop} {As : List (St → Prop)} {α : Type} {sz : Nat} {enc : α → Nat → AV} {cells : List AV} {c : α → Tree} (z0 : α) (h : ∀ (j : Nat) (x : AV), cells[j]? = some x → LeD x (enc z0 j)) (hc : ∀ z, z = z0 → Sat P Q As (c z)) : Sat P Q As (.typed sz enc cells c) := .typed z0 h (hc z0 rfl)
theorem set_set {α : Type} {l : List α} {i : Nat} {a b : α} : setAt (setAt l i a) i b = setAt l i b := by simp [setAt]

theorem flat_encI (k : IntKind) (y : Int) (j : Nat) (hj : j < 1) : flat (encI k y j) = true := rfl

/-- x is put behind all that are not greater. -/
def oins (x : Int) : List Int → List Int
  | [] => [x]
  | y :: r => if x < y then x :: y :: r else y :: oins x r
def isort (l : List Int) : List Int := l.foldl (fun p x => oins x p) []
def Asc (l : List Int) : Prop := l.Pairwise (· ≤ ·)
theorem oins_len {x : Int} : ∀ {l : List Int}, (oins x l).length = l.length + 1
  | [] => rfl
  | y :: r => by
    rw [oins]
    split
    · rfl
    · simp [oins_len (x := x) (l := r)]
theorem isort_snoc {l : List Int} {x : Int} : isort (l ++ [x]) = oins x (isort l) := by simp [isort]
theorem fold_len : ∀ {l p : List Int}, (l.foldl (fun p x => oins x p) p).length = p.length + l.length
  | [], p => by simp
  | x :: r, p => by
    rw [List.foldl_cons, fold_len (l := r), oins_len, List.length_cons]
    omega
theorem isort_len {l : List Int} : (isort l).length = l.length := by rw [isort, fold_len]; simp
theorem oins_mem {x y : Int} : ∀ {l : List Int}, y ∈ oins x l ↔ y = x ∨ y ∈ l
  | [] => by simp [oins]
  | z :: r => by
    rw [oins]
    split
    · simp
    · rw [List.mem_cons, oins_mem (l := r), List.mem_cons]
      constructor
      · rintro (h | h | h)
        · exact .inr (.inl h)
        · exact .inl h
        · exact .inr (.inr h)
      · rintro (h | h | h)
        · exact .inr (.inl h)
        · exact .inl h
        · exact .inr (.inr h)
theorem oins_asc {x : Int} : ∀ {l : List Int}, Asc l → Asc (oins x l)
  | [], _ => by simp [oins, Asc]
  | y :: r, h => by
    obtain ⟨h1, h2⟩ := List.pairwise_cons.1 h
    rw [oins]
    split
    · rename_i hlt
      refine List.pairwise_cons.2 ⟨fun z hz => ?_, h⟩
      rcases List.mem_cons.1 hz with rfl | hz
      · omega
      · have := h1 z hz; omega
    · rename_i hlt
      refine List.pairwise_cons.2 ⟨fun z hz => ?_, oins_asc h2⟩
      rcases oins_mem.1 hz with rfl | hz
      · omega
      · exact h1 z hz
theorem fold_asc : ∀ {l p : List Int}, Asc p → Asc (l.foldl (fun p x => oins x p) p)
  | [], p, h => h
  | x :: r, p, h => fold_asc (l := r) (oins_asc h)
theorem isort_asc (l : List Int) : Asc (isort l) := fold_asc List.Pairwise.nil
theorem fold_mem {y : Int} : ∀ {l p : List Int}, y ∈ l.foldl (fun p x => oins x p) p ↔ y ∈ p ∨ y ∈ l
  | [], p => by simp
  | x :: r, p => by
    rw [List.foldl_cons, fold_mem (l := r), oins_mem, List.mem_cons]
    constructor
    · rintro ((h | h) | h)
      · exact .inr (.inl h)
      · exact .inl h
      · exact .inr (.inr h)
    · rintro (h | h | h)
      · exact .inl (.inr h)
      · exact .inl (.inl h)
      · exact .inr h
theorem isort_mem {y : Int} {l : List Int} : y ∈ isort l ↔ y ∈ l := by rw [isort, fold_mem]; simp
theorem oins_at {x : Int} : ∀ {p q : List Int}, (∀ y ∈ p, y ≤ x) → (∀ y ∈ q, x < y) → oins x (p ++ q) = p ++ x :: q
  | [], [], _, _ => rfl
  | [], y :: q, _, h => by
    have := h y (List.mem_cons_self ..)
    rw [List.nil_append, oins, if_pos this, List.nil_append]
  | z :: p, q, h1, h2 => by
    have := h1 z (List.mem_cons_self ..)
    rw [List.cons_append, oins, if_neg (by omega), oins_at (fun y hy => h1 y (List.mem_cons_of_mem _ hy)) h2, List.cons_append]

theorem get_at {α : Type _} {p q : List α} {x : α} {k : Nat} (h : k = p.length) : (p ++ x :: q)[k]? = some x := by subst h; simp
theorem set_at {α : Type} {p q : List α} {x z : α} {k : Nat} (h : k = p.length) : setAt (p ++ x :: q) k z = p ++ z :: q := by subst h; simp [setAt]
theorem snoc_or {α : Type _} (l : List α) : l = [] ∨ ∃ L b, l = L ++ [b] := by
  rcases List.eq_nil_or_concat l with h | ⟨L, b, h⟩
  · exact .inl h
  · exact .inr ⟨L, b, by rw [h, List.concat_eq_append]⟩
theorem get_at2 {α : Type _} {p t : List α} {y : α} {k : Nat} (h : k = p.length) : ((p ++ [y]) ++ t)[k]? = some y := by subst h; simp
theorem set_at2 {α : Type} {p t : List α} {y z : α} {k : Nat} (h : k = p.length) : setAt ((p ++ [y]) ++ t) k z = (p ++ [z]) ++ t := by subst h; simp [setAt]

theorem w_slices_Index_intint (l : List Int) (v : Int) (hb : bIntS l) : Fn Pr n_slices_Index_intint [.sl 1 (encI .i64) (fun _ => l), .int .i64 (fun _ => v)] (.int .i64 (fun _ => idxF (fun x => decide (v = x)) l)) := by
  refine k_slices_Index_intint.fn (by kernel_rfl) ?_
  have h0 : l.length * 8 ≤ 140737488351232 := hb
  conv => arg 4; cbv
  refine Sat.loopP (ι := Nat) (fun i => [(8, .int .i64 (fun _ => (i : Int)))]) (fun i => []) (fun i => i ≤ l.length ∧ idxF (fun x => decide (v = x)) l = if idxF (fun x => decide (v = x)) (l.drop i) < 0 then -1 else idxF (fun x => decide (v = x)) (l.drop i) + i) (fun i => l.length - i) 0 ?_ ⟨by omega, by have := (idxF_any (p := fun x => decide (v = x)) (l := l)).2; simp; omega⟩ (fun i hi => ?_)
  · exact lesA
  conv => arg 4; cbv
  repeat' first
    | (refine Sat.cmp (fun h => ?_) (fun h => ?_) <;> simp only [Cmp.holds] at h <;> (conv => arg 4; cbv))
    | (refine Sat.need ndA ?_; conv => arg 4; cbv)
    | (refine Sat.idxk (by assumption) ?_; conv => arg 4; cbv) | (refine Sat.idx ndA (fun v_ hv_ => ?_); conv => arg 4; cbv)
    | (refine Sat.ari64 ndA ndA ?_; conv => arg 4; cbv)
    | (refine Sat.pop ?_; conv => arg 4; cbv)
    | refine Sat.next (i + 1) ?_ ?_ (by (try dsimp only); exact arA)
    | refine Sat.done ?_
  · refine .int ?_
    exact idxF_hit (by assumption) hi.2 (decide_eq_true h)
  · exact lesA
  · exact ⟨by exact arA, idxF_step (by assumption) hi.2 (decide_eq_false h)⟩
  · refine .int ?_
    have e1 : i = l.length := by exact arA
    rw [hi.2, e1, List.drop_length, idxF]
    simp

theorem any_mem {v : Int} {l : List Int} : l.any (fun x => decide (v = x)) = decide (v ∈ l) := by
  rw [Bool.eq_iff_iff, List.any_eq_true, decide_eq_true_eq]
  constructor
  · rintro ⟨x, h1, h2⟩; simp at h2; subst h2; exact h1
  · exact fun h => ⟨v, h, by simp⟩
theorem w_slices_Contains_intint (l : List Int) (v : Int) (hb : bIntS l) : Fn Pr n_slices_Contains_intint [.sl 1 (encI .i64) (fun _ => l), .int .i64 (fun _ => v)] (.bo (decide (v ∈ l))) := by
  refine k_slices_Contains_intint.fn (by kernel_rfl) ?_
  conv => arg 4; cbv
  repeat' first
    | (refine Sat.cmp (fun h => ?_) (fun h => ?_) <;> simp only [Cmp.holds] at h <;> (conv => arg 4; cbv))
    | (refine Sat.call (w_slices_Index_intint l v hb) rfl ledA ?_; conv => arg 4; cbv)
    | (refine Sat.need ndA ?_; conv => arg 4; cbv)
    | (refine Sat.idxk (by assumption) ?_; conv => arg 4; cbv) | (refine Sat.idx ndA (fun v_ hv_ => ?_); conv => arg 4; cbv)
    | (refine Sat.ari64 ndA ndA ?_; conv => arg 4; cbv)
    | (refine Sat.pop ?_; conv => arg 4; cbv)
    | refine Sat.done ?_
  all_goals refine led_bo ?_
  all_goals have q := (idxF_any (p := fun x => decide (v = x)) (l := l)).1
  all_goals rw [any_mem, decide_eq_true_eq] at q
  · exact (decide_eq_true (q.1 h)).symm
  · exact (decide_eq_false (fun e => h (q.2 e))).symm

theorem w_impl_HasServer (l : List Int) (v : Int) (hb : bIntS l) : Fn Pr n_impl_HasServer [.sl 1 (encI .i64) (fun _ => l), .int .i64 (fun _ => v)] (.bo (decide (v ∈ l))) := by
  refine k_impl_HasServer.fn (by kernel_rfl) ?_
  conv => arg 4; cbv
  repeat' first
    | (refine Sat.cmp (fun h => ?_) (fun h => ?_) <;> simp only [Cmp.holds] at h <;> (conv => arg 4; cbv))
    | (refine Sat.callb (w_slices_Contains_intint l v hb) rfl ledA (fun h => ?_) (fun h => ?_) <;> (try simp only [decide_eq_true_eq, decide_eq_false_iff_not] at h) <;> (conv => arg 4; cbv))
    | (refine Sat.need ndA ?_; conv => arg 4; cbv)
    | (refine Sat.idxk (by assumption) ?_; conv => arg 4; cbv) | (refine Sat.idx ndA (fun v_ hv_ => ?_); conv => arg 4; cbv)
    | (refine Sat.ari64 ndA ndA ?_; conv => arg 4; cbv)
    | (refine Sat.pop ?_; conv => arg 4; cbv)
    | refine Sat.done ?_
  all_goals refine led_bo ?_
  all_goals simp_all

theorem w_spec_HasServer (l : List Int) (v : Int) (hb : bIntS l) : Fn Pr n_spec_HasServer [.sl 1 (encI .i64) (fun _ => l), .int .i64 (fun _ => v)] (.bo (decide (v ∈ l))) := by
  refine k_spec_HasServer.fn (by kernel_rfl) ?_
  have h0 : l.length * 8 ≤ 140737488351232 := hb
  conv => arg 4; cbv
  refine Sat.loopP (ι := Nat) (fun i => [(5, .int .i64 (fun _ => (i : Int)))]) (fun i => []) (fun i => i ≤ l.length ∧ (v ∈ l ↔ v ∈ l.drop i)) (fun i => l.length - i) 0 ?_ ⟨by omega, by simp⟩ (fun i hi => ?_)
  · exact lesA
  conv => arg 4; cbv
  repeat' first
    | (refine Sat.cmp (fun h => ?_) (fun h => ?_) <;> simp only [Cmp.holds] at h <;> (conv => arg 4; cbv))
    | (refine Sat.need ndA ?_; conv => arg 4; cbv)
    | (refine Sat.idxk (by assumption) ?_; conv => arg 4; cbv) | (refine Sat.idx ndA (fun v_ hv_ => ?_); conv => arg 4; cbv)
    | (refine Sat.ari64 ndA ndA ?_; conv => arg 4; cbv)
    | (refine Sat.pop ?_; conv => arg 4; cbv)
    | refine Sat.next (i + 1) ?_ ?_ (by (try dsimp only); exact arA)
    | refine Sat.done ?_
  · refine led_bo (decide_eq_true ?_).symm
    rw [hi.2, drop_get (i := i) hv_, h]
    exact List.mem_cons_self ..
  · exact lesA
  · refine ⟨by exact arA, ?_⟩
    rw [hi.2, drop_get (i := i) hv_, List.mem_cons]
    exact ⟨fun q => q.elim (fun e => absurd e.symm h) id, .inr⟩
  · refine led_bo (decide_eq_false ?_).symm
    have e1 : i = l.length := by exact arA
    rw [hi.2, e1, List.drop_length]
    simp

/-- Each run of equal numbers once. -/
def ddf (p : List Int) (x : Int) : List Int := if p.getLast? = some x then p else p ++ [x]
def dd (l : List Int) : List Int := l.foldl ddf []
theorem dd_snoc {l : List Int} {x : Int} : dd (l ++ [x]) = if (dd l).getLast? = some x then dd l else dd l ++ [x] := by rw [dd, List.foldl_append]; rfl
theorem snoc_ind {α : Type} {p : List α → Prop} (h0 : p []) (h1 : ∀ l x, p l → p (l ++ [x])) (l : List α) : p l := by
  have key : ∀ n (l : List α), l.length = n → p l := by
    intro n
    induction n with
    | zero => intro l hl; rw [List.eq_nil_of_length_eq_zero hl]; exact h0
    | succ n ih =>
      intro l hl
      rcases List.eq_nil_or_concat l with rfl | ⟨L, b, rfl⟩
      · simp at hl
      · rw [List.concat_eq_append] at hl ⊢
        exact h1 L b (ih L (by simpa using hl))
  exact key _ l rfl
theorem dd_last (l : List Int) : (dd l).getLast? = l.getLast? := by
  refine snoc_ind (p := fun l => (dd l).getLast? = l.getLast?) rfl (fun l x h => ?_) l
  rw [dd_snoc]
  split
  · rename_i e; rw [e]; simp
  · simp
theorem dd_len (l : List Int) : (dd l).length ≤ l.length := by
  refine snoc_ind (p := fun l => (dd l).length ≤ l.length) (by simp [dd]) (fun l x h => ?_) l
  rw [dd_snoc]
  split <;> simp <;> omega
theorem dd_mem {y : Int} (l : List Int) : y ∈ dd l ↔ y ∈ l := by
  refine snoc_ind (p := fun l => y ∈ dd l ↔ y ∈ l) (by simp [dd]) (fun l x h => ?_) l
  rw [dd_snoc]
  split
  · rename_i e
    rw [List.mem_append, h, List.mem_singleton]
    exact ⟨.inl, fun q => q.elim id (fun q => by subst q; exact h.1 (List.mem_of_getLast? e))⟩
  · rw [List.mem_append, List.mem_append, h]
def SAsc (l : List Int) : Prop := l.Pairwise (· < ·)
theorem dd_strict (l : List Int) : Asc l → SAsc (dd l) := by
  refine snoc_ind (p := fun l => Asc l → SAsc (dd l)) (fun _ => by simp [dd, SAsc]) (fun l x h ha => ?_) l
  rw [Asc, List.pairwise_append] at ha
  rw [dd_snoc]
  split
  · exact h ha.1
  · rename_i e
    rw [SAsc, List.pairwise_append]
    refine ⟨h ha.1, by simp, fun y hy z hz => ?_⟩
    rw [List.mem_singleton] at hz
    subst hz
    have h1 := ha.2.2 y ((dd_mem l).1 hy) z (by simp)
    rcases Int.lt_or_eq_of_le h1 with h1 | h1
    · exact h1
    · exfalso
      subst h1
      -- the last is the greatest
      have hs := h ha.1
      rcases List.eq_nil_or_concat (dd l) with e2 | ⟨L, b, e2⟩
      · rw [e2] at hy; cases hy
      · rw [List.concat_eq_append] at e2
        rw [e2] at e hs hy
        rw [SAsc, List.pairwise_append] at hs
        have hbz : b ≤ y := ha.2.2 b ((dd_mem l).1 (by rw [e2]; simp)) y (by simp)
        rcases List.mem_append.1 hy with hy | hy
        · have := hs.2.2 y hy b (by simp); omega
        · simp at hy; subst hy; simp at e
/-- Two strictly ascending lists of the same numbers are the same. -/
theorem sasc_eq : ∀ {a b : List Int}, SAsc a → SAsc b → (∀ y, y ∈ a ↔ y ∈ b) → a = b
  | [], [], _, _, _ => rfl
  | [], y :: b, _, _, h => by have := (h y).2 (List.mem_cons_self ..); cases this
  | x :: a, [], _, _, h => by have := (h x).1 (List.mem_cons_self ..); cases this
  | x :: a, y :: b, ha, hb, h => by
    obtain ⟨ha1, ha2⟩ := List.pairwise_cons.1 ha
    obtain ⟨hb1, hb2⟩ := List.pairwise_cons.1 hb
    have hx := (h x).1 (List.mem_cons_self ..)
    have hy := (h y).2 (List.mem_cons_self ..)
    have e : x = y := by
      rcases List.mem_cons.1 hx with e | hx
      · exact e
      · rcases List.mem_cons.1 hy with e | hy
        · exact e.symm
        · have := ha1 y hy; have := hb1 x hx; omega
    subst e
    rw [sasc_eq ha2 hb2 (fun z => ?_)]
    have hz := h z
    rw [List.mem_cons, List.mem_cons] at hz
    constructor
    · intro q
      have := ha1 z q
      rcases hz.1 (.inr q) with e | e
      · omega
      · exact e
    · intro q
      have := hb1 z q
      rcases hz.2 (.inr q) with e | e
      · omega
      · exact e
def ddZ (l : List Int) : List Int := dd l ++ List.replicate (l.length - (dd l).length) 0
theorem ddZ_len (l : List Int) : (ddZ l).length = l.length := by have := dd_len l; simp [ddZ]; omega
theorem take_last {l : List Int} {i : Nat} {x : Int} (h : l[i]? = some x) : (l.take (i + 1)).getLast? = some x := by
  rw [List.take_add_one, h]; simp
theorem dd_take {l : List Int} {i : Nat} {x y : Int} (hx : l[i + 1]? = some x) (hy : l[i]? = some y) : dd (l.take (i + 1 + 1)) = if x = y then dd (l.take (i + 1)) else dd (l.take (i + 1)) ++ [x] := by
  rw [List.take_add_one (i := i + 1), hx]
  show dd (l.take (i + 1) ++ [x]) = _
  rw [dd_snoc, dd_last, take_last hy]
  by_cases e : x = y
  · rw [if_pos (by rw [e]), if_pos e]
  · rw [if_neg (fun q => e (Option.some.inj q).symm), if_neg e]
theorem set_run {D M t : List Int} {z x : Int} {k : Nat} (h : k = D.length) : setAt (D ++ (M ++ z :: x :: t)) k x = D ++ x :: ((M ++ [z]).tail ++ x :: t) := by
  cases M with
  | nil => exact set_at h
  | cons a M => rw [List.cons_append, set_at h]; simp

set_option maxHeartbeats 1000000 in
theorem w_slices_Compact_intint (l : List Int) (hb : l.length ≤ 1048576) : FnM Pr n_slices_Compact_intint [.ptr 0 0] [.sl 1 (encI .i64) (fun _ => l)] (.clo 0 [.int .i64 (fun _ => 0), .int .i64 (fun _ => ((dd l).length : Int))]) [.sl 1 (encI .i64) (fun _ => ddZ l)] := by
  refine k_slices_Compact_intint.fnm (by kernel_rfl) ⟨.mk (ddZ_len l), trivial⟩ ?_
  have fin : dd l = l → LeD (.tup [.clo 0 [.int .i64 (fun _ => 0), .int .i64 (fun _ => (l.length : Int))], .sl 1 (encI .i64) (fun _ => l)]) (.tup [.clo 0 [.int .i64 (fun _ => 0), .int .i64 (fun _ => ((dd l).length : Int))], .sl 1 (encI .i64) (fun _ => ddZ l)]) := fun e => by
    have e2 : ddZ l = l := by simp [ddZ, e]
    rw [e, e2]
    exact .same _
  conv => arg 4; cbv
  refine Sat.cmp (fun h => ?_) (fun h => ?_) <;> simp only [Cmp.holds] at h <;> (conv => arg 4; cbv)
  · refine Sat.done (fin ?_)
    have : l.length < 2 := by exact arA
    match l, this with
    | [], _ => rfl
    | [x], _ => rfl
  have hl2 : 2 ≤ l.length := by exact arA
  refine Sat.loopP (ι := Nat) (fun k => [(3, .int .i64 (fun _ => (k : Int)))]) (fun k => []) (fun k => 1 ≤ k ∧ k ≤ l.length ∧ dd (l.take k) = l.take k) (fun k => l.length - k) 1 ?_ ⟨by omega, by omega, by cases l with | nil => rfl | cons a r => rfl⟩ (fun k hk => ?_)
  · exact lesA
  conv => arg 4; cbv
  obtain ⟨hk1, hk2, hk3⟩ := hk
  refine Sat.cmp (fun h => ?_) (fun h => ?_) <;> simp only [Cmp.holds] at h <;> (conv => arg 4; cbv)
  · obtain ⟨k0, rfl⟩ : ∃ k0, k = k0 + 1 := ⟨k - 1, by omega⟩
    have hkl : k0 + 1 < l.length := by exact arA
    obtain ⟨x, hx⟩ : ∃ x, l[k0 + 1]? = some x := ⟨_, List.getElem?_eq_getElem hkl⟩
    obtain ⟨y, hy⟩ : ∃ y, l[k0]? = some y := ⟨_, List.getElem?_eq_getElem (by omega)⟩
    have hdt := dd_take hx hy
    have ix : ∀ {n : Nat}, n = k0 + 1 → l[n]? = some x := fun e => e ▸ hx
    have iy : ∀ {n : Nat}, n = k0 → l[n]? = some y := fun e => e ▸ hy
    repeat' first
      | (refine Sat.cmp (fun h => ?_) (fun h => ?_) <;> simp only [Cmp.holds] at h <;> (conv => arg 4; cbv))
      | (refine Sat.need ndA ?_; conv => arg 4; cbv)
      | (refine Sat.idxk (ix (by (try dsimp only); exact arA)) ?_; conv => arg 4; cbv)
      | (refine Sat.idxk (iy (by (try dsimp only); exact arA)) ?_; conv => arg 4; cbv)
      | (refine Sat.ari64 ndA ndA ?_; conv => arg 4; cbv)
      | (refine Sat.pop ?_; conv => arg 4; cbv)
      | refine Sat.next (k0 + 1 + 1) ?_ ?_ (by (try dsimp only); exact arA)
    · subst h
      rw [if_pos rfl] at hdt
      have hd0 : dd (l.take (k0 + 1 + 1)) = l.take (k0 + 1) := hdt.trans hk3
      refine Sat.loopP (ι := Nat × List Int × Int) (fun q => [(3, .int .i64 (fun _ => ((dd (l.take q.1)).length : Int))), (5, .int .i64 (fun _ => (q.1 : Int) - (k0 + 1)))]) (fun q => [(0, .row 1 (encI .i64) (fun _ => dd (l.take q.1) ++ (q.2.1 ++ q.2.2 :: l.drop q.1)) true)]) (fun q => k0 + 2 ≤ q.1 ∧ q.1 ≤ l.length ∧ (dd (l.take q.1)).length + q.2.1.length + 1 = q.1 ∧ l[q.1 - 1]? = some q.2.2) (fun q => l.length - q.1) (k0 + 1 + 1, [], x) ?_ ⟨by (try dsimp only); omega, by (try dsimp only); omega, by rw [hd0]; simp; omega, hx⟩ (fun q hq => ?_)
      · refine les_of ?_ ?_ rfl
        iterate 2 (focus repeat' (first | exact trivial | refine And.intro ?_ ?_ | exact levA | refine lev_cons ?_ ?_ | refine LeV.agg rfl ?_ | exact Nat.le_of_ble_eq_true rfl | exact Or.inl ⟨_, rfl, .row rfl⟩ | refine Or.inl ⟨_, rfl, .row ?_⟩ | refine Or.inl ⟨_, rfl, .lit rfl ?_⟩ | exact Or.inr ⟨rfl, rfl⟩ | (first | exact .int (by (try dsimp only); first | (rw [hd0]; simp; omega) | exact arA) | (show l = dd (l.take (k0 + 1 + 1)) ++ ([] ++ x :: l.drop (k0 + 1 + 1)); rw [hd0, List.nil_append, ← drop_get hx, List.take_append_drop]))))
      obtain ⟨j, M, z⟩ := q
      obtain ⟨hj1, hj2, hj3, hj4⟩ := hq
      dsimp only at hj1 hj2 hj3 hj4
      have hld : (l.drop j).length = l.length - j := by simp
      conv => arg 4; cbv
      refine Sat.cmp (fun h => ?_) (fun h => ?_) <;> simp only [Cmp.holds] at h <;> (conv => arg 4; cbv)
      · have hjl : j < l.length := by exact arA
        obtain ⟨w, hw⟩ : ∃ w, l[j]? = some w := ⟨_, List.getElem?_eq_getElem hjl⟩
        have hdj := drop_get hw
        have hd1 := dd_take (i := j - 1) (x := w) (y := z) (by rw [show j - 1 + 1 = j by omega]; exact hw) hj4
        rw [show j - 1 + 1 = j by omega] at hd1
        have iw : ∀ {n : Nat}, n = j → (dd (l.take j) ++ (M ++ z :: l.drop j))[n]? = some w := fun e => by
          rw [hdj, show dd (l.take j) ++ (M ++ z :: w :: l.drop (j + 1)) = (dd (l.take j) ++ M ++ [z]) ++ w :: l.drop (j + 1) by simp]
          exact get_at (by simp; omega)
        have iz : ∀ {n : Nat}, n = j - 1 → (dd (l.take j) ++ (M ++ z :: l.drop j))[n]? = some z := fun e => by
          rw [← List.append_assoc]
          exact get_at (by simp; omega)
        repeat' first
          | (refine Sat.cmp (fun h => ?_) (fun h => ?_) <;> simp only [Cmp.holds] at h <;> (conv => arg 4; cbv))
          | (refine Sat.need (by (try dsimp only); simp only [ncast, List.length_append, List.length_cons, List.length_nil, List.length_drop] at *; omega) ?_; conv => arg 4; cbv)
          | (refine Sat.idxk (iw (by (try dsimp only); exact arA)) ?_; conv => arg 4; cbv)
          | (refine Sat.idxk (iz (by (try dsimp only); exact arA)) ?_; conv => arg 4; cbv)
          | (refine Sat.idx (by (try dsimp only); simp only [ncast, setAt, List.length_set, List.length_append, List.length_cons, List.length_nil, List.length_drop] at *; omega) (fun v_ hv_ => ?_); conv => arg 4; cbv)
          | (refine Sat.typed w tcA ?_; conv => arg 4; cbv)
          | (refine Sat.ari64 ndA ndA ?_; conv => arg 4; cbv)
          | (refine Sat.pop ?_; conv => arg 4; cbv)
        · have hdA : dd (l.take (j + 1)) = dd (l.take j) := by rw [hd1, if_pos h]
          refine Sat.next (j + 1, M ++ [z], w) ?_ ⟨by (try dsimp only); omega, by (try dsimp only); omega, by rw [hdA]; simp; omega, hw⟩ (by (try dsimp only); omega)
          refine les_of ?_ ?_ rfl
          iterate 2 (focus repeat' (first | exact trivial | refine And.intro ?_ ?_ | exact levA | refine lev_cons ?_ ?_ | refine LeV.agg rfl ?_ | exact Nat.le_of_ble_eq_true rfl | exact Or.inl ⟨_, rfl, .row rfl⟩ | refine Or.inl ⟨_, rfl, .row ?_⟩ | refine Or.inl ⟨_, rfl, .lit rfl ?_⟩ | exact Or.inr ⟨rfl, rfl⟩ | (first | exact .int (by (try dsimp only); rw [hdA]) | exact .int (by (try dsimp only); exact arA) | (show dd (l.take j) ++ (M ++ z :: l.drop j) = dd (l.take (j + 1)) ++ ((M ++ [z]) ++ w :: l.drop (j + 1)); rw [hdA, hdj]; simp))))
        · have hdB : dd (l.take (j + 1)) = dd (l.take j) ++ [w] := by rw [hd1, if_neg h]
          refine Sat.next (j + 1, (M ++ [z]).tail, w) ?_ ⟨by (try dsimp only); omega, by (try dsimp only); omega, by rw [hdB]; simp; omega, hw⟩ (by (try dsimp only); omega)
          refine les_of ?_ ?_ rfl
          iterate 2 (focus repeat' (first | exact trivial | refine And.intro ?_ ?_ | exact levA | refine lev_cons ?_ ?_ | refine LeV.agg rfl ?_ | exact Nat.le_of_ble_eq_true rfl | exact Or.inl ⟨_, rfl, .row rfl⟩ | refine Or.inl ⟨_, rfl, .row ?_⟩ | refine Or.inl ⟨_, rfl, .lit rfl ?_⟩ | exact Or.inr ⟨rfl, rfl⟩ | (first | exact .int (by (try dsimp only); rw [hdB]; simp; done) | exact .int (by (try dsimp only); exact arA) | (show setAt (dd (l.take j) ++ (M ++ z :: l.drop j)) _ w = dd (l.take (j + 1)) ++ ((M ++ [z]).tail ++ w :: l.drop (j + 1)); rw [hdj, set_run (by (try dsimp only); exact arA), hdB]; simp))))
      · have hjl : j = l.length := by exact arA
        subst hjl
        rw [List.take_length] at hj3
        repeat' first
          | (refine Sat.pop ?_; conv => arg 4; cbv)
          | (refine Sat.need (by (try dsimp only); simp only [ncast, List.take_length, List.length_append, List.length_cons, List.length_nil, List.length_drop] at *; omega) ?_; conv => arg 4; cbv)
          | (refine Sat.need (fun _ _ _ _ => rfl) ?_; conv => arg 4; cbv)
          | (refine Sat.typed (0 : Int) tcA ?_; conv => arg 4; cbv)
          | refine Sat.done ?_
        refine .tup rfl (led_cons (.clo rfl (led_cons (.int ?_) (led_cons (.int ?_) led_nil))) (led_cons (.sl ?_) led_nil))
        · rfl
        · (try dsimp only); rw [List.take_length]; exact arA
        · (try dsimp only)
          simp only [ncast, List.take_length, List.drop_length, Int.toNat_natCast, Nat.zero_add]
          rw [List.take_left, List.drop_eq_nil_of_le (by simp; omega), List.append_nil]
          rfl
    · exact lesA
    · refine ⟨by omega, by omega, ?_⟩
      rw [hdt, if_neg h, hk3, List.take_add_one (i := k0 + 1), hx]
      rfl
  · repeat' first
      | (refine Sat.pop ?_; conv => arg 4; cbv)
      | refine Sat.done (fin ?_)
    rw [List.take_of_length_le (by exact arA)] at hk3
    exact hk3

theorem w_slices_Clone_intint (l : List Int) (hb : bIntS l) : Fn Pr n_slices_Clone_intint [.sl 1 (encI .i64) (fun _ => l)] (.sl 1 (encI .i64) (fun _ => l)) := by
  refine k_slices_Clone_intint.fn (by kernel_rfl) ?_
  have h0 : l.length * 8 ≤ 140737488351232 := hb
  conv => arg 4; cbv
  repeat' first
    | (refine Sat.cmp (fun h => ?_) (fun h => ?_) <;> simp only [Cmp.holds] at h <;> (conv => arg 4; cbv))
    | (refine Sat.need ⟨fun y _ => flat_encI .i64 y, by exact arA⟩ ?_; conv => arg 4; cbv)
    | (refine Sat.may (fun h => ?_) ?_ <;> (conv => arg 4; cbv))
    | (refine Sat.need ndA ?_; conv => arg 4; cbv)
    | (refine Sat.idxk (by assumption) ?_; conv => arg 4; cbv) | (refine Sat.idx ndA (fun v_ hv_ => ?_); conv => arg 4; cbv)
    | (refine Sat.ari64 ndA ndA ?_; conv => arg 4; cbv)
    | (refine Sat.pop ?_; conv => arg 4; cbv)
    | refine Sat.done ?_
  all_goals first | exact .nil (by assumption) | exact .sl (by simp)

/-- Each number once, in order. -/
def asc (l : List Int) : List Int := dd (isort l)
theorem asc_mem {y : Int} {l : List Int} : y ∈ asc l ↔ y ∈ l := by rw [asc, dd_mem, isort_mem]
theorem asc_strict (l : List Int) : SAsc (asc l) := dd_strict _ (isort_asc l)
theorem asc_len (l : List Int) : (asc l).length ≤ l.length := by have := dd_len (isort l); rw [isort_len] at this; exact this
theorem asc_eq {a b : List Int} (h : ∀ y, y ∈ a ↔ y ∈ b) : asc a = asc b := sasc_eq (asc_strict a) (asc_strict b) (fun y => by rw [asc_mem, asc_mem, h])
theorem asc_of {a : List Int} (h : SAsc a) : asc a = a := sasc_eq (asc_strict a) h (fun y => asc_mem)

theorem w_slices_IndexFunc_intint (l b : List Int) (f : Nat) (p : Int → Bool) (hf : ∀ x, Fn Pr f [.int .i64 (fun _ => x), .rptr [.sl 1 (encI .i64) (fun _ => b)]] (.bo (p x))) (hb : bIntS l) : Fn Pr n_slices_IndexFunc_intint [.sl 1 (encI .i64) (fun _ => l), .clo f [.rptr [.sl 1 (encI .i64) (fun _ => b)]]] (.int .i64 (fun _ => idxF p l)) := by
  refine k_slices_IndexFunc_intint.fn (by kernel_rfl) ?_
  have h0 : l.length * 8 ≤ 140737488351232 := hb
  conv => arg 4; cbv
  refine Sat.loopP (ι := Nat) (fun i => [(8, .int .i64 (fun _ => (i : Int)))]) (fun i => []) (fun i => i ≤ l.length ∧ idxF p l = if idxF p (l.drop i) < 0 then -1 else idxF p (l.drop i) + i) (fun i => l.length - i) 0 ?_ ⟨by omega, by have := (idxF_any (p := p) (l := l)).2; simp; omega⟩ (fun i hi => ?_)
  · refine les_of ?_ ?_ rfl
    iterate 2 (focus repeat' (first | exact trivial | refine And.intro ?_ ?_ | exact levA | refine lev_cons ?_ ?_ | refine LeV.agg rfl ?_ | exact Nat.le_of_ble_eq_true rfl | exact Or.inl ⟨_, rfl, .row rfl⟩ | refine Or.inl ⟨_, rfl, .row ?_⟩ | refine Or.inl ⟨_, rfl, .lit rfl ?_⟩ | exact Or.inr ⟨rfl, rfl⟩ | (exact .clo rfl (lev_cons (.rptr _) lev_nil))))
  conv => arg 4; cbv
  repeat' first
    | (refine Sat.cmp (fun h => ?_) (fun h => ?_) <;> simp only [Cmp.holds] at h <;> (conv => arg 4; cbv))
    | (refine Sat.need ndA ?_; conv => arg 4; cbv)
    | (refine Sat.idxk (by assumption) ?_; conv => arg 4; cbv) | (refine Sat.idx ndA (fun v_ hv_ => ?_); conv => arg 4; cbv)
    | (refine Sat.callb (hf _) rfl ledA (fun h => ?_) (fun h => ?_) <;> (conv => arg 4; cbv))
    | (refine Sat.ari64 ndA ndA ?_; conv => arg 4; cbv)
    | (refine Sat.pop ?_; conv => arg 4; cbv)
    | refine Sat.next (i + 1) ?_ ?_ (by (try dsimp only); exact arA)
    | refine Sat.done ?_
  · refine .int ?_
    exact idxF_hit (by assumption) hi.2 h
  · refine les_of ?_ ?_ rfl
    iterate 2 (focus repeat' (first | exact trivial | refine And.intro ?_ ?_ | exact levA | refine lev_cons ?_ ?_ | refine LeV.agg rfl ?_ | exact Nat.le_of_ble_eq_true rfl | exact Or.inl ⟨_, rfl, .row rfl⟩ | refine Or.inl ⟨_, rfl, .row ?_⟩ | refine Or.inl ⟨_, rfl, .lit rfl ?_⟩ | exact Or.inr ⟨rfl, rfl⟩ | (exact .clo rfl (lev_cons (.rptr _) lev_nil))))
  · exact ⟨by exact arA, idxF_step (by assumption) hi.2 h⟩
  · refine .int ?_
    have e1 : i = l.length := by exact arA
    rw [hi.2, e1, List.drop_length, idxF]
    simp

theorem idxF_spec {α : Type} {p : α → Bool} : ∀ {l : List α}, (idxF p l = -1 ∧ ∀ x ∈ l, p x = false) ∨ ∃ i : Nat, ∃ a, idxF p l = i ∧ l[i]? = some a ∧ p a = true ∧ ∀ x ∈ l.take i, p x = false
  | [] => .inl ⟨rfl, by simp⟩
  | x :: r => by
    rw [idxF]
    cases hx : p x with
    | true => exact .inr ⟨0, x, by simp, rfl, hx, by simp⟩
    | false =>
      rw [if_neg (by simp)]
      rcases idxF_spec (p := p) (l := r) with ⟨h1, h2⟩ | ⟨i, a, h1, h2, h3, h4⟩
      · refine .inl ⟨by rw [h1]; simp, fun y hy => ?_⟩
        rcases List.mem_cons.1 hy with rfl | hy
        · exact hx
        · exact h2 y hy
      · refine .inr ⟨i + 1, a, by rw [h1, if_neg (by omega)]; simp, by simpa using h2, h3, fun y hy => ?_⟩
        rw [List.take_succ_cons] at hy
        rcases List.mem_cons.1 hy with rfl | hy
        · exact hx
        · exact h4 y hy
def keep (p : Int → Bool) (l : List Int) : List Int := l.filter (fun x => !p x)
def keepZ (p : Int → Bool) (l : List Int) : List Int := keep p l ++ List.replicate (l.length - (keep p l).length) 0
theorem keep_len {p : Int → Bool} {l : List Int} : (keep p l).length ≤ l.length := List.length_filter_le _ _
theorem keepZ_len {p : Int → Bool} {l : List Int} : (keepZ p l).length = l.length := by have := keep_len (p := p) (l := l); simp [keepZ]; omega
theorem keep_all {p : Int → Bool} {l : List Int} (h : ∀ x ∈ l, p x = false) : keep p l = l := by
  rw [keep, List.filter_eq_self]
  intro x hx
  rw [h x hx]; rfl
theorem keep_snoc {p : Int → Bool} {l : List Int} {j : Nat} {x : Int} (h : l[j]? = some x) : keep p (l.take (j + 1)) = if p x = true then keep p (l.take j) else keep p (l.take j) ++ [x] := by
  rw [List.take_add_one, h, keep, keep, List.filter_append]
  cases e : p x <;> simp [e]

set_option maxHeartbeats 1000000 in
theorem w_slices_DeleteFunc_intint (l b : List Int) (f : Nat) (p : Int → Bool) (hf : ∀ x, Fn Pr f [.int .i64 (fun _ => x), .rptr [.sl 1 (encI .i64) (fun _ => b)]] (.bo (p x))) (hb : l.length ≤ 1048576) : FnM Pr n_slices_DeleteFunc_intint [.ptr 0 0, .clo f [.rptr [.sl 1 (encI .i64) (fun _ => b)]]] [.sl 1 (encI .i64) (fun _ => l)] (.clo 0 [.int .i64 (fun _ => 0), .int .i64 (fun _ => ((keep p l).length : Int))]) [.sl 1 (encI .i64) (fun _ => keepZ p l)] := by
  refine k_slices_DeleteFunc_intint.fnm (by kernel_rfl) ⟨.mk keepZ_len, trivial⟩ ?_
  have h0 : bIntS l := by show l.length * 8 ≤ _; omega
  conv => arg 4; cbv
  rcases idxF_spec (p := p) (l := l) with ⟨h1, h2⟩ | ⟨i, a, h1, h2, h3, h4⟩
  · repeat' first
      | (refine Sat.call (w_slices_IndexFunc_intint l b f p hf h0) rfl ledA ?_; conv => arg 4; cbv)
      | (refine Sat.cmp (fun h => ?_) (fun h => by exfalso; simp only [Cmp.holds] at h; omega); conv => arg 4; cbv)
      | refine Sat.done ?_
    have e := keep_all h2
    have e2 : keepZ p l = l := by simp [keepZ, e]
    rw [e, e2]
    exact .same _
  have hil := lt_of_get h2
  have hk0 : keep p (l.take (i + 1)) = l.take i := by rw [keep_snoc h2, if_pos h3, keep_all h4]
  repeat' first
    | (refine Sat.call (w_slices_IndexFunc_intint l b f p hf h0) rfl ledA ?_; conv => arg 4; cbv)
    | (refine Sat.cmp (fun h => by exfalso; simp only [Cmp.holds] at h; omega) (fun h => ?_); conv => arg 4; cbv)
    | (refine Sat.ari64 ndA ndA ?_; conv => arg 4; cbv)
  refine Sat.loopP (ι := Nat × List Int) (fun q => [(5, .int .i64 (fun _ => ((keep p (l.take q.1)).length : Int))), (6, .int .i64 (fun _ => (q.1 : Int)))]) (fun q => [(0, .row 1 (encI .i64) (fun _ => keep p (l.take q.1) ++ (q.2 ++ l.drop q.1)) true)]) (fun q => q.1 ≤ l.length ∧ (keep p (l.take q.1)).length + q.2.length = q.1 ∧ q.2 ≠ []) (fun q => l.length - q.1) (i + 1, [a]) ?_ ⟨by (try dsimp only); omega, by rw [hk0]; simp; omega, by simp⟩ (fun q hq => ?_)
  · refine les_of ?_ ?_ rfl
    iterate 2 (focus repeat' (first | exact trivial | refine And.intro ?_ ?_ | exact levA | refine lev_cons ?_ ?_ | refine LeV.agg rfl ?_ | exact Nat.le_of_ble_eq_true rfl | exact Or.inl ⟨_, rfl, .row rfl⟩ | refine Or.inl ⟨_, rfl, .row ?_⟩ | refine Or.inl ⟨_, rfl, .lit rfl ?_⟩ | exact Or.inr ⟨rfl, rfl⟩ | (first | exact .clo rfl (lev_cons (.rptr _) lev_nil) | exact .int (by (try dsimp only); first | (rw [hk0, h1]; simp; omega) | exact arA) | (show l = keep p (l.take (i + 1)) ++ ([a] ++ l.drop (i + 1)); rw [hk0, List.singleton_append, ← drop_get h2, List.take_append_drop]))))
  obtain ⟨j, M⟩ := q
  obtain ⟨hj1, hj2, hj3⟩ := hq
  dsimp only at hj1 hj2 hj3
  have hld : (l.drop j).length = l.length - j := by simp
  conv => arg 4; cbv
  refine Sat.cmp (fun h => ?_) (fun h => ?_) <;> simp only [Cmp.holds] at h <;> (conv => arg 4; cbv)
  · have hjl : j < l.length := by exact arA
    obtain ⟨w, hw⟩ : ∃ w, l[j]? = some w := ⟨_, List.getElem?_eq_getElem hjl⟩
    have hdj := drop_get hw
    have hks := keep_snoc (p := p) hw
    obtain ⟨m, M', rfl⟩ : ∃ m M', M = m :: M' := by
      cases M with
      | nil => exact absurd rfl hj3
      | cons m M' => exact ⟨m, M', rfl⟩
    simp only [List.length_cons] at hj2
    have iw : ∀ {n : Nat}, n = j → (keep p (l.take j) ++ (m :: M' ++ l.drop j))[n]? = some w := fun e => by
      rw [hdj, ← List.append_assoc]
      exact get_at (by simp; omega)
    repeat' first
      | (refine Sat.need (by (try dsimp only); simp only [ncast, List.length_append, List.length_cons, List.length_nil, List.length_drop] at *; omega) ?_; conv => arg 4; cbv)
      | (refine Sat.idxk (iw (by (try dsimp only); exact arA)) ?_; conv => arg 4; cbv)
      | (refine Sat.callb (hf w) rfl ledA (fun h => ?_) (fun h => ?_) <;> (conv => arg 4; cbv))
      | (refine Sat.idx (by (try dsimp only); simp only [ncast, setAt, List.length_set, List.length_append, List.length_cons, List.length_nil, List.length_drop] at *; omega) (fun v_ hv_ => ?_); conv => arg 4; cbv)
      | (refine Sat.typed w tcA ?_; conv => arg 4; cbv)
      | (refine Sat.ari64 ndA ndA ?_; conv => arg 4; cbv)
      | (refine Sat.pop ?_; conv => arg 4; cbv)
    · rw [if_pos h] at hks
      refine Sat.next (j + 1, m :: M' ++ [w]) ?_ ⟨by (try dsimp only); omega, by rw [hks]; simp; omega, by simp⟩ (by (try dsimp only); omega)
      refine les_of ?_ ?_ rfl
      iterate 2 (focus repeat' (first | exact trivial | refine And.intro ?_ ?_ | exact levA | refine lev_cons ?_ ?_ | refine LeV.agg rfl ?_ | exact Nat.le_of_ble_eq_true rfl | exact Or.inl ⟨_, rfl, .row rfl⟩ | refine Or.inl ⟨_, rfl, .row ?_⟩ | refine Or.inl ⟨_, rfl, .lit rfl ?_⟩ | exact Or.inr ⟨rfl, rfl⟩ | (first | exact .clo rfl (lev_cons (.rptr _) lev_nil) | exact .int (by (try dsimp only); rw [hks]) | exact .int (by (try dsimp only); exact arA) | (show keep p (l.take j) ++ (m :: M' ++ l.drop j) = keep p (l.take (j + 1)) ++ ((m :: M' ++ [w]) ++ l.drop (j + 1)); rw [hks, hdj]; simp))))
    · rw [if_neg (by rw [h]; simp)] at hks
      refine Sat.next (j + 1, M' ++ [w]) ?_ ⟨by (try dsimp only); omega, by rw [hks]; simp; omega, by simp⟩ (by (try dsimp only); omega)
      refine les_of ?_ ?_ rfl
      iterate 2 (focus repeat' (first | exact trivial | refine And.intro ?_ ?_ | exact levA | refine lev_cons ?_ ?_ | refine LeV.agg rfl ?_ | exact Nat.le_of_ble_eq_true rfl | exact Or.inl ⟨_, rfl, .row rfl⟩ | refine Or.inl ⟨_, rfl, .row ?_⟩ | refine Or.inl ⟨_, rfl, .lit rfl ?_⟩ | exact Or.inr ⟨rfl, rfl⟩ | (first | exact .clo rfl (lev_cons (.rptr _) lev_nil) | exact .int (by (try dsimp only); rw [hks]; simp; done) | exact .int (by (try dsimp only); exact arA) | (show setAt (keep p (l.take j) ++ (m :: M' ++ l.drop j)) _ w = keep p (l.take (j + 1)) ++ ((M' ++ [w]) ++ l.drop (j + 1)); rw [List.cons_append, set_at (by (try dsimp only); exact arA), hks, hdj]; simp))))
  · have hjl : j = l.length := by exact arA
    subst hjl
    rw [List.take_length] at hj2
    repeat' first
      | (refine Sat.pop ?_; conv => arg 4; cbv)
      | (refine Sat.need (by (try dsimp only); simp only [ncast, List.take_length, List.length_append, List.length_cons, List.length_nil, List.length_drop] at *; omega) ?_; conv => arg 4; cbv)
      | (refine Sat.need (fun _ _ _ _ => rfl) ?_; conv => arg 4; cbv)
      | (refine Sat.typed (0 : Int) tcA ?_; conv => arg 4; cbv)
      | refine Sat.done ?_
    refine .tup rfl (led_cons (.clo rfl (led_cons (.int ?_) (led_cons (.int ?_) led_nil))) (led_cons (.sl ?_) led_nil))
    · rfl
    · (try dsimp only); rw [List.take_length]; exact arA
    · (try dsimp only)
      simp only [ncast, List.take_length, List.drop_length, Int.toNat_natCast, Nat.zero_add]
      rw [List.take_left, List.drop_eq_nil_of_le (by simp; omega), List.append_nil]
      rfl

/-- x is put in its place, once. -/
def put (x : Int) : List Int → List Int
  | [] => [x]
  | y :: r => if x < y then x :: y :: r else if x = y then y :: r else y :: put x r
theorem put_mem {x y : Int} : ∀ {l : List Int}, y ∈ put x l ↔ y = x ∨ y ∈ l
  | [] => by simp [put]
  | z :: r => by
    rw [put]
    split
    · simp
    · split
      · rename_i e; subst e; simp
      · rw [List.mem_cons, put_mem (l := r), List.mem_cons]
        constructor
        · rintro (h | h | h)
          · exact .inr (.inl h)
          · exact .inl h
          · exact .inr (.inr h)
        · rintro (h | h | h)
          · exact .inr (.inl h)
          · exact .inl h
          · exact .inr (.inr h)
theorem put_sasc {x : Int} : ∀ {l : List Int}, SAsc l → SAsc (put x l)
  | [], _ => by simp [put, SAsc]
  | y :: r, h => by
    obtain ⟨h1, h2⟩ := List.pairwise_cons.1 h
    rw [put]
    split
    · rename_i hlt
      refine List.pairwise_cons.2 ⟨fun z hz => ?_, h⟩
      rcases List.mem_cons.1 hz with rfl | hz
      · exact hlt
      · have := h1 z hz; omega
    · split
      · exact h
      · refine List.pairwise_cons.2 ⟨fun z hz => ?_, put_sasc h2⟩
        rcases put_mem.1 hz with rfl | hz
        · omega
        · exact h1 z hz
theorem put_asc {l : List Int} {x : Int} : put x (asc l) = asc (l ++ [x]) := sasc_eq (put_sasc (asc_strict l)) (asc_strict _) (fun y => by rw [put_mem, asc_mem, asc_mem, List.mem_append, List.mem_singleton]; exact Or.comm)
theorem put_at {x : Int} : ∀ {p q : List Int}, (∀ y ∈ p, y < x) → (∀ y, q.head? = some y → x < y) → put x (p ++ q) = p ++ x :: q
  | [], [], _, _ => rfl
  | [], y :: q, _, h => by rw [List.nil_append, put, if_pos (h y rfl), List.nil_append]
  | z :: p, q, h1, h2 => by
    have := h1 z (List.mem_cons_self ..)
    rw [List.cons_append, put, if_neg (by omega), if_neg (by omega), put_at (fun y hy => h1 y (List.mem_cons_of_mem _ hy)) h2, List.cons_append]
theorem put_same {x : Int} : ∀ {p q : List Int}, (∀ y ∈ p, y < x) → put x (p ++ x :: q) = p ++ x :: q
  | [], q, _ => by rw [List.nil_append, put, if_neg (by omega), if_pos rfl]
  | z :: p, q, h1 => by
    have := h1 z (List.mem_cons_self ..)
    rw [List.cons_append, put, if_neg (by omega), if_neg (by omega), put_same (fun y hy => h1 y (List.mem_cons_of_mem _ hy))]
theorem put_len {x : Int} : ∀ {l : List Int}, (put x l).length ≤ l.length + 1
  | [] => by simp [put]
  | y :: r => by
    have := put_len (x := x) (l := r)
    rw [put]
    split
    · simp
    · split
      · simp
      · simp; omega

theorem w_spec_l2Put (l : List Int) (x : Int) (hb : l.length ≤ 2000000) : Fn Pr n_spec_l2Put [.sl 1 (encI .i64) (fun _ => l), .int .i64 (fun _ => x)] (.sl 1 (encI .i64) (fun _ => put x l)) := by
  refine k_spec_l2Put.fn (by kernel_rfl) ?_
  conv => arg 4; cbv
  refine Sat.loopP (ι := Nat) (fun i => [(5, .int .i64 (fun _ => (i : Int)))]) (fun i => []) (fun i => i ≤ l.length ∧ ∀ y ∈ l.take i, y < x) (fun i => l.length - i) 0 ?_ ⟨by omega, by simp⟩ (fun i hi => ?_)
  · exact lesA
  have hdr : (l.drop i).head? = l[i]? := by simp
  have htd := List.take_append_drop i l
  have hins : (∀ y, l[i]? = some y → x < y) → put x l = l.take i ++ x :: l.drop i := fun h => by
    have := put_at (x := x) (p := l.take i) (q := l.drop i) hi.2 (fun y hy => h y (by rw [← hdr]; exact hy))
    rwa [htd] at this
  have hsame : l[i]? = some x → put x l = l := fun h => by
    have := put_same (x := x) (p := l.take i) (q := l.drop (i + 1)) hi.2
    rwa [← drop_get h, htd] at this
  conv => arg 4; cbv
  repeat' first
    | (refine Sat.cmp (fun h => ?_) (fun h => ?_) <;> simp only [Cmp.holds] at h <;> (conv => arg 4; cbv))
    | (refine Sat.need ⟨fun y _ => flat_encI .i64 y, by (try dsimp only); exact arA⟩ ?_; conv => arg 4; cbv)
    | (refine Sat.need ⟨rfl, rfl, rfl, by (try dsimp only); exact arA⟩ ?_; conv => arg 4; cbv)
    | (refine Sat.need ⟨rfl, fun y _ => flat_encI .i64 y, by (try dsimp only); exact arA⟩ ?_; conv => arg 4; cbv)
    | (refine Sat.need ndA ?_; conv => arg 4; cbv)
    | (refine Sat.idxk (by assumption) ?_; conv => arg 4; cbv) | (refine Sat.idx ndA (fun v_ hv_ => ?_); conv => arg 4; cbv)
    | (refine Sat.typed x tcA ?_; conv => arg 4; cbv)
    | (refine Sat.same ?_; conv => arg 4; cbv)
    | (refine Sat.ari64 ndA ndA ?_; conv => arg 4; cbv)
    | (refine Sat.pop ?_; conv => arg 4; cbv)
    | refine Sat.next (i + 1) ?_ ?_ (by (try dsimp only); exact arA)
    | refine Sat.done ?_
  · exact lesA
  · refine ⟨by exact arA, fun y hy => ?_⟩
    rw [List.take_add_one, show l[i]? = some v_ from hv_] at hy
    simp only [Option.toList_some, List.mem_append, List.mem_singleton] at hy
    rcases hy with hy | rfl
    · exact hi.2 y hy
    · exact h
  · refine .sl ?_
    rw [hsame (by subst h; exact hv_)]; simp
  · refine .sl ?_
    rw [hins (fun y hy => by rw [show l[i]? = some v_ from hv_] at hy; cases hy; omega)]
    simp only [List.drop_zero]
    rw [List.take_of_length_le (by simp; omega)]; simp
  all_goals first
    | (exfalso; exact arA)
    | (refine .sl ?_
       rw [hins (fun y hy => by have := lt_of_get hy; exfalso; exact arA)]
       simp only [List.drop_zero]
       rw [List.take_of_length_le (by simp; omega)]; simp; done)

def without (a b : List Int) : List Int := asc (a.filter (fun x => !decide (x ∈ b)))
def common (a b : List Int) : List Int := asc (a.filter (fun x => decide (x ∈ b)))
def unite (a b : List Int) : List Int := asc (a ++ b)
theorem without_len {a b : List Int} : (without a b).length ≤ a.length := Nat.le_trans (asc_len _) (List.length_filter_le _ _)
theorem common_len {a b : List Int} : (common a b).length ≤ a.length := Nat.le_trans (asc_len _) (List.length_filter_le _ _)
theorem unite_len {a b : List Int} : (unite a b).length ≤ a.length + b.length := by have := asc_len (a ++ b); simpa [unite] using this
theorem without_mem {a b : List Int} {x : Int} : x ∈ without a b ↔ x ∈ a ∧ x ∉ b := by simp [without, asc_mem]
theorem common_mem {a b : List Int} {x : Int} : x ∈ common a b ↔ x ∈ a ∧ x ∈ b := by simp [common, asc_mem]
theorem unite_mem {a b : List Int} {x : Int} : x ∈ unite a b ↔ x ∈ a ∨ x ∈ b := by simp [unite, asc_mem]
theorem filter_sasc {p : Int → Bool} {l : List Int} (h : SAsc l) : SAsc (l.filter p) := List.Pairwise.filter p h

set_option maxHeartbeats 1000000 in
theorem w_spec_WithoutServers (a b : List Int) (ha : a.length ≤ 2000000) (hb : bIntS b) : Fn Pr n_spec_WithoutServers [.sl 1 (encI .i64) (fun _ => a), .sl 1 (encI .i64) (fun _ => b)] (.sl 1 (encI .i64) (fun _ => without a b)) := by
  refine k_spec_WithoutServers.fn (by kernel_rfl) ?_
  have hla : ∀ i, (asc ((a.take i).filter (fun x => !decide (x ∈ b)))).length ≤ a.length := fun i => Nat.le_trans (asc_len _) (Nat.le_trans (List.length_filter_le _ _) (by simp; omega))
  conv => arg 4; cbv
  refine Sat.loopP (ι := Nat) (fun i => [(6, .int .i64 (fun _ => (i : Int))), (5, .ref 64 (fun _ => 0) (fun _ => (asc ((a.take i).filter (fun x => !decide (x ∈ b)))).length))]) (fun i => [(64, .row 1 (encI .i64) (fun _ => asc ((a.take i).filter (fun x => !decide (x ∈ b)))) false)]) (fun i => i ≤ a.length) (fun i => a.length - i) 0 ?_ (by omega) (fun i hi => ?_)
  · refine les_of ?_ ?_ rfl
    iterate 2 (focus repeat' (first | exact trivial | refine And.intro ?_ ?_ | exact levA | refine lev_cons ?_ ?_ | refine LeV.agg rfl ?_ | exact Nat.le_of_ble_eq_true rfl | exact Or.inl ⟨_, rfl, .row rfl⟩ | refine Or.inl ⟨_, rfl, .row ?_⟩ | refine Or.inl ⟨_, rfl, .lit rfl ?_⟩ | exact Or.inr ⟨rfl, rfl⟩ | (first | exact .empref (fun h => nomatch h) rfl rfl rfl | rfl)))
  have hl := hla i
  conv => arg 4; cbv
  repeat' first
    | (refine Sat.cmp (fun h => ?_) (fun h => ?_) <;> simp only [Cmp.holds] at h <;> (conv => arg 4; cbv))
    | (refine Sat.need ndA ?_; conv => arg 4; cbv)
    | (refine Sat.idxk (by assumption) ?_; conv => arg 4; cbv) | (refine Sat.idx ndA (fun v_ hv_ => ?_); conv => arg 4; cbv)
    | (refine Sat.callb (w_spec_HasServer b _ hb) rfl ledA (fun h => ?_) (fun h => ?_) <;> (try simp only [decide_eq_true_eq, decide_eq_false_iff_not] at h) <;> (conv => arg 4; cbv))
    | (refine Sat.call (w_spec_l2Put (asc ((a.take i).filter (fun x => !decide (x ∈ b)))) _ (by omega)) rfl ledA ?_; conv => arg 4; cbv)
    | (refine Sat.ari64 ndA ndA ?_; conv => arg 4; cbv)
    | (refine Sat.pop ?_; conv => arg 4; cbv)
    | refine Sat.done ?_
  · have hs : asc ((a.take (i + 1)).filter (fun x => !decide (x ∈ b))) = asc ((a.take i).filter (fun x => !decide (x ∈ b))) := by rw [List.take_add_one, show a[i]? = some v_ from hv_]; simp [h]
    refine Sat.next (i + 1) ?_ (by exact arA) (by exact arA)
    refine les_of ?_ ?_ rfl
    iterate 2 (focus repeat' (first | exact trivial | refine And.intro ?_ ?_ | exact levA | refine lev_cons ?_ ?_ | refine LeV.agg rfl ?_ | exact Nat.le_of_ble_eq_true rfl | exact Or.inl ⟨_, rfl, .row rfl⟩ | refine Or.inl ⟨_, rfl, .row ?_⟩ | refine Or.inl ⟨_, rfl, .lit rfl ?_⟩ | exact Or.inr ⟨rfl, rfl⟩ | (first | exact .ref (fun h => nomatch h) (fun h => nomatch h) rfl (by (try dsimp only); rw [hs]) | (show asc ((a.take i).filter (fun x => !decide (x ∈ b))) = asc ((a.take (i + 1)).filter (fun x => !decide (x ∈ b))); rw [hs]))))
  · have hs : asc ((a.take (i + 1)).filter (fun x => !decide (x ∈ b))) = put v_ (asc ((a.take i).filter (fun x => !decide (x ∈ b)))) := by rw [put_asc, List.take_add_one, show a[i]? = some v_ from hv_]; simp [h]
    refine Sat.nextR 321 64 (i + 1) rfl rfl rfl rfl ?_ (by exact arA) (by exact arA)
    refine les_of ?_ ?_ rfl
    iterate 2 (focus repeat' (first | exact trivial | refine And.intro ?_ ?_ | exact levA | refine lev_cons ?_ ?_ | refine LeV.agg rfl ?_ | exact Nat.le_of_ble_eq_true rfl | exact Or.inl ⟨_, rfl, .row rfl⟩ | refine Or.inl ⟨_, rfl, .row ?_⟩ | refine Or.inl ⟨_, rfl, .lit rfl ?_⟩ | exact Or.inr ⟨rfl, rfl⟩ | (first | exact .ref (fun h => nomatch h) (fun h => nomatch h) rfl (by (try dsimp only); rw [hs]) | (show put v_ (asc ((a.take i).filter (fun x => !decide (x ∈ b)))) = asc ((a.take (i + 1)).filter (fun x => !decide (x ∈ b))); rw [hs]))))
  · refine .sl ?_
    have e : i = a.length := by exact arA
    subst e
    simp [without]

theorem keep_asc {a b : List Int} : keep (fun x => decide (x ∈ b)) (asc a) = without a b := sasc_eq (filter_sasc (asc_strict a)) (asc_strict _) (fun y => by simp [keep, without, asc_mem])
theorem common_without {a b : List Int} : without a (without a b) = common a b := asc_eq (fun y => by
  by_cases h1 : y ∈ a <;> by_cases h2 : y ∈ b <;> simp [List.mem_filter, without_mem, h1, h2])

theorem w_impl_WithoutServers_c1 (b : List Int) (hb : bIntS b) (x : Int) : Fn Pr n_impl_WithoutServers_c1 [.int .i64 (fun _ => x), .rptr [.sl 1 (encI .i64) (fun _ => b)]] (.bo (decide (x ∈ b))) := by
  refine k_impl_WithoutServers_c1.fn (by kernel_rfl) ?_
  conv => arg 4; cbv
  repeat' first
    | (refine Sat.cmp (fun h => ?_) (fun h => ?_) <;> simp only [Cmp.holds] at h <;> (conv => arg 4; cbv))
    | (refine Sat.callb (w_impl_HasServer b x hb) rfl ledA (fun h => ?_) (fun h => ?_) <;> (try simp only [decide_eq_true_eq, decide_eq_false_iff_not] at h) <;> (conv => arg 4; cbv))
    | (refine Sat.need ndA ?_; conv => arg 4; cbv)
    | (refine Sat.idxk (by assumption) ?_; conv => arg 4; cbv) | (refine Sat.idx ndA (fun v_ hv_ => ?_); conv => arg 4; cbv)
    | (refine Sat.ari64 ndA ndA ?_; conv => arg 4; cbv)
    | (refine Sat.pop ?_; conv => arg 4; cbv)
    | refine Sat.done ?_
  all_goals refine led_bo ?_
  all_goals simp_all

--import Derived.Shelf.Sort.Plain
def laySortRen : Go.Shelf.Ren := ⟨fun | 189 => 18 | 125 => 22 | 257 => 21 | 128 => 33 | 129 => 34 | 294 => 24 | 295 => 25 | 296 => 26 | 297 => 27 | 298 => 28 | 299 => 29 | 216 => 30 | 300 => 31 | 301 => 32 | 328 => 35 | 329 => 36 | 330 => 37 | 331 => 38 | 332 => 39 | 215 => 40 | 343 => 41 | n => n, fun | 28 => 22 | 3 => 3 | 46 => 35 | 0 => 0 | 51 => 47 | 53 => 49 | 4 => 4 | 183 => 39 | 182 => 38 | 131 => 44 | 5 => 5 | 9 => 9 | 218 => 50 | 222 => 54 | 228 => 56 | 229 => 57 | n => n, fun | n => n⟩
theorem laySort : Go.Proofs.Lays.n189 Go.Proofs.Try.prog laySortRen := {
  mixed := by kernel_rfl
  f125 := Go.Proofs.Try.func22.trans (congrArg some (by kernel_rfl))
  f128 := Go.Proofs.Try.func33.trans (congrArg some (by kernel_rfl))
  f129 := Go.Proofs.Try.func34.trans (congrArg some (by kernel_rfl))
  f189 := Go.Proofs.Try.func18.trans (congrArg some (by kernel_rfl))
  f215 := Go.Proofs.Try.func40.trans (congrArg some (by kernel_rfl))
  f216 := Go.Proofs.Try.func30.trans (congrArg some (by kernel_rfl))
  f257 := Go.Proofs.Try.func21.trans (congrArg some (by kernel_rfl))
  f294 := Go.Proofs.Try.func24.trans (congrArg some (by kernel_rfl))
  f295 := Go.Proofs.Try.func25.trans (congrArg some (by kernel_rfl))
  f296 := Go.Proofs.Try.func26.trans (congrArg some (by kernel_rfl))
  f297 := Go.Proofs.Try.func27.trans (congrArg some (by kernel_rfl))
  f298 := Go.Proofs.Try.func28.trans (congrArg some (by kernel_rfl))
  f299 := Go.Proofs.Try.func29.trans (congrArg some (by kernel_rfl))
  f300 := Go.Proofs.Try.func31.trans (congrArg some (by kernel_rfl))
  f301 := Go.Proofs.Try.func32.trans (congrArg some (by kernel_rfl))
  f328 := Go.Proofs.Try.func35.trans (congrArg some (by kernel_rfl))
  f329 := Go.Proofs.Try.func36.trans (congrArg some (by kernel_rfl))
  f330 := Go.Proofs.Try.func37.trans (congrArg some (by kernel_rfl))
  f331 := Go.Proofs.Try.func38.trans (congrArg some (by kernel_rfl))
  f332 := Go.Proofs.Try.func39.trans (congrArg some (by kernel_rfl))
  f343 := Go.Proofs.Try.func41.trans (congrArg some (by kernel_rfl))
  t0 := Go.Proofs.Try.underlying0
  a0 := Go.Proofs.Try.isAgg0
  z0 := Go.Proofs.Try.sizeOf0
  v0 := Go.Proofs.Try.zeroValue0
  t3 := Go.Proofs.Try.underlying3
  a3 := Go.Proofs.Try.isAgg3
  z3 := Go.Proofs.Try.sizeOf3
  v3 := Go.Proofs.Try.zeroValue3
  t4 := Go.Proofs.Try.underlying4
  a4 := Go.Proofs.Try.isAgg4
  z4 := Go.Proofs.Try.sizeOf4
  v4 := Go.Proofs.Try.zeroValue4
  t5 := Go.Proofs.Try.underlying5
  a5 := Go.Proofs.Try.isAgg5
  z5 := Go.Proofs.Try.sizeOf5
  v5 := Go.Proofs.Try.zeroValue5
  t9 := Go.Proofs.Try.underlying9
  a9 := Go.Proofs.Try.isAgg9
  z9 := Go.Proofs.Try.sizeOf9
  v9 := Go.Proofs.Try.zeroValue9
  t28 := Go.Proofs.Try.underlying22
  a28 := Go.Proofs.Try.isAgg22
  z28 := Go.Proofs.Try.sizeOf22
  v28 := Go.Proofs.Try.zeroValue22
  t46 := Go.Proofs.Try.underlying35
  a46 := Go.Proofs.Try.isAgg35
  z46 := Go.Proofs.Try.sizeOf35
  v46 := Go.Proofs.Try.zeroValue35
  t51 := Go.Proofs.Try.underlying47
  a51 := Go.Proofs.Try.isAgg47
  z51 := Go.Proofs.Try.sizeOf47
  v51 := Go.Proofs.Try.zeroValue47
  t53 := Go.Proofs.Try.underlying49
  a53 := Go.Proofs.Try.isAgg49
  z53 := Go.Proofs.Try.sizeOf49
  v53 := Go.Proofs.Try.zeroValue49
  t131 := Go.Proofs.Try.underlying44
  a131 := Go.Proofs.Try.isAgg44
  z131 := Go.Proofs.Try.sizeOf44
  v131 := Go.Proofs.Try.zeroValue44
  t182 := Go.Proofs.Try.underlying38
  a182 := Go.Proofs.Try.isAgg38
  z182 := Go.Proofs.Try.sizeOf38
  v182 := Go.Proofs.Try.zeroValue38
  t183 := Go.Proofs.Try.underlying39
  a183 := Go.Proofs.Try.isAgg39
  z183 := Go.Proofs.Try.sizeOf39
  v183 := Go.Proofs.Try.zeroValue39
  t218 := Go.Proofs.Try.underlying50
  a218 := Go.Proofs.Try.isAgg50
  z218 := Go.Proofs.Try.sizeOf50
  v218 := Go.Proofs.Try.zeroValue50
  t222 := Go.Proofs.Try.underlying54
  a222 := Go.Proofs.Try.isAgg54
  z222 := Go.Proofs.Try.sizeOf54
  v222 := Go.Proofs.Try.zeroValue54
  t228 := Go.Proofs.Try.underlying56
  a228 := Go.Proofs.Try.isAgg56
  z228 := Go.Proofs.Try.sizeOf56
  v228 := Go.Proofs.Try.zeroValue56
  t229 := Go.Proofs.Try.underlying57
  a229 := Go.Proofs.Try.isAgg57
  z229 := Go.Proofs.Try.sizeOf57
  v229 := Go.Proofs.Try.zeroValue57 }

--import Derived.Shelf.Sort.Plain
--import Derived.Shelf.Slices.In.SortNone
theorem oins_perm {x : Int} : ∀ {l : List Int}, (oins x l).Perm (x :: l)
  | [] => List.Perm.refl _
  | y :: r => by
    rw [oins]
    split
    · exact List.Perm.refl _
    · exact (List.Perm.cons y oins_perm).trans (List.Perm.swap x y r)
theorem fold_perm : ∀ {l p : List Int}, (l.foldl (fun p x => oins x p) p).Perm (p ++ l)
  | [], p => by simp
  | x :: l, p => by
    rw [List.foldl_cons]
    refine (fold_perm (l := l) (p := oins x p)).trans ?_
    refine (List.Perm.append_right l oins_perm).trans ?_
    rw [List.cons_append]
    exact List.perm_middle.symm
theorem isort_merge (l : List Int) : (l.mergeSort fun x y => decide (x ≤ y)) = isort l := by
  have h1 : (l.mergeSort fun x y => decide (x ≤ y)).Perm l := List.mergeSort_perm l _
  have h2 : (isort l).Perm l := fold_perm (l := l) (p := [])
  have h3 : (l.mergeSort fun x y => decide (x ≤ y)).Pairwise (fun x y => decide (x ≤ y) = true) := List.pairwise_mergeSort (fun a b c h h' => by simp only [decide_eq_true_eq] at h h' ⊢; omega) (fun a b => by simp only [Bool.or_eq_true, decide_eq_true_eq]; omega) l
  have h4 : (isort l).Pairwise (fun x y => decide (x ≤ y) = true) := (isort_asc l).imp (fun h => decide_eq_true h)
  exact List.Perm.eq_of_pairwise (fun a b _ _ h h' => by simp only [decide_eq_true_eq] at h h'; omega) h3 h4 (h1.trans h2.symm)
theorem sort_world {w : World} {g off n : Nat} {cs : Array Value} {t : TypeId} {d : Array Int} {os : Array Obj} (hg : w.heap[g]? = some (.cells cs t (0, 0))) {w' : World} (hw : w' = Go.Sort.grow (Go.Sort.putRow (Value.int .i64) (Go.Sort.ahead w n) g off d) os) :
    w'.heap[g]? = some (.cells (Go.Sort.putCells (Value.int .i64) off d cs) t (0, 0)) ∧ (∀ k, k < w.heap.size → k ≠ g → w'.heap[k]? = w.heap[k]?) ∧ w'.os = w.os ∧ w'.tape = w.tape ∧ w'.output = w.output ∧ w.heap.size ≤ w'.heap.size := by
  subst hw
  have hlt := (Array.getElem?_eq_some_iff.1 hg).1
  unfold Go.Sort.grow Go.Sort.putRow Go.Sort.mapBlock Go.Sort.ahead
  refine ⟨?_, fun k hk hne => ?_, rfl, rfl, rfl, ?_⟩
  · dsimp only
    rw [Array.getElem?_append_left (by simp; omega), Array.getElem?_modify, if_pos rfl, hg]
    rfl
  · dsimp only
    rw [Array.getElem?_append_left (by simp; omega), Array.getElem?_modify, if_neg (fun e => hne e.symm)]
  · dsimp only
    simp

--import Derived.Shelf.Sort.Plain
--import Derived.Shelf.Slices.In.SortNone
theorem w_slices_Sort_all (l : List Int) (hb : l.length ≤ 1048576) : FnM Pr n_slices_Sort_intint [.ptr 0 0] [.sl 1 (encI .i64) (fun _ => l)] (.agg [.tup []]) [.sl 1 (encI .i64) (fun _ => isort l)] := by
  obtain ⟨fn, c, H, _, hf2, hf3, hf4, _, _, _⟩ := k_slices_Sort_intint.ok
  refine ⟨⟨fn, hf2, hf3, by rw [hf4]; rfl⟩, ⟨rfl, fun i B B' hB hB' => ?_⟩, fun w vs sv fp h1 _ hsz hargs => ?_⟩
  · cases i with
    | zero => cases hB; cases hB'; exact .mk (by simp [isort_len])
    | succ i => simp at hB
  obtain ⟨hD, hnd, hcell⟩ := h1 0 _ rfl
  have ha := hargs 0 _ rfl
  have hv0 : vs.getD 0 Go.undef = sv 0 := by
    generalize vs.getD 0 Go.undef = v at ha
    cases ha with
    | deep h ho => cases h
    | lent i hi => rfl
  have hvs : vs = #[sv 0] := by
    have h1 : vs.size = 1 := hsz
    apply Array.ext_getElem?
    intro i
    cases i with
    | zero =>
      rw [Array.getD_eq_getD_getElem?, Array.getElem?_eq_getElem (by omega)] at hv0
      rw [Array.getElem?_eq_getElem (by omega)]
      simp only [Option.getD_some] at hv0
      rw [hv0]
      rfl
    | succ i => rw [Array.getElem?_eq_none (by omega), Array.getElem?_eq_none (by simp)]
  rw [hvs]
  have hlent : ∀ g, (∃ i, i < ([AV.sl 1 (encI .i64) (fun _ => l)] : List AV).length ∧ g ∈ fp i) ↔ g ∈ fp 0 := fun g => by
    constructor
    · rintro ⟨i, hi, hg⟩
      have : i = 0 := by simp at hi; omega
      subst this
      exact hg
    · exact fun hg => ⟨0, by simp, hg⟩
  have hret : ∀ w', RetRep w w' sv [AV.sl 1 (encI .i64) (fun _ => l)] (.agg [.tup []]) (.tuple #[]) := fun w' =>
    .val (fp := []) (.tup (fun _ => []) rfl (fun i x hx => by simp at hx)) List.nodup_nil (fun g hg => by cases hg)
  by_cases hl : l = []
  · have hsl : ∃ A cap, sv 0 = .slice A 0 cap := by
      generalize sv 0 = v at hD
      generalize fp 0 = f at hD
      cases hD with
      | sl0 A h => exact ⟨A, 0, rfl⟩
      | sl u F hn hg hr hu hd => exact ⟨_, _, by rw [hl]; rfl⟩
    obtain ⟨A, cap, hA⟩ := hsl
    have hi : isort l = l := by rw [hl]; rfl
    have C : Calls Go.Proofs.Try.prog n_slices_Sort_intint #[.slice A 0 cap] w (fun e w' => e = .returned (.tuple #[]) ∧ w' = w) := Go.Proofs.Any.slices_Sort_int_none laySort A cap w
    rw [← hA] at C
    refine C.mono (fun e w' h => ?_)
    obtain ⟨rfl, rfl⟩ := h
    refine ⟨_, rfl, fun i B hB => ?_, hret w', Kept.refl w' _ _ _ _ (fun g hg => hcell g ((hlent g).1 hg)), fun i g o n cap _ _ _ => Heads.refl w' g⟩
    cases i with
    | zero => cases hB; rw [hi]; exact hD
    | succ i => simp at hB
  · have hpos : 0 < l.length := List.length_pos_iff.2 hl
    obtain ⟨g, off, cap, cs, t, hsv, hfp, hn, hg, hr, hcs⟩ : ∃ g off cap cs t, sv 0 = .slice (some ⟨g, off, none⟩) l.length cap ∧ fp 0 = [g] ∧ l.length ≤ cap ∧ w.heap[g]? = some (.cells cs t (0, 0)) ∧ off + cap * 1 ≤ cs.size ∧ ∀ i x, l[i]? = some x → cs[off + i]? = some (.int .i64 x) := by
      generalize sv 0 = v at hD
      generalize fp 0 = f at hD hcell
      cases hD with
      | sl0 A h => exact absurd h hl
      | @sl _ _ _ _ g off cap cs t fr u F hn hg hr hu hd =>
        obtain ⟨cs2, t2, h2⟩ := hcell g (List.mem_cons_self ..)
        have h3 := hg.symm.trans h2
        cases h3
        have hi : ∀ i x, l[i]? = some x → u i 0 = .int .i64 x ∧ F i 0 = [] := fun i x hx => by
          have h : Deep w (.int .i64 (fun _ => x)) (u i 0) (F i 0) := hd i x hx 0 (by omega)
          generalize u i 0 = a at h
          generalize F i 0 = b at h
          cases h
          exact ⟨rfl, rfl⟩
        refine ⟨g, off, cap, cs, t, rfl, ?_, hn, hg, hr, fun i x hx => ?_⟩
        · have e : (List.range l.length).flatMap (fun i => (List.range 1).flatMap (F i)) = [] := by
            rw [List.flatMap_eq_nil_iff]
            intro i hii
            have hlt := List.mem_range.1 hii
            have e2 := (hi i l[i] (List.getElem?_eq_getElem hlt)).2
            simp [List.range_succ, e2]
          exact congrArg (List.cons g) e
        · have := hu i x hx 0 (by omega)
          rw [(hi i x hx).1] at this
          rw [← this]
          congr 1
          omega
    have hblk : g < w.heap.size := (Array.getElem?_eq_some_iff.1 hg).1
    have hH : Go.Sort.Holds (Value.int .i64) w g off l.toArray := fun j hj => by
      have hj' : j < l.length := by simpa using hj
      have h4 := hcs j l[j] (List.getElem?_eq_getElem hj')
      refine ⟨?_, ?_⟩
      · rw [cell_of hg, h4]
        congr 1
        rw [getElem!_pos _ j hj]
        simp
      · simp [World.frozen?, hg]
    have C : Calls Go.Proofs.Try.prog n_slices_Sort_intint #[.slice (some ⟨g, off, none⟩) l.length cap] w _ := Go.Proofs.Any.slices_Sort_int laySort g off cap l w hH hblk (by omega)
    rw [← hsv, isort_merge] at C
    refine C.mono (fun e w' h => ?_)
    obtain ⟨rfl, n, os, hw⟩ := h
    obtain ⟨s1, s2, s3, s4, s5, s6⟩ := sort_world hg hw
    have hsz1 : (Go.Sort.putCells (Value.int .i64) off (isort l).toArray cs).size = cs.size := by simp [Go.Sort.putCells]
    have hgm : g ∈ fp 0 := by rw [hfp]; exact List.mem_cons_self ..
    refine ⟨_, rfl, fun i B hB => ?_, hret w', ⟨s3, s4, s5, s6, fun k hk hne => s2 k hk (fun e => hne ((hlent k).2 (by rw [e]; exact hgm))), fun g' hg' => ?_⟩, fun i g' o n' cap' hi hs _ => ?_⟩
    · cases i with
      | zero =>
        cases hB
        have key := Deep.sl (w := w') (sz := 1) (enc := encI .i64) (xs := fun _ => isort l) (g := g) (off := off) (cap := cap) (cs := Go.Sort.putCells (Value.int .i64) off (isort l).toArray cs) (t := t) (fr := (0, 0)) (fun i _ => .int .i64 ((isort l).getD i 0)) (fun _ _ => []) (by (try dsimp only); rw [isort_len]; exact hn) s1 (by rw [hsz1]; exact hr) (fun i x hx j hj => by
            have hx : (isort l)[i]? = some x := hx
            have hi : i < (isort l).length := (List.getElem?_eq_some_iff.1 hx).1
            have hj0 : j = 0 := by omega
            subst hj0
            have hil : i < l.length := by rw [isort_len] at hi; exact hi
            have hlt : off + i * 1 + 0 < cs.size := by omega
            simp only [Go.Sort.putCells, Array.getElem?_mapIdx, Array.getElem?_eq_getElem hlt, Option.map_some]
            rw [if_pos ⟨by omega, by simp; omega⟩]
            have e : off + i * 1 + 0 - off = i := by omega
            rw [e, getElem!_pos _ i (by simpa using hi)]
            simp [List.getD_eq_getElem?_getD, hx, List.getElem_eq_iff hi |>.2 hx]) (fun i x hx j hj => by
            have hx : (isort l)[i]? = some x := hx
            have e : (isort l).getD i 0 = x := by rw [List.getD_eq_getElem?_getD, hx]; rfl
            rw [e]
            exact Deep.int .i64 (fun _ => x))
        have e1 : ((fun _ : Unit => isort l) ()).length = l.length := isort_len
        rw [e1] at key
        rw [hsv, hfp]
        have e2 : (List.range l.length).flatMap (fun i => (List.range 1).flatMap ((fun _ _ => ([] : List Nat)) i)) = [] := by
          rw [List.flatMap_eq_nil_iff]
          intro i _
          simp
        rw [e2] at key
        exact key
      | succ i => simp at hB
    · have hg' := (hlent g').1 hg'
      rw [hfp, List.mem_singleton] at hg'
      subst hg'
      exact ⟨cs, t, _, hg, s1, hsz1⟩
    · have hi0 : i = 0 := by simp at hi; omega
      subst hi0
      rw [hsv] at hs
      cases hs
      intro cs' t' hc'
      rw [s1] at hc'
      cases hc'
      refine ⟨cs, hg, fun k A n2 c2 hk => ?_⟩
      simp only [Go.Sort.putCells, Array.getElem?_mapIdx] at hk
      cases e : cs[k]? with
      | none => rw [e] at hk; cases hk
      | some x =>
        rw [e] at hk
        simp only [Option.map_some, Option.some.injEq] at hk
        split at hk
        · cases hk
        · rw [hk]

theorem w_impl_ascending_all (l : List Int) (hb : l.length ≤ 1048576) : Fn Pr n_impl_ascending [.sl 1 (encI .i64) (fun _ => l)] (.sl 1 (encI .i64) (fun _ => asc l)) := by
  have h0 : bIntS l := by show l.length * 8 ≤ _; omega
  have h1 := isort_len (l := l)
  have h2 := dd_len (isort l)
  refine k_impl_ascending.fn (by kernel_rfl) ?_
  conv => arg 4; cbv
  repeat' first
    | (refine Sat.cmp (fun h => ?_) (fun h => ?_) <;> simp only [Cmp.holds] at h <;> (conv => arg 4; cbv))
    | (refine Sat.call (w_slices_Clone_intint l h0) rfl ledA ?_; conv => arg 4; cbv)
    | (refine Sat.callm (w_slices_Sort_all l hb) rfl ledA rfl ledA ?_; conv => arg 4; cbv)
    | (refine Sat.callm (w_slices_Compact_intint (isort l) (by omega)) rfl ledA rfl ledA ?_; conv => arg 4; cbv)
    | (refine Sat.need (And.intro (And.intro rfl isort_len.symm) trivial) ?_; conv => arg 4; cbv)
    | (refine Sat.need ndA ?_; conv => arg 4; cbv)
    | (refine Sat.need (by (repeat' (first | exact trivial | refine And.intro ?_ ?_ | rfl | (dsimp only; simp [genL_length]; done))); (first | done | fail)) ?_; conv => arg 4; cbv)
    | (refine Sat.idxk (by assumption) ?_; conv => arg 4; cbv) | (refine Sat.idx ndA (fun v_ hv_ => ?_); conv => arg 4; cbv)
    | (refine Sat.ari64 ndA ndA ?_; conv => arg 4; cbv)
    | (refine Sat.pop ?_; conv => arg 4; cbv)
    | refine Sat.done ?_
  all_goals refine .sl ?_
  all_goals simp [ddZ, asc]

theorem w_impl_WithoutServers_all (a b : List Int) (ha : a.length ≤ 1048576) (hb : bIntS b) : Fn Pr n_impl_WithoutServers [.sl 1 (encI .i64) (fun _ => a), .sl 1 (encI .i64) (fun _ => b)] (.sl 1 (encI .i64) (fun _ => without a b)) := by
  have hl := asc_len a
  refine k_impl_WithoutServers.fn (by kernel_rfl) ?_
  conv => arg 4; cbv
  repeat' first
    | (refine Sat.cmp (fun h => ?_) (fun h => ?_) <;> simp only [Cmp.holds] at h <;> (conv => arg 4; cbv))
    | (refine Sat.call (w_impl_ascending_all a ha) rfl ledA ?_; conv => arg 4; cbv)
    | (refine Sat.callm (w_slices_DeleteFunc_intint (asc a) b n_impl_WithoutServers_c1 (fun x => decide (x ∈ b)) (w_impl_WithoutServers_c1 b hb) (by omega)) rfl ledA rfl ledA ?_; conv => arg 4; cbv)
    | (refine Sat.need ndA ?_; conv => arg 4; cbv)
    | (refine Sat.need (by (repeat' (first | exact trivial | refine And.intro ?_ ?_ | rfl | (dsimp only; simp [genL_length]; done))); (first | done | fail)) ?_; conv => arg 4; cbv)
    | (refine Sat.idxk (by assumption) ?_; conv => arg 4; cbv) | (refine Sat.idx ndA (fun v_ hv_ => ?_); conv => arg 4; cbv)
    | (refine Sat.ari64 ndA ndA ?_; conv => arg 4; cbv)
    | (refine Sat.pop ?_; conv => arg 4; cbv)
    | refine Sat.done ?_
  all_goals refine .sl ?_
  all_goals simp [keepZ, keep_asc]

theorem w_impl_CountMoves_all (a b : List Int) (ha : bIntS a) (hb : b.length ≤ 1048576) : Fn Pr n_impl_CountMoves [.sl 1 (encI .i64) (fun _ => a), .sl 1 (encI .i64) (fun _ => b)] (.int .i64 (fun _ => ((without b a).length : Int))) := by
  refine k_impl_CountMoves.fn (by kernel_rfl) ?_
  conv => arg 4; cbv
  repeat' first
    | (refine Sat.cmp (fun h => ?_) (fun h => ?_) <;> simp only [Cmp.holds] at h <;> (conv => arg 4; cbv))
    | (refine Sat.call (w_impl_WithoutServers_all b a hb ha) rfl ledA ?_; conv => arg 4; cbv)
    | (refine Sat.need ndA ?_; conv => arg 4; cbv)
    | (refine Sat.idxk (by assumption) ?_; conv => arg 4; cbv) | (refine Sat.idx ndA (fun v_ hv_ => ?_); conv => arg 4; cbv)
    | (refine Sat.ari64 ndA ndA ?_; conv => arg 4; cbv)
    | (refine Sat.pop ?_; conv => arg 4; cbv)
    | refine Sat.done ?_
  all_goals exact .int rfl
theorem w_spec_CountMoves (a b : List Int) (ha : bIntS a) (hb : b.length ≤ 1048576) : Fn Pr n_spec_CountMoves [.sl 1 (encI .i64) (fun _ => a), .sl 1 (encI .i64) (fun _ => b)] (.int .i64 (fun _ => ((without b a).length : Int))) := by
  refine k_spec_CountMoves.fn (by kernel_rfl) ?_
  conv => arg 4; cbv
  repeat' first
    | (refine Sat.cmp (fun h => ?_) (fun h => ?_) <;> simp only [Cmp.holds] at h <;> (conv => arg 4; cbv))
    | (refine Sat.call (w_spec_WithoutServers b a (by omega) ha) rfl ledA ?_; conv => arg 4; cbv)
    | (refine Sat.need ndA ?_; conv => arg 4; cbv)
    | (refine Sat.idxk (by assumption) ?_; conv => arg 4; cbv) | (refine Sat.idx ndA (fun v_ hv_ => ?_); conv => arg 4; cbv)
    | (refine Sat.ari64 ndA ndA ?_; conv => arg 4; cbv)
    | (refine Sat.pop ?_; conv => arg 4; cbv)
    | refine Sat.done ?_
  all_goals exact .int rfl

theorem w_laws_FnExactCountMoves (a b : List Int) {G : Prop} (F : (a.length ≤ maxLen ∧ a.length * 8 ≤ 140737488351232 ∧ ∀ y ∈ a, (Lit.int .i64 y).wf = true) ∧ (b.length ≤ maxLen ∧ b.length * 8 ≤ 140737488351232 ∧ ∀ y ∈ b, (Lit.int .i64 y).wf = true) ∧ G) : Fn Pr n_laws_FnExactCountMoves [.sl 1 (encI .i64) (fun _ => a), .sl 1 (encI .i64) (fun _ => b)] (.bo true) := by
  have ha : bIntS a := F.1.2.1
  have hb : bIntS b := F.2.1.2.1
  by_cases hl : b.length ≤ 1048576
  · have HI := w_impl_CountMoves_all a b ha hl
    have HS := w_spec_CountMoves a b ha hl
    generalize without b a = r at *
    refine k_laws_FnExactCountMoves.fn (by kernel_rfl) ?_
    repeat' first
      | (refine Sat.cmp (fun h => ?_) (fun h => ?_) <;> simp only [Cmp.holds] at h <;> (conv => arg 4; cbv))
      | (refine Sat.call (w_laws_toIntS a ha) rfl ledA ?_; conv => arg 4; cbv)
      | (refine Sat.call (w_laws_toIntS b hb) rfl ledA ?_; conv => arg 4; cbv)
      | (refine Sat.callb (HS) rfl ledA (fun h => ?_) (fun h => ?_) <;> (try simp only [decide_eq_true_eq, decide_eq_false_iff_not] at h) <;> (conv => arg 4; cbv))
      | (refine Sat.call (HS) rfl ledA ?_; conv => arg 4; cbv)
      | (refine Sat.callb (HI) rfl ledA (fun h => ?_) (fun h => ?_) <;> (try simp only [decide_eq_true_eq, decide_eq_false_iff_not] at h) <;> (conv => arg 4; cbv))
      | (refine Sat.call (HI) rfl ledA ?_; conv => arg 4; cbv)
      | (refine Sat.callb (w_laws_eqIntS a a ha) rfl ledA (fun h => ?_) (fun h => ?_) <;> (try simp only [decide_eq_true_eq, decide_eq_false_iff_not] at h) <;> (conv => arg 4; cbv))
      | (refine Sat.callb (w_laws_eqIntS b b hb) rfl ledA (fun h => ?_) (fun h => ?_) <;> (try simp only [decide_eq_true_eq, decide_eq_false_iff_not] at h) <;> (conv => arg 4; cbv))
      | (refine Sat.need ndA ?_; conv => arg 4; cbv)
      | (refine Sat.idxk (by assumption) ?_; conv => arg 4; cbv) | (refine Sat.idx ndA (fun v_ hv_ => ?_); conv => arg 4; cbv)
      | (refine Sat.ari64 ndA ndA ?_; conv => arg 4; cbv)
      | (refine Sat.pop ?_; conv => arg 4; cbv)
      | refine Sat.done ?_
    all_goals first
      | exact .same _
      | exact absurd trivial (by assumption)
  · refine k_laws_FnExactCountMoves.fn (by kernel_rfl) ?_
    conv => arg 4; cbv
    repeat' first
      | (refine Sat.cmp (fun h => ?_) (fun h => ?_) <;> simp only [Cmp.holds] at h <;> (conv => arg 4; cbv))
      | (refine Sat.call (w_laws_toIntS a ha) rfl ledA ?_; conv => arg 4; cbv)
      | (refine Sat.need ndA ?_; conv => arg 4; cbv)
      | (refine Sat.idxk (by assumption) ?_; conv => arg 4; cbv) | (refine Sat.idx ndA (fun v_ hv_ => ?_); conv => arg 4; cbv)
      | (refine Sat.ari64 ndA ndA ?_; conv => arg 4; cbv)
      | (refine Sat.pop ?_; conv => arg 4; cbv)
      | refine Sat.done ?_
    all_goals first
      | exact .same _
      | exact led_bo rfl
      | (exfalso; (try simp only [ncast] at *); omega)

end Go.V.T
