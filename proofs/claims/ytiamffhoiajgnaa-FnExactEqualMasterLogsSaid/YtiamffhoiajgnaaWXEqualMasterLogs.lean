/- Contracts of the functions that FnExactEqualMasterLogs reaches: what each returns. Conditions: those that each theorem states. -/
import Derived.Test.YtiamffhoiajgnaaMXEqualMasterLogs
namespace Go.V.T
open Go Go.V Go.RowKit
set_option maxRecDepth 100000
set_option linter.unusedVariables false
set_option linter.unusedSimpArgs false
@[ext] structure GConfig where
  Epoch : Int
  Primary : Int
  Replicas : List Int
  Witnesses : List Int
  deriving DecidableEq
def eGConfig (x : GConfig) : Nat → AV
  | 0 => .int .i64 (fun _ => x.Epoch)
  | 1 => .int .i64 (fun _ => x.Primary)
  | 2 => .sl 1 (encI .i64) (fun _ => x.Replicas)
  | 3 => .sl 1 (encI .i64) (fun _ => x.Witnesses)
  | _ => .any
abbrev cGConfig (x : GConfig) : List AV := [.int .i64 (fun _ => x.Epoch), .int .i64 (fun _ => x.Primary), .sl 1 (encI .i64) (fun _ => x.Replicas), .sl 1 (encI .i64) (fun _ => x.Witnesses)]
abbrev aGConfig (x : GConfig) : AV := .agg [.int .i64 (fun _ => x.Epoch), .int .i64 (fun _ => x.Primary), .sl 1 (encI .i64) (fun _ => x.Replicas), .sl 1 (encI .i64) (fun _ => x.Witnesses)]
@[ext] structure GMasterLog where
  Configs : List GConfig
  Activated : Int
  deriving DecidableEq
def eGMasterLog (x : GMasterLog) : Nat → AV
  | 0 => .sl 4 eGConfig (fun _ => x.Configs)
  | 1 => .int .i64 (fun _ => x.Activated)
  | _ => .any
abbrev cGMasterLog (x : GMasterLog) : List AV := [.sl 4 eGConfig (fun _ => x.Configs), .int .i64 (fun _ => x.Activated)]
abbrev aGMasterLog (x : GMasterLog) : AV := .agg [.sl 4 eGConfig (fun _ => x.Configs), .int .i64 (fun _ => x.Activated)]

theorem take_ext {α : Type _} {l r : List α} {i : Nat} {x y : α} (hx : l[i]? = some x) (hy : r[i]? = some y) (h : l.take i = r.take i) (e : x = y) : l.take (i + 1) = r.take (i + 1) := by
  rw [List.take_add_one, List.take_add_one, hx, hy, h, e]
theorem ne_of_get {α : Type _} {l r : List α} {i : Nat} {x y : α} (hx : l[i]? = some x) (hy : r[i]? = some y) (h : ¬ x = y) : l ≠ r := fun e => h (by subst e; rw [hx] at hy; exact Option.some.inj hy)
theorem set_take {α : Type _} {l : List α} {i : Nat} {x z : α} (h : l[i]? = some x) : setAt (l.take i ++ List.replicate (l.length - i) z) i x = l.take (i + 1) ++ List.replicate (l.length - (i + 1)) z := by
  have hi := lt_of_get h
  have e : l.length - i = (l.length - (i + 1)) + 1 := by omega
  rw [setAt, e, List.replicate_succ, List.set_append_right _ _ (by simp; omega)]
  have : i - (l.take i).length = 0 := by simp; omega
  rw [this, List.set_cons_zero, List.take_add_one, h]
  simp
def szF (k : Nat) (n : Int) : Int := if n - k < 0 then -1 else n - k
theorem szF_rng {k : Nat} {n : Int} (hn : 0 ≤ n) : -1 ≤ szF k n ∧ szF k n ≤ n := by unfold szF; split <;> omega
theorem szF_le {k : Nat} {n : Int} (h : 0 ≤ szF k n) : (k : Int) ≤ n := by unfold szF at h; split at h <;> omega
def szL {α : Type} (f : α → Int → Int) : List α → Int → Int
  | [], n => n
  | x :: r, n => if f x n < 0 then -1 else szL f r (f x n)
theorem szL_rng {α : Type} {f : α → Int → Int} (hf : ∀ x n, 0 ≤ n → -1 ≤ f x n ∧ f x n ≤ n) : ∀ (l : List α) {n : Int}, 0 ≤ n → -1 ≤ szL f l n ∧ szL f l n ≤ n
  | [], n, h => by simp only [szL]; omega
  | x :: r, n, h => by
    rw [szL]
    have := hf x n h
    split
    · omega
    · have := szL_rng hf r (n := f x n) (by omega)
      omega
theorem drop_get {α : Type _} {l : List α} {i : Nat} {x : α} (h : l[i]? = some x) : l.drop i = x :: l.drop (i + 1) := by
  obtain ⟨hi, rfl⟩ := List.getElem?_eq_some_iff.1 h
  exact List.drop_eq_getElem_cons hi

def bIntS (x : List Int) : Prop := x.length * 8 ≤ 140737488351232

def sIntS (x : List Int) (n : Int) : Int := szF x.length n

theorem w_laws_toIntS (x : List Int) (hb : bIntS x) : Fn Pr n_laws_toIntS [.sl 1 (encI .i64) (fun _ => x)] (.sl 1 (encI .i64) (fun _ => x)) := by
  refine k_laws_toIntS.fn (by kernel_rfl) ?_
  have h0 : x.length * 8 ≤ 140737488351232 := hb
  conv => arg 4; cbv
  refine Sat.need (by (try dsimp only); (first | omega | (simp only [ncast, true_and, List.length_append, List.length_take, List.length_drop, List.length_replicate, List.length_cons, List.length_nil] at *; omega))) ?_
  conv => arg 4; cbv
  refine Sat.typ (encI .i64) 0 (by (repeat' (first | exact tnil | refine tcons ?_ ?_ | exact .same _ | exact .int rfl | exact .str rfl | exact .sl rfl | exact .nil rfl | exact .sl (by simp; done))); (first | done | fail)) ?_
  conv => arg 4; cbv
  refine Sat.loopP (ι := Nat) (fun i => [(4, .int .i64 (fun _ => (i : Int)))]) (fun i => [(48, .row 1 (encI .i64) (fun _ => x.take i ++ List.replicate (x.length - i) 0) false)]) (fun i => i ≤ x.length) (fun i => x.length - i) 0 ?_ (by omega) (fun i hi => ?_)
  · refine les_of ?_ ?_ rfl
    · repeat' (first | exact trivial | refine And.intro ?_ ?_ | exact .any _ | exact .undef | exact .bo _ | exact .nil | exact .emp | exact .int rfl | exact .sl rfl | exact .str rfl | exact .ptr (fun h => nomatch h) | exact .rptr _ | exact .clo rfl (fun i x y h => by simp at h) | exact .ref (fun h => nomatch h) (fun h => nomatch h) rfl rfl | exact lev_nil | refine lev_cons ?_ ?_ | refine LeV.agg rfl ?_ | (simp; done))
    · repeat' (first | exact trivial | refine And.intro ?_ ?_ | exact Nat.le_of_ble_eq_true rfl | exact Or.inl ⟨_, rfl, .row rfl⟩ | refine Or.inl ⟨_, rfl, .row ?_⟩ | refine Or.inl ⟨_, rfl, .lit rfl ?_⟩ | exact Or.inr ⟨rfl, rfl⟩ | exact .any _ | exact .undef | exact .bo _ | exact .nil | exact .emp | exact .int rfl | exact .sl rfl | exact .str rfl | exact .ptr (fun h => nomatch h) | exact .rptr _ | exact .clo rfl (fun i x y h => by simp at h) | exact .ref (fun h => nomatch h) (fun h => nomatch h) rfl rfl | exact lev_nil | refine lev_cons ?_ ?_ | refine LeV.agg rfl ?_ | (simp; done))
  conv => arg 4; cbv
  repeat' first
    | (refine Sat.cmp (fun h => ?_) (fun h => ?_) <;> simp only [Cmp.holds] at h <;> (conv => arg 4; cbv))
    | (refine Sat.need (by (try dsimp only); (first | omega | (simp only [ncast, true_and, List.length_append, List.length_take, List.length_drop, List.length_replicate, List.length_cons, List.length_nil] at *; omega))) ?_; conv => arg 4; cbv)
    | (refine Sat.idxk (by assumption) ?_; conv => arg 4; cbv) | (refine Sat.idx (by (try dsimp only); (first | omega | (simp only [ncast, true_and, List.length_append, List.length_take, List.length_drop, List.length_replicate, List.length_cons, List.length_nil] at *; omega))) (fun v_ hv_ => ?_); conv => arg 4; cbv)
    | (refine Sat.ari64 (by (try dsimp only); (first | omega | (simp only [ncast, true_and, List.length_append, List.length_take, List.length_drop, List.length_replicate, List.length_cons, List.length_nil] at *; omega))) (by (try dsimp only); (first | omega | (simp only [ncast, true_and, List.length_append, List.length_take, List.length_drop, List.length_replicate, List.length_cons, List.length_nil] at *; omega))) ?_; conv => arg 4; cbv)
    | (refine Sat.pop ?_; conv => arg 4; cbv)
    | (refine Sat.typed _ (by (repeat' (first | exact tnil | refine tcons ?_ ?_ | exact .same _ | exact .int rfl | exact .str rfl | exact .sl rfl | exact .nil rfl | exact .sl (by simp; done))); (first | done | fail)) ?_; conv => arg 4; cbv)
    | refine Sat.next (i + 1) ?_ (by (first | omega | (simp only [ncast, true_and, List.length_append, List.length_take, List.length_drop, List.length_replicate, List.length_cons, List.length_nil] at *; omega))) (by (first | omega | (simp only [ncast, true_and, List.length_append, List.length_take, List.length_drop, List.length_replicate, List.length_cons, List.length_nil] at *; omega)))
    | refine Sat.done ?_
  · refine les_of ?_ ?_ rfl
    · repeat' (first | exact trivial | refine And.intro ?_ ?_ | exact .any _ | exact .undef | exact .bo _ | exact .nil | exact .emp | exact .int rfl | exact .sl rfl | exact .str rfl | exact .ptr (fun h => nomatch h) | exact .rptr _ | exact .clo rfl (fun i x y h => by simp at h) | exact .ref (fun h => nomatch h) (fun h => nomatch h) rfl rfl | exact lev_nil | refine lev_cons ?_ ?_ | refine LeV.agg rfl ?_ | (simp only [Int.toNat_natCast, Nat.zero_add]; exact set_take (by assumption)))
    · repeat' (first | exact trivial | refine And.intro ?_ ?_ | exact Nat.le_of_ble_eq_true rfl | exact Or.inl ⟨_, rfl, .row rfl⟩ | refine Or.inl ⟨_, rfl, .row ?_⟩ | refine Or.inl ⟨_, rfl, .lit rfl ?_⟩ | exact Or.inr ⟨rfl, rfl⟩ | exact .any _ | exact .undef | exact .bo _ | exact .nil | exact .emp | exact .int rfl | exact .sl rfl | exact .str rfl | exact .ptr (fun h => nomatch h) | exact .rptr _ | exact .clo rfl (fun i x y h => by simp at h) | exact .ref (fun h => nomatch h) (fun h => nomatch h) rfl rfl | exact lev_nil | refine lev_cons ?_ ?_ | refine LeV.agg rfl ?_ | (simp only [Int.toNat_natCast, Nat.zero_add]; exact set_take (by assumption)))
  · refine .sl ?_
    have e : i = x.length := by (first | omega | (simp only [ncast, true_and, List.length_append, List.length_take, List.length_drop, List.length_replicate, List.length_cons, List.length_nil] at *; omega))
    subst e
    simp

theorem w_laws_eqIntS (x y : List Int) (hb : bIntS x) : Fn Pr n_laws_eqIntS [.sl 1 (encI .i64) (fun _ => x), .sl 1 (encI .i64) (fun _ => y)] (.bo (decide (x = y))) := by
  refine k_laws_eqIntS.fn (by kernel_rfl) ?_
  have h0 : x.length * 8 ≤ 140737488351232 := hb
  conv => arg 4; cbv
  refine Sat.cmp (fun hl => ?_) (fun hl => ?_) <;> simp only [Cmp.holds] at hl <;> (conv => arg 4; cbv)
  · refine Sat.loopP (ι := Nat) (fun i => [(5, .int .i64 (fun _ => (i : Int)))]) (fun i => []) (fun i => i ≤ x.length ∧ x.take i = y.take i) (fun i => x.length - i) 0 ?_ ⟨by omega, by simp⟩ (fun i hi => ?_)
    · refine les_of ?_ ?_ rfl
      · repeat' (first | exact trivial | refine And.intro ?_ ?_ | exact .any _ | exact .undef | exact .bo _ | exact .nil | exact .emp | exact .int rfl | exact .sl rfl | exact .str rfl | exact .ptr (fun h => nomatch h) | exact .rptr _ | exact .clo rfl (fun i x y h => by simp at h) | exact .ref (fun h => nomatch h) (fun h => nomatch h) rfl rfl | exact lev_nil | refine lev_cons ?_ ?_ | refine LeV.agg rfl ?_)
      · repeat' (first | exact trivial | refine And.intro ?_ ?_ | exact Nat.le_of_ble_eq_true rfl | exact Or.inl ⟨_, rfl, .row rfl⟩ | refine Or.inl ⟨_, rfl, .row ?_⟩ | refine Or.inl ⟨_, rfl, .lit rfl ?_⟩ | exact Or.inr ⟨rfl, rfl⟩ | exact .any _ | exact .undef | exact .bo _ | exact .nil | exact .emp | exact .int rfl | exact .sl rfl | exact .str rfl | exact .ptr (fun h => nomatch h) | exact .rptr _ | exact .clo rfl (fun i x y h => by simp at h) | exact .ref (fun h => nomatch h) (fun h => nomatch h) rfl rfl | exact lev_nil | refine lev_cons ?_ ?_ | refine LeV.agg rfl ?_)
    conv => arg 4; cbv
    repeat' first
      | (refine Sat.cmp (fun h => ?_) (fun h => ?_) <;> simp only [Cmp.holds] at h <;> (conv => arg 4; cbv))
      | (refine Sat.need (by (try dsimp only); (first | omega | (simp only [ncast, true_and, List.length_append, List.length_take, List.length_drop, List.length_replicate, List.length_cons, List.length_nil] at *; omega))) ?_; conv => arg 4; cbv)
      | (refine Sat.idxk (by assumption) ?_; conv => arg 4; cbv) | (refine Sat.idx (by (try dsimp only); (first | omega | (simp only [ncast, true_and, List.length_append, List.length_take, List.length_drop, List.length_replicate, List.length_cons, List.length_nil] at *; omega))) (fun v_ hv_ => ?_); conv => arg 4; cbv)
      | (refine Sat.ari64 (by (try dsimp only); (first | omega | (simp only [ncast, true_and, List.length_append, List.length_take, List.length_drop, List.length_replicate, List.length_cons, List.length_nil] at *; omega))) (by (try dsimp only); (first | omega | (simp only [ncast, true_and, List.length_append, List.length_take, List.length_drop, List.length_replicate, List.length_cons, List.length_nil] at *; omega))) ?_; conv => arg 4; cbv)
      | (refine Sat.pop ?_; conv => arg 4; cbv)
      | refine Sat.next (i + 1) ?_ ?_ (by (try dsimp only); (first | omega | (simp only [ncast, true_and, List.length_append, List.length_take, List.length_drop, List.length_replicate, List.length_cons, List.length_nil] at *; omega)))
      | refine Sat.done (led_bo (Eq.symm (decide_eq_false (ne_of_get (by assumption) (by assumption) (fun e => by subst e; first | contradiction | (simp_all; done))))))
      | refine Sat.done ?_
    · refine les_of ?_ ?_ rfl
      · repeat' (first | exact trivial | refine And.intro ?_ ?_ | exact .any _ | exact .undef | exact .bo _ | exact .nil | exact .emp | exact .int rfl | exact .sl rfl | exact .str rfl | exact .ptr (fun h => nomatch h) | exact .rptr _ | exact .clo rfl (fun i x y h => by simp at h) | exact .ref (fun h => nomatch h) (fun h => nomatch h) rfl rfl | exact lev_nil | refine lev_cons ?_ ?_ | refine LeV.agg rfl ?_)
      · repeat' (first | exact trivial | refine And.intro ?_ ?_ | exact Nat.le_of_ble_eq_true rfl | exact Or.inl ⟨_, rfl, .row rfl⟩ | refine Or.inl ⟨_, rfl, .row ?_⟩ | refine Or.inl ⟨_, rfl, .lit rfl ?_⟩ | exact Or.inr ⟨rfl, rfl⟩ | exact .any _ | exact .undef | exact .bo _ | exact .nil | exact .emp | exact .int rfl | exact .sl rfl | exact .str rfl | exact .ptr (fun h => nomatch h) | exact .rptr _ | exact .clo rfl (fun i x y h => by simp at h) | exact .ref (fun h => nomatch h) (fun h => nomatch h) rfl rfl | exact lev_nil | refine lev_cons ?_ ?_ | refine LeV.agg rfl ?_)
    · exact ⟨by (first | omega | (simp only [ncast, true_and, List.length_append, List.length_take, List.length_drop, List.length_replicate, List.length_cons, List.length_nil] at *; omega)), take_ext (by assumption) (by assumption) hi.2 (by assumption)⟩
    · refine led_bo ?_
      have e1 : i = x.length := by (first | omega | (simp only [ncast, true_and, List.length_append, List.length_take, List.length_drop, List.length_replicate, List.length_cons, List.length_nil] at *; omega))
      have e2 : x.length = y.length := by (first | omega | (simp only [ncast, true_and, List.length_append, List.length_take, List.length_drop, List.length_replicate, List.length_cons, List.length_nil] at *; omega))
      have := hi.2
      rw [e1, List.take_length, e2, List.take_length] at this
      simp [this]
  · refine Sat.done (led_bo ?_)
    have : x ≠ y := fun e => hl (by rw [e])
    simp [this]

theorem sIntS_rng {x : List Int} {n : Int} (hn : 0 ≤ n) : -1 ≤ sIntS x n ∧ sIntS x n ≤ n := by
  exact szF_rng hn
theorem w_laws_szIntS (x : List Int) (n : Int) (hb : bIntS x) (hn : 0 ≤ n ∧ n ≤ 1048576) : Fn Pr n_laws_szIntS [.sl 1 (encI .i64) (fun _ => x), .int .i64 (fun _ => n)] (.int .i64 (fun _ => sIntS x n)) := by
  refine k_laws_szIntS.fn (by kernel_rfl) ?_
  have h0 : x.length * 8 ≤ 140737488351232 := hb
  conv => arg 4; cbv
  repeat' first
    | (refine Sat.cmp (fun h => ?_) (fun h => ?_) <;> simp only [Cmp.holds] at h <;> (conv => arg 4; cbv))
    | (refine Sat.need (by (try dsimp only); (first | omega | (simp only [ncast, true_and, List.length_append, List.length_take, List.length_drop, List.length_replicate, List.length_cons, List.length_nil] at *; omega))) ?_; conv => arg 4; cbv)
    | (refine Sat.idxk (by assumption) ?_; conv => arg 4; cbv) | (refine Sat.idx (by (try dsimp only); (first | omega | (simp only [ncast, true_and, List.length_append, List.length_take, List.length_drop, List.length_replicate, List.length_cons, List.length_nil] at *; omega))) (fun v_ hv_ => ?_); conv => arg 4; cbv)
    | (refine Sat.ari64 (by (try dsimp only); (first | omega | (simp only [ncast, true_and, List.length_append, List.length_take, List.length_drop, List.length_replicate, List.length_cons, List.length_nil] at *; omega))) (by (try dsimp only); (first | omega | (simp only [ncast, true_and, List.length_append, List.length_take, List.length_drop, List.length_replicate, List.length_cons, List.length_nil] at *; omega))) ?_; conv => arg 4; cbv)
    | (refine Sat.pop ?_; conv => arg 4; cbv)
    | refine Sat.done ?_
  all_goals refine .int ?_
  all_goals (simp only [sIntS, szF, ncast] at *; split <;> omega)

def bConfig (x : GConfig) : Prop := bIntS x.Replicas ∧ bIntS x.Witnesses

def sConfig (x : GConfig) (n : Int) : Int := if (sIntS x.Replicas n) < 0 then -1 else if (sIntS x.Witnesses (sIntS x.Replicas n)) < 0 then -1 else (sIntS x.Witnesses (sIntS x.Replicas n))

theorem w_laws_toConfig (x : GConfig) (hb : bConfig x) : Fn Pr n_laws_toConfig [aGConfig x] (aGConfig x) := by
  refine k_laws_toConfig.fn (by kernel_rfl) ?_
  conv => arg 4; cbv
  repeat' first
    | (refine Sat.cmp (fun h => ?_) (fun h => ?_) <;> simp only [Cmp.holds] at h <;> (conv => arg 4; cbv))
    | (refine Sat.callb (w_laws_toIntS x.Replicas hb.1) rfl (by (repeat' (first | exact led_nil | refine led_cons ?_ ?_ | exact .same _ | exact .int rfl | exact .sl rfl | exact .str rfl | exact .nil rfl | exact .emp rfl | refine .agg rfl ?_ | exact .sl (by simp; done))); (first | done | fail)) (fun h => ?_) (fun h => ?_) <;> (try simp only [decide_eq_true_eq, decide_eq_false_iff_not] at h) <;> (conv => arg 4; cbv))
    | (refine Sat.call (w_laws_toIntS x.Replicas hb.1) rfl (by (repeat' (first | exact led_nil | refine led_cons ?_ ?_ | exact .same _ | exact .int rfl | exact .sl rfl | exact .str rfl | exact .nil rfl | exact .emp rfl | refine .agg rfl ?_ | exact .sl (by simp; done))); (first | done | fail)) ?_; conv => arg 4; cbv)
    | (refine Sat.callb (w_laws_toIntS x.Witnesses hb.2) rfl (by (repeat' (first | exact led_nil | refine led_cons ?_ ?_ | exact .same _ | exact .int rfl | exact .sl rfl | exact .str rfl | exact .nil rfl | exact .emp rfl | refine .agg rfl ?_ | exact .sl (by simp; done))); (first | done | fail)) (fun h => ?_) (fun h => ?_) <;> (try simp only [decide_eq_true_eq, decide_eq_false_iff_not] at h) <;> (conv => arg 4; cbv))
    | (refine Sat.call (w_laws_toIntS x.Witnesses hb.2) rfl (by (repeat' (first | exact led_nil | refine led_cons ?_ ?_ | exact .same _ | exact .int rfl | exact .sl rfl | exact .str rfl | exact .nil rfl | exact .emp rfl | refine .agg rfl ?_ | exact .sl (by simp; done))); (first | done | fail)) ?_; conv => arg 4; cbv)
    | (refine Sat.need (by (try dsimp only); (first | omega | (simp only [ncast, true_and, List.length_append, List.length_take, List.length_drop, List.length_replicate, List.length_cons, List.length_nil] at *; omega))) ?_; conv => arg 4; cbv)
    | (refine Sat.idxk (by assumption) ?_; conv => arg 4; cbv) | (refine Sat.idx (by (try dsimp only); (first | omega | (simp only [ncast, true_and, List.length_append, List.length_take, List.length_drop, List.length_replicate, List.length_cons, List.length_nil] at *; omega))) (fun v_ hv_ => ?_); conv => arg 4; cbv)
    | (refine Sat.ari64 (by (try dsimp only); (first | omega | (simp only [ncast, true_and, List.length_append, List.length_take, List.length_drop, List.length_replicate, List.length_cons, List.length_nil] at *; omega))) (by (try dsimp only); (first | omega | (simp only [ncast, true_and, List.length_append, List.length_take, List.length_drop, List.length_replicate, List.length_cons, List.length_nil] at *; omega))) ?_; conv => arg 4; cbv)
    | (refine Sat.pop ?_; conv => arg 4; cbv)
    | refine Sat.done ?_
  all_goals refine .agg rfl ?_
  all_goals (repeat' first | exact led_nil | refine led_cons ?_ ?_ | exact .same _ | exact .int rfl | exact .str rfl | exact .sl rfl | exact .nil rfl | exact .sl (by simp; done))

theorem w_laws_eqConfig (x y : GConfig) (hb : bConfig x) : Fn Pr n_laws_eqConfig [aGConfig x, aGConfig y] (.bo (decide (x = y))) := by
  refine k_laws_eqConfig.fn (by kernel_rfl) ?_
  conv => arg 4; cbv
  repeat' first
    | (refine Sat.cmp (fun h => ?_) (fun h => ?_) <;> simp only [Cmp.holds] at h <;> (conv => arg 4; cbv))
    | (refine Sat.callb (w_laws_eqIntS x.Replicas y.Replicas hb.1) rfl (by (repeat' (first | exact led_nil | refine led_cons ?_ ?_ | exact .same _ | exact .int rfl | exact .sl rfl | exact .str rfl | exact .nil rfl | exact .emp rfl | refine .agg rfl ?_ | exact .sl (by simp; done))); (first | done | fail)) (fun h => ?_) (fun h => ?_) <;> (try simp only [decide_eq_true_eq, decide_eq_false_iff_not] at h) <;> (conv => arg 4; cbv))
    | (refine Sat.call (w_laws_eqIntS x.Replicas y.Replicas hb.1) rfl (by (repeat' (first | exact led_nil | refine led_cons ?_ ?_ | exact .same _ | exact .int rfl | exact .sl rfl | exact .str rfl | exact .nil rfl | exact .emp rfl | refine .agg rfl ?_ | exact .sl (by simp; done))); (first | done | fail)) ?_; conv => arg 4; cbv)
    | (refine Sat.callb (w_laws_eqIntS x.Witnesses y.Witnesses hb.2) rfl (by (repeat' (first | exact led_nil | refine led_cons ?_ ?_ | exact .same _ | exact .int rfl | exact .sl rfl | exact .str rfl | exact .nil rfl | exact .emp rfl | refine .agg rfl ?_ | exact .sl (by simp; done))); (first | done | fail)) (fun h => ?_) (fun h => ?_) <;> (try simp only [decide_eq_true_eq, decide_eq_false_iff_not] at h) <;> (conv => arg 4; cbv))
    | (refine Sat.call (w_laws_eqIntS x.Witnesses y.Witnesses hb.2) rfl (by (repeat' (first | exact led_nil | refine led_cons ?_ ?_ | exact .same _ | exact .int rfl | exact .sl rfl | exact .str rfl | exact .nil rfl | exact .emp rfl | refine .agg rfl ?_ | exact .sl (by simp; done))); (first | done | fail)) ?_; conv => arg 4; cbv)
    | (refine Sat.need (by (try dsimp only); (first | omega | (simp only [ncast, true_and, List.length_append, List.length_take, List.length_drop, List.length_replicate, List.length_cons, List.length_nil] at *; omega))) ?_; conv => arg 4; cbv)
    | (refine Sat.idxk (by assumption) ?_; conv => arg 4; cbv) | (refine Sat.idx (by (try dsimp only); (first | omega | (simp only [ncast, true_and, List.length_append, List.length_take, List.length_drop, List.length_replicate, List.length_cons, List.length_nil] at *; omega))) (fun v_ hv_ => ?_); conv => arg 4; cbv)
    | (refine Sat.ari64 (by (try dsimp only); (first | omega | (simp only [ncast, true_and, List.length_append, List.length_take, List.length_drop, List.length_replicate, List.length_cons, List.length_nil] at *; omega))) (by (try dsimp only); (first | omega | (simp only [ncast, true_and, List.length_append, List.length_take, List.length_drop, List.length_replicate, List.length_cons, List.length_nil] at *; omega))) ?_; conv => arg 4; cbv)
    | (refine Sat.pop ?_; conv => arg 4; cbv)
    | refine Sat.done ?_
  all_goals refine led_bo ?_
  all_goals (cases x; cases y; simp_all)

theorem sConfig_rng {x : GConfig} {n : Int} (hn : 0 ≤ n) : -1 ≤ sConfig x n ∧ sConfig x n ≤ n := by
  unfold sConfig
  have q0 := sIntS_rng (x := x.Replicas) (n := n)
  have q1 := sIntS_rng (x := x.Witnesses) (n := (sIntS x.Replicas n))
  repeat' split
  all_goals first | omega | skip
theorem w_laws_szConfig (x : GConfig) (n : Int) (hb : bConfig x) (hn : 0 ≤ n ∧ n ≤ 1048576) : Fn Pr n_laws_szConfig [aGConfig x, .int .i64 (fun _ => n)] (.int .i64 (fun _ => sConfig x n)) := by
  refine k_laws_szConfig.fn (by kernel_rfl) ?_
  have q0 := sIntS_rng (x := x.Replicas) (n := n)
  have q1 := sIntS_rng (x := x.Witnesses) (n := (sIntS x.Replicas n))
  conv => arg 4; cbv
  repeat' first
    | (refine Sat.cmp (fun h => ?_) (fun h => ?_) <;> simp only [Cmp.holds] at h <;> (conv => arg 4; cbv))
    | (refine Sat.callb (w_laws_szIntS x.Replicas _ hb.1 (by (first | omega | (simp only [ncast, true_and, List.length_append, List.length_take, List.length_drop, List.length_replicate, List.length_cons, List.length_nil] at *; omega)))) rfl (by (repeat' (first | exact led_nil | refine led_cons ?_ ?_ | exact .same _ | exact .int rfl | exact .sl rfl | exact .str rfl | exact .nil rfl | exact .emp rfl | refine .agg rfl ?_ | exact .sl (by simp; done))); (first | done | fail)) (fun h => ?_) (fun h => ?_) <;> (try simp only [decide_eq_true_eq, decide_eq_false_iff_not] at h) <;> (conv => arg 4; cbv))
    | (refine Sat.call (w_laws_szIntS x.Replicas _ hb.1 (by (first | omega | (simp only [ncast, true_and, List.length_append, List.length_take, List.length_drop, List.length_replicate, List.length_cons, List.length_nil] at *; omega)))) rfl (by (repeat' (first | exact led_nil | refine led_cons ?_ ?_ | exact .same _ | exact .int rfl | exact .sl rfl | exact .str rfl | exact .nil rfl | exact .emp rfl | refine .agg rfl ?_ | exact .sl (by simp; done))); (first | done | fail)) ?_; conv => arg 4; cbv)
    | (refine Sat.callb (w_laws_szIntS x.Witnesses _ hb.2 (by (first | omega | (simp only [ncast, true_and, List.length_append, List.length_take, List.length_drop, List.length_replicate, List.length_cons, List.length_nil] at *; omega)))) rfl (by (repeat' (first | exact led_nil | refine led_cons ?_ ?_ | exact .same _ | exact .int rfl | exact .sl rfl | exact .str rfl | exact .nil rfl | exact .emp rfl | refine .agg rfl ?_ | exact .sl (by simp; done))); (first | done | fail)) (fun h => ?_) (fun h => ?_) <;> (try simp only [decide_eq_true_eq, decide_eq_false_iff_not] at h) <;> (conv => arg 4; cbv))
    | (refine Sat.call (w_laws_szIntS x.Witnesses _ hb.2 (by (first | omega | (simp only [ncast, true_and, List.length_append, List.length_take, List.length_drop, List.length_replicate, List.length_cons, List.length_nil] at *; omega)))) rfl (by (repeat' (first | exact led_nil | refine led_cons ?_ ?_ | exact .same _ | exact .int rfl | exact .sl rfl | exact .str rfl | exact .nil rfl | exact .emp rfl | refine .agg rfl ?_ | exact .sl (by simp; done))); (first | done | fail)) ?_; conv => arg 4; cbv)
    | (refine Sat.need (by (try dsimp only); (first | omega | (simp only [ncast, true_and, List.length_append, List.length_take, List.length_drop, List.length_replicate, List.length_cons, List.length_nil] at *; omega))) ?_; conv => arg 4; cbv)
    | (refine Sat.idxk (by assumption) ?_; conv => arg 4; cbv) | (refine Sat.idx (by (try dsimp only); (first | omega | (simp only [ncast, true_and, List.length_append, List.length_take, List.length_drop, List.length_replicate, List.length_cons, List.length_nil] at *; omega))) (fun v_ hv_ => ?_); conv => arg 4; cbv)
    | (refine Sat.ari64 (by (try dsimp only); (first | omega | (simp only [ncast, true_and, List.length_append, List.length_take, List.length_drop, List.length_replicate, List.length_cons, List.length_nil] at *; omega))) (by (try dsimp only); (first | omega | (simp only [ncast, true_and, List.length_append, List.length_take, List.length_drop, List.length_replicate, List.length_cons, List.length_nil] at *; omega))) ?_; conv => arg 4; cbv)
    | (refine Sat.pop ?_; conv => arg 4; cbv)
    | refine Sat.done ?_
  all_goals refine .int ?_
  all_goals (simp only [sConfig]; repeat' split)
  all_goals first | rfl | omega

def bConfigS (x : List GConfig) : Prop := x.length * 64 ≤ 140737488351232 ∧ ∀ y ∈ x, bConfig y

def sConfigS (x : List GConfig) (n : Int) : Int := if n - x.length < 0 then -1 else szL sConfig x (n - x.length)

theorem w_laws_toConfigS (x : List GConfig) (hb : bConfigS x) : Fn Pr n_laws_toConfigS [.sl 4 eGConfig (fun _ => x)] (.sl 4 eGConfig (fun _ => x)) := by
  refine k_laws_toConfigS.fn (by kernel_rfl) ?_
  have h0 : x.length * 64 ≤ 140737488351232 := hb.1
  conv => arg 4; cbv
  refine Sat.need (by (try dsimp only); (first | omega | (simp only [ncast, true_and, List.length_append, List.length_take, List.length_drop, List.length_replicate, List.length_cons, List.length_nil] at *; omega))) ?_
  conv => arg 4; cbv
  refine Sat.typ eGConfig ⟨0, 0, [], []⟩ (by (repeat' (first | exact tnil | refine tcons ?_ ?_ | exact .same _ | exact .int rfl | exact .str rfl | exact .sl rfl | exact .nil rfl | exact .sl (by simp; done))); (first | done | fail)) ?_
  conv => arg 4; cbv
  refine Sat.loopP (ι := Nat) (fun i => [(4, .int .i64 (fun _ => (i : Int)))]) (fun i => [(48, .row 4 eGConfig (fun _ => x.take i ++ List.replicate (x.length - i) ⟨0, 0, [], []⟩) false)]) (fun i => i ≤ x.length) (fun i => x.length - i) 0 ?_ (by omega) (fun i hi => ?_)
  · refine les_of ?_ ?_ rfl
    · repeat' (first | exact trivial | refine And.intro ?_ ?_ | exact .any _ | exact .undef | exact .bo _ | exact .nil | exact .emp | exact .int rfl | exact .sl rfl | exact .str rfl | exact .ptr (fun h => nomatch h) | exact .rptr _ | exact .clo rfl (fun i x y h => by simp at h) | exact .ref (fun h => nomatch h) (fun h => nomatch h) rfl rfl | exact lev_nil | refine lev_cons ?_ ?_ | refine LeV.agg rfl ?_ | (simp; done))
    · repeat' (first | exact trivial | refine And.intro ?_ ?_ | exact Nat.le_of_ble_eq_true rfl | exact Or.inl ⟨_, rfl, .row rfl⟩ | refine Or.inl ⟨_, rfl, .row ?_⟩ | refine Or.inl ⟨_, rfl, .lit rfl ?_⟩ | exact Or.inr ⟨rfl, rfl⟩ | exact .any _ | exact .undef | exact .bo _ | exact .nil | exact .emp | exact .int rfl | exact .sl rfl | exact .str rfl | exact .ptr (fun h => nomatch h) | exact .rptr _ | exact .clo rfl (fun i x y h => by simp at h) | exact .ref (fun h => nomatch h) (fun h => nomatch h) rfl rfl | exact lev_nil | refine lev_cons ?_ ?_ | refine LeV.agg rfl ?_ | (simp; done))
  conv => arg 4; cbv
  repeat' first
    | (refine Sat.cmp (fun h => ?_) (fun h => ?_) <;> simp only [Cmp.holds] at h <;> (conv => arg 4; cbv))
    | (refine Sat.need (by (try dsimp only); (first | omega | (simp only [ncast, true_and, List.length_append, List.length_take, List.length_drop, List.length_replicate, List.length_cons, List.length_nil] at *; omega))) ?_; conv => arg 4; cbv)
    | (refine Sat.idxk (by assumption) ?_; conv => arg 4; cbv) | (refine Sat.idx (by (try dsimp only); (first | omega | (simp only [ncast, true_and, List.length_append, List.length_take, List.length_drop, List.length_replicate, List.length_cons, List.length_nil] at *; omega))) (fun v_ hv_ => ?_); conv => arg 4; cbv)
    | (refine Sat.call (w_laws_toConfig _ (hb.2 _ (List.mem_of_getElem? (by assumption)))) rfl (by (repeat' (first | exact led_nil | refine led_cons ?_ ?_ | exact .same _ | exact .int rfl | exact .sl rfl | exact .str rfl | exact .nil rfl | exact .emp rfl | refine .agg rfl ?_ | exact .sl (by simp; done))); (first | done | fail)) ?_; conv => arg 4; cbv)
    | (refine Sat.ari64 (by (try dsimp only); (first | omega | (simp only [ncast, true_and, List.length_append, List.length_take, List.length_drop, List.length_replicate, List.length_cons, List.length_nil] at *; omega))) (by (try dsimp only); (first | omega | (simp only [ncast, true_and, List.length_append, List.length_take, List.length_drop, List.length_replicate, List.length_cons, List.length_nil] at *; omega))) ?_; conv => arg 4; cbv)
    | (refine Sat.pop ?_; conv => arg 4; cbv)
    | (refine Sat.typed _ (by (repeat' (first | exact tnil | refine tcons ?_ ?_ | exact .same _ | exact .int rfl | exact .str rfl | exact .sl rfl | exact .nil rfl | exact .sl (by simp; done))); (first | done | fail)) ?_; conv => arg 4; cbv)
    | refine Sat.next (i + 1) ?_ (by (first | omega | (simp only [ncast, true_and, List.length_append, List.length_take, List.length_drop, List.length_replicate, List.length_cons, List.length_nil] at *; omega))) (by (first | omega | (simp only [ncast, true_and, List.length_append, List.length_take, List.length_drop, List.length_replicate, List.length_cons, List.length_nil] at *; omega)))
    | refine Sat.done ?_
  · refine les_of ?_ ?_ rfl
    · repeat' (first | exact trivial | refine And.intro ?_ ?_ | exact .any _ | exact .undef | exact .bo _ | exact .nil | exact .emp | exact .int rfl | exact .sl rfl | exact .str rfl | exact .ptr (fun h => nomatch h) | exact .rptr _ | exact .clo rfl (fun i x y h => by simp at h) | exact .ref (fun h => nomatch h) (fun h => nomatch h) rfl rfl | exact lev_nil | refine lev_cons ?_ ?_ | refine LeV.agg rfl ?_ | (simp only [Int.toNat_natCast, Nat.zero_add]; exact set_take (by assumption)))
    · repeat' (first | exact trivial | refine And.intro ?_ ?_ | exact Nat.le_of_ble_eq_true rfl | exact Or.inl ⟨_, rfl, .row rfl⟩ | refine Or.inl ⟨_, rfl, .row ?_⟩ | refine Or.inl ⟨_, rfl, .lit rfl ?_⟩ | exact Or.inr ⟨rfl, rfl⟩ | exact .any _ | exact .undef | exact .bo _ | exact .nil | exact .emp | exact .int rfl | exact .sl rfl | exact .str rfl | exact .ptr (fun h => nomatch h) | exact .rptr _ | exact .clo rfl (fun i x y h => by simp at h) | exact .ref (fun h => nomatch h) (fun h => nomatch h) rfl rfl | exact lev_nil | refine lev_cons ?_ ?_ | refine LeV.agg rfl ?_ | (simp only [Int.toNat_natCast, Nat.zero_add]; exact set_take (by assumption)))
  · refine .sl ?_
    have e : i = x.length := by (first | omega | (simp only [ncast, true_and, List.length_append, List.length_take, List.length_drop, List.length_replicate, List.length_cons, List.length_nil] at *; omega))
    subst e
    simp

theorem w_laws_eqConfigS (x y : List GConfig) (hb : bConfigS x) : Fn Pr n_laws_eqConfigS [.sl 4 eGConfig (fun _ => x), .sl 4 eGConfig (fun _ => y)] (.bo (decide (x = y))) := by
  refine k_laws_eqConfigS.fn (by kernel_rfl) ?_
  have h0 : x.length * 64 ≤ 140737488351232 := hb.1
  conv => arg 4; cbv
  refine Sat.cmp (fun hl => ?_) (fun hl => ?_) <;> simp only [Cmp.holds] at hl <;> (conv => arg 4; cbv)
  · refine Sat.loopP (ι := Nat) (fun i => [(5, .int .i64 (fun _ => (i : Int)))]) (fun i => []) (fun i => i ≤ x.length ∧ x.take i = y.take i) (fun i => x.length - i) 0 ?_ ⟨by omega, by simp⟩ (fun i hi => ?_)
    · refine les_of ?_ ?_ rfl
      · repeat' (first | exact trivial | refine And.intro ?_ ?_ | exact .any _ | exact .undef | exact .bo _ | exact .nil | exact .emp | exact .int rfl | exact .sl rfl | exact .str rfl | exact .ptr (fun h => nomatch h) | exact .rptr _ | exact .clo rfl (fun i x y h => by simp at h) | exact .ref (fun h => nomatch h) (fun h => nomatch h) rfl rfl | exact lev_nil | refine lev_cons ?_ ?_ | refine LeV.agg rfl ?_)
      · repeat' (first | exact trivial | refine And.intro ?_ ?_ | exact Nat.le_of_ble_eq_true rfl | exact Or.inl ⟨_, rfl, .row rfl⟩ | refine Or.inl ⟨_, rfl, .row ?_⟩ | refine Or.inl ⟨_, rfl, .lit rfl ?_⟩ | exact Or.inr ⟨rfl, rfl⟩ | exact .any _ | exact .undef | exact .bo _ | exact .nil | exact .emp | exact .int rfl | exact .sl rfl | exact .str rfl | exact .ptr (fun h => nomatch h) | exact .rptr _ | exact .clo rfl (fun i x y h => by simp at h) | exact .ref (fun h => nomatch h) (fun h => nomatch h) rfl rfl | exact lev_nil | refine lev_cons ?_ ?_ | refine LeV.agg rfl ?_)
    conv => arg 4; cbv
    repeat' first
      | (refine Sat.cmp (fun h => ?_) (fun h => ?_) <;> simp only [Cmp.holds] at h <;> (conv => arg 4; cbv))
      | (refine Sat.need (by (try dsimp only); (first | omega | (simp only [ncast, true_and, List.length_append, List.length_take, List.length_drop, List.length_replicate, List.length_cons, List.length_nil] at *; omega))) ?_; conv => arg 4; cbv)
      | (refine Sat.idxk (by assumption) ?_; conv => arg 4; cbv) | (refine Sat.idx (by (try dsimp only); (first | omega | (simp only [ncast, true_and, List.length_append, List.length_take, List.length_drop, List.length_replicate, List.length_cons, List.length_nil] at *; omega))) (fun v_ hv_ => ?_); conv => arg 4; cbv)
      | (refine Sat.callb (w_laws_eqConfig _ _ (hb.2 _ (List.mem_of_getElem? (by assumption)))) rfl (by (repeat' (first | exact led_nil | refine led_cons ?_ ?_ | exact .same _ | exact .int rfl | exact .sl rfl | exact .str rfl | exact .nil rfl | exact .emp rfl | refine .agg rfl ?_ | exact .sl (by simp; done))); (first | done | fail)) (fun h => ?_) (fun h => ?_) <;> (try simp only [decide_eq_true_eq, decide_eq_false_iff_not] at h) <;> (conv => arg 4; cbv))
      | (refine Sat.ari64 (by (try dsimp only); (first | omega | (simp only [ncast, true_and, List.length_append, List.length_take, List.length_drop, List.length_replicate, List.length_cons, List.length_nil] at *; omega))) (by (try dsimp only); (first | omega | (simp only [ncast, true_and, List.length_append, List.length_take, List.length_drop, List.length_replicate, List.length_cons, List.length_nil] at *; omega))) ?_; conv => arg 4; cbv)
      | (refine Sat.pop ?_; conv => arg 4; cbv)
      | refine Sat.next (i + 1) ?_ ?_ (by (try dsimp only); (first | omega | (simp only [ncast, true_and, List.length_append, List.length_take, List.length_drop, List.length_replicate, List.length_cons, List.length_nil] at *; omega)))
      | refine Sat.done (led_bo (Eq.symm (decide_eq_false (ne_of_get (by assumption) (by assumption) (fun e => by subst e; first | contradiction | (simp_all; done))))))
      | refine Sat.done ?_
    · refine les_of ?_ ?_ rfl
      · repeat' (first | exact trivial | refine And.intro ?_ ?_ | exact .any _ | exact .undef | exact .bo _ | exact .nil | exact .emp | exact .int rfl | exact .sl rfl | exact .str rfl | exact .ptr (fun h => nomatch h) | exact .rptr _ | exact .clo rfl (fun i x y h => by simp at h) | exact .ref (fun h => nomatch h) (fun h => nomatch h) rfl rfl | exact lev_nil | refine lev_cons ?_ ?_ | refine LeV.agg rfl ?_)
      · repeat' (first | exact trivial | refine And.intro ?_ ?_ | exact Nat.le_of_ble_eq_true rfl | exact Or.inl ⟨_, rfl, .row rfl⟩ | refine Or.inl ⟨_, rfl, .row ?_⟩ | refine Or.inl ⟨_, rfl, .lit rfl ?_⟩ | exact Or.inr ⟨rfl, rfl⟩ | exact .any _ | exact .undef | exact .bo _ | exact .nil | exact .emp | exact .int rfl | exact .sl rfl | exact .str rfl | exact .ptr (fun h => nomatch h) | exact .rptr _ | exact .clo rfl (fun i x y h => by simp at h) | exact .ref (fun h => nomatch h) (fun h => nomatch h) rfl rfl | exact lev_nil | refine lev_cons ?_ ?_ | refine LeV.agg rfl ?_)
    · exact ⟨by (first | omega | (simp only [ncast, true_and, List.length_append, List.length_take, List.length_drop, List.length_replicate, List.length_cons, List.length_nil] at *; omega)), take_ext (by assumption) (by assumption) hi.2 (by first | assumption | (apply GConfig.ext <;> first | assumption))⟩
    · refine led_bo ?_
      have e1 : i = x.length := by (first | omega | (simp only [ncast, true_and, List.length_append, List.length_take, List.length_drop, List.length_replicate, List.length_cons, List.length_nil] at *; omega))
      have e2 : x.length = y.length := by (first | omega | (simp only [ncast, true_and, List.length_append, List.length_take, List.length_drop, List.length_replicate, List.length_cons, List.length_nil] at *; omega))
      have := hi.2
      rw [e1, List.take_length, e2, List.take_length] at this
      simp [this]
  · refine Sat.done (led_bo ?_)
    have : x ≠ y := fun e => hl (by rw [e])
    simp [this]

theorem sConfigS_rng {x : List GConfig} {n : Int} (hn : 0 ≤ n) : -1 ≤ sConfigS x n ∧ sConfigS x n ≤ n := by
  unfold sConfigS
  split
  · omega
  · have := szL_rng (f := sConfig) (fun y m h => sConfig_rng h) x (n := n - x.length) (by omega)
    omega
theorem w_laws_szConfigS (x : List GConfig) (n : Int) (hb : bConfigS x) (hn : 0 ≤ n ∧ n ≤ 1048576) : Fn Pr n_laws_szConfigS [.sl 4 eGConfig (fun _ => x), .int .i64 (fun _ => n)] (.int .i64 (fun _ => sConfigS x n)) := by
  refine k_laws_szConfigS.fn (by kernel_rfl) ?_
  have h0 : x.length * 64 ≤ 140737488351232 := hb.1
  conv => arg 4; cbv
  (refine Sat.ari64 (by (try dsimp only); (first | omega | (simp only [ncast, true_and, List.length_append, List.length_take, List.length_drop, List.length_replicate, List.length_cons, List.length_nil] at *; omega))) (by (try dsimp only); (first | omega | (simp only [ncast, true_and, List.length_append, List.length_take, List.length_drop, List.length_replicate, List.length_cons, List.length_nil] at *; omega))) ?_; conv => arg 4; cbv)
  refine Sat.cmp (fun hl => ?_) (fun hl => ?_) <;> simp only [Cmp.holds] at hl <;> (conv => arg 4; cbv)
  · refine Sat.done (.int ?_)
    simp only [sConfigS, ncast] at *
    rw [if_pos hl]
  · refine Sat.loopP (ι := Nat × Int) (fun p => [(5, .int .i64 (fun _ => (p.1 : Int))), (1, .int .i64 (fun _ => p.2))]) (fun p => []) (fun p => p.1 ≤ x.length ∧ (0 ≤ p.2 ∧ p.2 ≤ 1048576) ∧ sConfigS x n = szL sConfig (x.drop p.1) p.2) (fun p => x.length - p.1) (0, n - x.length) ?_ ⟨by (try dsimp only); omega, by (try dsimp only); (first | omega | (simp only [ncast, true_and, List.length_append, List.length_take, List.length_drop, List.length_replicate, List.length_cons, List.length_nil] at *; omega)), by simp only [ncast] at hl; simp only [sConfigS]; rw [if_neg hl]; simp⟩ (fun p hp => ?_)
    · refine les_of ?_ ?_ rfl
      · repeat' (first | exact trivial | refine And.intro ?_ ?_ | exact .any _ | exact .undef | exact .bo _ | exact .nil | exact .emp | exact .int rfl | exact .sl rfl | exact .str rfl | exact .ptr (fun h => nomatch h) | exact .rptr _ | exact .clo rfl (fun i x y h => by simp at h) | exact .ref (fun h => nomatch h) (fun h => nomatch h) rfl rfl | exact lev_nil | refine lev_cons ?_ ?_ | refine LeV.agg rfl ?_)
      · repeat' (first | exact trivial | refine And.intro ?_ ?_ | exact Nat.le_of_ble_eq_true rfl | exact Or.inl ⟨_, rfl, .row rfl⟩ | refine Or.inl ⟨_, rfl, .row ?_⟩ | refine Or.inl ⟨_, rfl, .lit rfl ?_⟩ | exact Or.inr ⟨rfl, rfl⟩ | exact .any _ | exact .undef | exact .bo _ | exact .nil | exact .emp | exact .int rfl | exact .sl rfl | exact .str rfl | exact .ptr (fun h => nomatch h) | exact .rptr _ | exact .clo rfl (fun i x y h => by simp at h) | exact .ref (fun h => nomatch h) (fun h => nomatch h) rfl rfl | exact lev_nil | refine lev_cons ?_ ?_ | refine LeV.agg rfl ?_)
    conv => arg 4; cbv
    repeat' first
      | (refine Sat.cmp (fun h => ?_) (fun h => ?_) <;> simp only [Cmp.holds] at h <;> (conv => arg 4; cbv))
      | (refine Sat.need (by (try dsimp only); (first | omega | (simp only [ncast, true_and, List.length_append, List.length_take, List.length_drop, List.length_replicate, List.length_cons, List.length_nil] at *; omega))) ?_; conv => arg 4; cbv)
      | (refine Sat.idxk (by assumption) ?_; conv => arg 4; cbv) | (refine Sat.idx (by (try dsimp only); (first | omega | (simp only [ncast, true_and, List.length_append, List.length_take, List.length_drop, List.length_replicate, List.length_cons, List.length_nil] at *; omega))) (fun v_ hv_ => ?_); conv => arg 4; cbv)
      | (refine Sat.call (w_laws_szConfig _ _ (hb.2 _ (List.mem_of_getElem? (by assumption))) hp.2.1) rfl (by (repeat' (first | exact led_nil | refine led_cons ?_ ?_ | exact .same _ | exact .int rfl | exact .sl rfl | exact .str rfl | exact .nil rfl | exact .emp rfl | refine .agg rfl ?_ | exact .sl (by simp; done))); (first | done | fail)) ?_; conv => arg 4; cbv)
      | (refine Sat.ari64 (by (try dsimp only); (first | omega | (simp only [ncast, true_and, List.length_append, List.length_take, List.length_drop, List.length_replicate, List.length_cons, List.length_nil] at *; omega))) (by (try dsimp only); (first | omega | (simp only [ncast, true_and, List.length_append, List.length_take, List.length_drop, List.length_replicate, List.length_cons, List.length_nil] at *; omega))) ?_; conv => arg 4; cbv)
      | (refine Sat.pop ?_; conv => arg 4; cbv)
      | (refine Sat.next (p.1 + 1, sConfig v_ p.2) ?_ ?_ (by (try dsimp only); (first | omega | (simp only [ncast, true_and, List.length_append, List.length_take, List.length_drop, List.length_replicate, List.length_cons, List.length_nil] at *; omega))))
      | refine Sat.done ?_
    · refine .int ?_
      rw [hp.2.2, drop_get (by assumption), szL, if_pos h]
    · refine les_of ?_ ?_ rfl
      · repeat' (first | exact trivial | refine And.intro ?_ ?_ | exact .any _ | exact .undef | exact .bo _ | exact .nil | exact .emp | exact .int rfl | exact .sl rfl | exact .str rfl | exact .ptr (fun h => nomatch h) | exact .rptr _ | exact .clo rfl (fun i x y h => by simp at h) | exact .ref (fun h => nomatch h) (fun h => nomatch h) rfl rfl | exact lev_nil | refine lev_cons ?_ ?_ | refine LeV.agg rfl ?_)
      · repeat' (first | exact trivial | refine And.intro ?_ ?_ | exact Nat.le_of_ble_eq_true rfl | exact Or.inl ⟨_, rfl, .row rfl⟩ | refine Or.inl ⟨_, rfl, .row ?_⟩ | refine Or.inl ⟨_, rfl, .lit rfl ?_⟩ | exact Or.inr ⟨rfl, rfl⟩ | exact .any _ | exact .undef | exact .bo _ | exact .nil | exact .emp | exact .int rfl | exact .sl rfl | exact .str rfl | exact .ptr (fun h => nomatch h) | exact .rptr _ | exact .clo rfl (fun i x y h => by simp at h) | exact .ref (fun h => nomatch h) (fun h => nomatch h) rfl rfl | exact lev_nil | refine lev_cons ?_ ?_ | refine LeV.agg rfl ?_)
    · have hr := sConfig_rng (x := v_) (n := p.2) hp.2.1.1
      exact ⟨by (try dsimp only); (first | omega | (simp only [ncast, true_and, List.length_append, List.length_take, List.length_drop, List.length_replicate, List.length_cons, List.length_nil] at *; omega)), ⟨by (try dsimp only); omega, by (try dsimp only); omega⟩, by rw [hp.2.2, drop_get (by assumption), szL, if_neg h]⟩
    · refine .int ?_
      have e1 : p.1 = x.length := by (first | omega | (simp only [ncast, true_and, List.length_append, List.length_take, List.length_drop, List.length_replicate, List.length_cons, List.length_nil] at *; omega))
      rw [hp.2.2, e1, List.drop_length, szL]

def bMasterLog (x : GMasterLog) : Prop := bConfigS x.Configs

def sMasterLog (x : GMasterLog) (n : Int) : Int := if (sConfigS x.Configs n) < 0 then -1 else (sConfigS x.Configs n)

theorem w_laws_toMasterLog (x : GMasterLog) (hb : bMasterLog x) : Fn Pr n_laws_toMasterLog [aGMasterLog x] (aGMasterLog x) := by
  refine k_laws_toMasterLog.fn (by kernel_rfl) ?_
  conv => arg 4; cbv
  repeat' first
    | (refine Sat.cmp (fun h => ?_) (fun h => ?_) <;> simp only [Cmp.holds] at h <;> (conv => arg 4; cbv))
    | (refine Sat.callb (w_laws_toConfigS x.Configs hb) rfl (by (repeat' (first | exact led_nil | refine led_cons ?_ ?_ | exact .same _ | exact .int rfl | exact .sl rfl | exact .str rfl | exact .nil rfl | exact .emp rfl | refine .agg rfl ?_ | exact .sl (by simp; done))); (first | done | fail)) (fun h => ?_) (fun h => ?_) <;> (try simp only [decide_eq_true_eq, decide_eq_false_iff_not] at h) <;> (conv => arg 4; cbv))
    | (refine Sat.call (w_laws_toConfigS x.Configs hb) rfl (by (repeat' (first | exact led_nil | refine led_cons ?_ ?_ | exact .same _ | exact .int rfl | exact .sl rfl | exact .str rfl | exact .nil rfl | exact .emp rfl | refine .agg rfl ?_ | exact .sl (by simp; done))); (first | done | fail)) ?_; conv => arg 4; cbv)
    | (refine Sat.need (by (try dsimp only); (first | omega | (simp only [ncast, true_and, List.length_append, List.length_take, List.length_drop, List.length_replicate, List.length_cons, List.length_nil] at *; omega))) ?_; conv => arg 4; cbv)
    | (refine Sat.idxk (by assumption) ?_; conv => arg 4; cbv) | (refine Sat.idx (by (try dsimp only); (first | omega | (simp only [ncast, true_and, List.length_append, List.length_take, List.length_drop, List.length_replicate, List.length_cons, List.length_nil] at *; omega))) (fun v_ hv_ => ?_); conv => arg 4; cbv)
    | (refine Sat.ari64 (by (try dsimp only); (first | omega | (simp only [ncast, true_and, List.length_append, List.length_take, List.length_drop, List.length_replicate, List.length_cons, List.length_nil] at *; omega))) (by (try dsimp only); (first | omega | (simp only [ncast, true_and, List.length_append, List.length_take, List.length_drop, List.length_replicate, List.length_cons, List.length_nil] at *; omega))) ?_; conv => arg 4; cbv)
    | (refine Sat.pop ?_; conv => arg 4; cbv)
    | refine Sat.done ?_
  all_goals refine .agg rfl ?_
  all_goals (repeat' first | exact led_nil | refine led_cons ?_ ?_ | exact .same _ | exact .int rfl | exact .str rfl | exact .sl rfl | exact .nil rfl | exact .sl (by simp; done))

theorem w_laws_eqMasterLog (x y : GMasterLog) (hb : bMasterLog x) : Fn Pr n_laws_eqMasterLog [aGMasterLog x, aGMasterLog y] (.bo (decide (x = y))) := by
  refine k_laws_eqMasterLog.fn (by kernel_rfl) ?_
  conv => arg 4; cbv
  repeat' first
    | (refine Sat.cmp (fun h => ?_) (fun h => ?_) <;> simp only [Cmp.holds] at h <;> (conv => arg 4; cbv))
    | (refine Sat.callb (w_laws_eqConfigS x.Configs y.Configs hb) rfl (by (repeat' (first | exact led_nil | refine led_cons ?_ ?_ | exact .same _ | exact .int rfl | exact .sl rfl | exact .str rfl | exact .nil rfl | exact .emp rfl | refine .agg rfl ?_ | exact .sl (by simp; done))); (first | done | fail)) (fun h => ?_) (fun h => ?_) <;> (try simp only [decide_eq_true_eq, decide_eq_false_iff_not] at h) <;> (conv => arg 4; cbv))
    | (refine Sat.call (w_laws_eqConfigS x.Configs y.Configs hb) rfl (by (repeat' (first | exact led_nil | refine led_cons ?_ ?_ | exact .same _ | exact .int rfl | exact .sl rfl | exact .str rfl | exact .nil rfl | exact .emp rfl | refine .agg rfl ?_ | exact .sl (by simp; done))); (first | done | fail)) ?_; conv => arg 4; cbv)
    | (refine Sat.need (by (try dsimp only); (first | omega | (simp only [ncast, true_and, List.length_append, List.length_take, List.length_drop, List.length_replicate, List.length_cons, List.length_nil] at *; omega))) ?_; conv => arg 4; cbv)
    | (refine Sat.idxk (by assumption) ?_; conv => arg 4; cbv) | (refine Sat.idx (by (try dsimp only); (first | omega | (simp only [ncast, true_and, List.length_append, List.length_take, List.length_drop, List.length_replicate, List.length_cons, List.length_nil] at *; omega))) (fun v_ hv_ => ?_); conv => arg 4; cbv)
    | (refine Sat.ari64 (by (try dsimp only); (first | omega | (simp only [ncast, true_and, List.length_append, List.length_take, List.length_drop, List.length_replicate, List.length_cons, List.length_nil] at *; omega))) (by (try dsimp only); (first | omega | (simp only [ncast, true_and, List.length_append, List.length_take, List.length_drop, List.length_replicate, List.length_cons, List.length_nil] at *; omega))) ?_; conv => arg 4; cbv)
    | (refine Sat.pop ?_; conv => arg 4; cbv)
    | refine Sat.done ?_
  all_goals refine led_bo ?_
  all_goals (cases x; cases y; simp_all)

theorem sMasterLog_rng {x : GMasterLog} {n : Int} (hn : 0 ≤ n) : -1 ≤ sMasterLog x n ∧ sMasterLog x n ≤ n := by
  unfold sMasterLog
  have q0 := sConfigS_rng (x := x.Configs) (n := n)
  repeat' split
  all_goals first | omega | skip
theorem w_laws_szMasterLog (x : GMasterLog) (n : Int) (hb : bMasterLog x) (hn : 0 ≤ n ∧ n ≤ 1048576) : Fn Pr n_laws_szMasterLog [aGMasterLog x, .int .i64 (fun _ => n)] (.int .i64 (fun _ => sMasterLog x n)) := by
  refine k_laws_szMasterLog.fn (by kernel_rfl) ?_
  have q0 := sConfigS_rng (x := x.Configs) (n := n)
  conv => arg 4; cbv
  repeat' first
    | (refine Sat.cmp (fun h => ?_) (fun h => ?_) <;> simp only [Cmp.holds] at h <;> (conv => arg 4; cbv))
    | (refine Sat.callb (w_laws_szConfigS x.Configs _ hb (by (first | omega | (simp only [ncast, true_and, List.length_append, List.length_take, List.length_drop, List.length_replicate, List.length_cons, List.length_nil] at *; omega)))) rfl (by (repeat' (first | exact led_nil | refine led_cons ?_ ?_ | exact .same _ | exact .int rfl | exact .sl rfl | exact .str rfl | exact .nil rfl | exact .emp rfl | refine .agg rfl ?_ | exact .sl (by simp; done))); (first | done | fail)) (fun h => ?_) (fun h => ?_) <;> (try simp only [decide_eq_true_eq, decide_eq_false_iff_not] at h) <;> (conv => arg 4; cbv))
    | (refine Sat.call (w_laws_szConfigS x.Configs _ hb (by (first | omega | (simp only [ncast, true_and, List.length_append, List.length_take, List.length_drop, List.length_replicate, List.length_cons, List.length_nil] at *; omega)))) rfl (by (repeat' (first | exact led_nil | refine led_cons ?_ ?_ | exact .same _ | exact .int rfl | exact .sl rfl | exact .str rfl | exact .nil rfl | exact .emp rfl | refine .agg rfl ?_ | exact .sl (by simp; done))); (first | done | fail)) ?_; conv => arg 4; cbv)
    | (refine Sat.need (by (try dsimp only); (first | omega | (simp only [ncast, true_and, List.length_append, List.length_take, List.length_drop, List.length_replicate, List.length_cons, List.length_nil] at *; omega))) ?_; conv => arg 4; cbv)
    | (refine Sat.idxk (by assumption) ?_; conv => arg 4; cbv) | (refine Sat.idx (by (try dsimp only); (first | omega | (simp only [ncast, true_and, List.length_append, List.length_take, List.length_drop, List.length_replicate, List.length_cons, List.length_nil] at *; omega))) (fun v_ hv_ => ?_); conv => arg 4; cbv)
    | (refine Sat.ari64 (by (try dsimp only); (first | omega | (simp only [ncast, true_and, List.length_append, List.length_take, List.length_drop, List.length_replicate, List.length_cons, List.length_nil] at *; omega))) (by (try dsimp only); (first | omega | (simp only [ncast, true_and, List.length_append, List.length_take, List.length_drop, List.length_replicate, List.length_cons, List.length_nil] at *; omega))) ?_; conv => arg 4; cbv)
    | (refine Sat.pop ?_; conv => arg 4; cbv)
    | refine Sat.done ?_
  all_goals refine .int ?_
  all_goals (simp only [sMasterLog]; repeat' split)
  all_goals first | rfl | omega

theorem w_spec_EqualServers (x y : List Int) (hb : bIntS x) : Fn Pr n_spec_EqualServers [.sl 1 (encI .i64) (fun _ => x), .sl 1 (encI .i64) (fun _ => y)] (.bo (decide (x = y))) := by
  refine k_spec_EqualServers.fn (by kernel_rfl) ?_
  have h0 : x.length * 8 ≤ 140737488351232 := hb
  conv => arg 4; cbv
  refine Sat.cmp (fun hl => ?_) (fun hl => ?_) <;> simp only [Cmp.holds] at hl <;> (conv => arg 4; cbv)
  · refine Sat.loopP (ι := Nat) (fun i => [(5, .int .i64 (fun _ => (i : Int)))]) (fun i => []) (fun i => i ≤ x.length ∧ x.take i = y.take i) (fun i => x.length - i) 0 ?_ ⟨by omega, by simp⟩ (fun i hi => ?_)
    · refine les_of ?_ ?_ rfl
      · repeat' (first | exact trivial | refine And.intro ?_ ?_ | exact .any _ | exact .undef | exact .bo _ | exact .nil | exact .emp | exact .int rfl | exact .sl rfl | exact .str rfl | exact .ptr (fun h => nomatch h) | exact .rptr _ | exact .clo rfl (fun i x y h => by simp at h) | exact .ref (fun h => nomatch h) (fun h => nomatch h) rfl rfl | exact lev_nil | refine lev_cons ?_ ?_ | refine LeV.agg rfl ?_)
      · repeat' (first | exact trivial | refine And.intro ?_ ?_ | exact Nat.le_of_ble_eq_true rfl | exact Or.inl ⟨_, rfl, .row rfl⟩ | refine Or.inl ⟨_, rfl, .row ?_⟩ | refine Or.inl ⟨_, rfl, .lit rfl ?_⟩ | exact Or.inr ⟨rfl, rfl⟩ | exact .any _ | exact .undef | exact .bo _ | exact .nil | exact .emp | exact .int rfl | exact .sl rfl | exact .str rfl | exact .ptr (fun h => nomatch h) | exact .rptr _ | exact .clo rfl (fun i x y h => by simp at h) | exact .ref (fun h => nomatch h) (fun h => nomatch h) rfl rfl | exact lev_nil | refine lev_cons ?_ ?_ | refine LeV.agg rfl ?_)
    conv => arg 4; cbv
    repeat' first
      | (refine Sat.cmp (fun h => ?_) (fun h => ?_) <;> simp only [Cmp.holds] at h <;> (conv => arg 4; cbv))
      | (refine Sat.need (by (try dsimp only); (first | omega | (simp only [ncast, true_and, List.length_append, List.length_take, List.length_drop, List.length_replicate, List.length_cons, List.length_nil] at *; omega))) ?_; conv => arg 4; cbv)
      | (refine Sat.idxk (by assumption) ?_; conv => arg 4; cbv) | (refine Sat.idx (by (try dsimp only); (first | omega | (simp only [ncast, true_and, List.length_append, List.length_take, List.length_drop, List.length_replicate, List.length_cons, List.length_nil] at *; omega))) (fun v_ hv_ => ?_); conv => arg 4; cbv)
      | (refine Sat.ari64 (by (try dsimp only); (first | omega | (simp only [ncast, true_and, List.length_append, List.length_take, List.length_drop, List.length_replicate, List.length_cons, List.length_nil] at *; omega))) (by (try dsimp only); (first | omega | (simp only [ncast, true_and, List.length_append, List.length_take, List.length_drop, List.length_replicate, List.length_cons, List.length_nil] at *; omega))) ?_; conv => arg 4; cbv)
      | (refine Sat.pop ?_; conv => arg 4; cbv)
      | refine Sat.next (i + 1) ?_ ?_ (by (try dsimp only); (first | omega | (simp only [ncast, true_and, List.length_append, List.length_take, List.length_drop, List.length_replicate, List.length_cons, List.length_nil] at *; omega)))
      | refine Sat.done (led_bo (Eq.symm (decide_eq_false (ne_of_get (by assumption) (by assumption) (fun e => by subst e; first | contradiction | (simp_all; done))))))
      | refine Sat.done ?_
    · refine les_of ?_ ?_ rfl
      · repeat' (first | exact trivial | refine And.intro ?_ ?_ | exact .any _ | exact .undef | exact .bo _ | exact .nil | exact .emp | exact .int rfl | exact .sl rfl | exact .str rfl | exact .ptr (fun h => nomatch h) | exact .rptr _ | exact .clo rfl (fun i x y h => by simp at h) | exact .ref (fun h => nomatch h) (fun h => nomatch h) rfl rfl | exact lev_nil | refine lev_cons ?_ ?_ | refine LeV.agg rfl ?_)
      · repeat' (first | exact trivial | refine And.intro ?_ ?_ | exact Nat.le_of_ble_eq_true rfl | exact Or.inl ⟨_, rfl, .row rfl⟩ | refine Or.inl ⟨_, rfl, .row ?_⟩ | refine Or.inl ⟨_, rfl, .lit rfl ?_⟩ | exact Or.inr ⟨rfl, rfl⟩ | exact .any _ | exact .undef | exact .bo _ | exact .nil | exact .emp | exact .int rfl | exact .sl rfl | exact .str rfl | exact .ptr (fun h => nomatch h) | exact .rptr _ | exact .clo rfl (fun i x y h => by simp at h) | exact .ref (fun h => nomatch h) (fun h => nomatch h) rfl rfl | exact lev_nil | refine lev_cons ?_ ?_ | refine LeV.agg rfl ?_)
    · exact ⟨by (first | omega | (simp only [ncast, true_and, List.length_append, List.length_take, List.length_drop, List.length_replicate, List.length_cons, List.length_nil] at *; omega)), take_ext (by assumption) (by assumption) hi.2 (by assumption)⟩
    · refine led_bo ?_
      have e1 : i = x.length := by (first | omega | (simp only [ncast, true_and, List.length_append, List.length_take, List.length_drop, List.length_replicate, List.length_cons, List.length_nil] at *; omega))
      have e2 : x.length = y.length := by (first | omega | (simp only [ncast, true_and, List.length_append, List.length_take, List.length_drop, List.length_replicate, List.length_cons, List.length_nil] at *; omega))
      have := hi.2
      rw [e1, List.take_length, e2, List.take_length] at this
      simp [this]
  · refine Sat.done (led_bo ?_)
    have : x ≠ y := fun e => hl (by rw [e])
    simp [this]

theorem w_slices_Equal_intint (x y : List Int) (hb : bIntS x) : Fn Pr n_slices_Equal_intint [.sl 1 (encI .i64) (fun _ => x), .sl 1 (encI .i64) (fun _ => y)] (.bo (decide (x = y))) := by
  refine k_slices_Equal_intint.fn (by kernel_rfl) ?_
  have h0 : x.length * 8 ≤ 140737488351232 := hb
  conv => arg 4; cbv
  refine Sat.cmp (fun hl => ?_) (fun hl => ?_) <;> simp only [Cmp.holds] at hl <;> (conv => arg 4; cbv)
  · refine Sat.loopP (ι := Nat) (fun i => [(13, .int .i64 (fun _ => (i : Int)))]) (fun i => []) (fun i => i ≤ x.length ∧ x.take i = y.take i) (fun i => x.length - i) 0 ?_ ⟨by omega, by simp⟩ (fun i hi => ?_)
    · refine les_of ?_ ?_ rfl
      · repeat' (first | exact trivial | refine And.intro ?_ ?_ | exact .any _ | exact .undef | exact .bo _ | exact .nil | exact .emp | exact .int rfl | exact .sl rfl | exact .str rfl | exact .ptr (fun h => nomatch h) | exact .rptr _ | exact .clo rfl (fun i x y h => by simp at h) | exact .ref (fun h => nomatch h) (fun h => nomatch h) rfl rfl | exact lev_nil | refine lev_cons ?_ ?_ | refine LeV.agg rfl ?_)
      · repeat' (first | exact trivial | refine And.intro ?_ ?_ | exact Nat.le_of_ble_eq_true rfl | exact Or.inl ⟨_, rfl, .row rfl⟩ | refine Or.inl ⟨_, rfl, .row ?_⟩ | refine Or.inl ⟨_, rfl, .lit rfl ?_⟩ | exact Or.inr ⟨rfl, rfl⟩ | exact .any _ | exact .undef | exact .bo _ | exact .nil | exact .emp | exact .int rfl | exact .sl rfl | exact .str rfl | exact .ptr (fun h => nomatch h) | exact .rptr _ | exact .clo rfl (fun i x y h => by simp at h) | exact .ref (fun h => nomatch h) (fun h => nomatch h) rfl rfl | exact lev_nil | refine lev_cons ?_ ?_ | refine LeV.agg rfl ?_)
    conv => arg 4; cbv
    repeat' first
      | (refine Sat.cmp (fun h => ?_) (fun h => ?_) <;> simp only [Cmp.holds] at h <;> (conv => arg 4; cbv))
      | (refine Sat.need (by (try dsimp only); (first | omega | (simp only [ncast, true_and, List.length_append, List.length_take, List.length_drop, List.length_replicate, List.length_cons, List.length_nil] at *; omega))) ?_; conv => arg 4; cbv)
      | (refine Sat.idxk (by assumption) ?_; conv => arg 4; cbv) | (refine Sat.idx (by (try dsimp only); (first | omega | (simp only [ncast, true_and, List.length_append, List.length_take, List.length_drop, List.length_replicate, List.length_cons, List.length_nil] at *; omega))) (fun v_ hv_ => ?_); conv => arg 4; cbv)
      | (refine Sat.ari64 (by (try dsimp only); (first | omega | (simp only [ncast, true_and, List.length_append, List.length_take, List.length_drop, List.length_replicate, List.length_cons, List.length_nil] at *; omega))) (by (try dsimp only); (first | omega | (simp only [ncast, true_and, List.length_append, List.length_take, List.length_drop, List.length_replicate, List.length_cons, List.length_nil] at *; omega))) ?_; conv => arg 4; cbv)
      | (refine Sat.pop ?_; conv => arg 4; cbv)
      | refine Sat.next (i + 1) ?_ ?_ (by (try dsimp only); (first | omega | (simp only [ncast, true_and, List.length_append, List.length_take, List.length_drop, List.length_replicate, List.length_cons, List.length_nil] at *; omega)))
      | refine Sat.done (led_bo (Eq.symm (decide_eq_false (ne_of_get (by assumption) (by assumption) (fun e => by subst e; first | contradiction | (simp_all; done))))))
      | refine Sat.done ?_
    · refine les_of ?_ ?_ rfl
      · repeat' (first | exact trivial | refine And.intro ?_ ?_ | exact .any _ | exact .undef | exact .bo _ | exact .nil | exact .emp | exact .int rfl | exact .sl rfl | exact .str rfl | exact .ptr (fun h => nomatch h) | exact .rptr _ | exact .clo rfl (fun i x y h => by simp at h) | exact .ref (fun h => nomatch h) (fun h => nomatch h) rfl rfl | exact lev_nil | refine lev_cons ?_ ?_ | refine LeV.agg rfl ?_)
      · repeat' (first | exact trivial | refine And.intro ?_ ?_ | exact Nat.le_of_ble_eq_true rfl | exact Or.inl ⟨_, rfl, .row rfl⟩ | refine Or.inl ⟨_, rfl, .row ?_⟩ | refine Or.inl ⟨_, rfl, .lit rfl ?_⟩ | exact Or.inr ⟨rfl, rfl⟩ | exact .any _ | exact .undef | exact .bo _ | exact .nil | exact .emp | exact .int rfl | exact .sl rfl | exact .str rfl | exact .ptr (fun h => nomatch h) | exact .rptr _ | exact .clo rfl (fun i x y h => by simp at h) | exact .ref (fun h => nomatch h) (fun h => nomatch h) rfl rfl | exact lev_nil | refine lev_cons ?_ ?_ | refine LeV.agg rfl ?_)
    · exact ⟨by (first | omega | (simp only [ncast, true_and, List.length_append, List.length_take, List.length_drop, List.length_replicate, List.length_cons, List.length_nil] at *; omega)), take_ext (by assumption) (by assumption) hi.2 (by assumption)⟩
    · refine led_bo ?_
      have e1 : i = x.length := by (first | omega | (simp only [ncast, true_and, List.length_append, List.length_take, List.length_drop, List.length_replicate, List.length_cons, List.length_nil] at *; omega))
      have e2 : x.length = y.length := by (first | omega | (simp only [ncast, true_and, List.length_append, List.length_take, List.length_drop, List.length_replicate, List.length_cons, List.length_nil] at *; omega))
      have := hi.2
      rw [e1, List.take_length, e2, List.take_length] at this
      simp [this]
  · refine Sat.done (led_bo ?_)
    have : x ≠ y := fun e => hl (by rw [e])
    simp [this]

theorem w_slices_EqualFunc_implConfigimplConfigimplConfigimplConfig (x y : List GConfig) (f : Nat) (hf : ∀ a b, bConfig a → Fn Pr f [aGConfig a, aGConfig b] (.bo (decide (a = b)))) (hb : bConfigS x) : Fn Pr n_slices_EqualFunc_implConfigimplConfigimplConfigimplConfig [.sl 4 eGConfig (fun _ => x), .sl 4 eGConfig (fun _ => y), .clo f []] (.bo (decide (x = y))) := by
  refine k_slices_EqualFunc_implConfigimplConfigimplConfigimplConfig.fn (by kernel_rfl) ?_
  have h0 : x.length * 64 ≤ 140737488351232 := hb.1
  conv => arg 4; cbv
  refine Sat.cmp (fun hl => ?_) (fun hl => ?_) <;> simp only [Cmp.holds] at hl <;> (conv => arg 4; cbv)
  · refine Sat.loopP (ι := Nat) (fun i => [(17, .int .i64 (fun _ => (i : Int)))]) (fun i => []) (fun i => i ≤ x.length ∧ x.take i = y.take i) (fun i => x.length - i) 0 ?_ ⟨by omega, by simp⟩ (fun i hi => ?_)
    · refine les_of ?_ ?_ rfl
      · repeat' (first | exact trivial | refine And.intro ?_ ?_ | exact .any _ | exact .undef | exact .bo _ | exact .nil | exact .emp | exact .int rfl | exact .sl rfl | exact .str rfl | exact .ptr (fun h => nomatch h) | exact .rptr _ | exact .clo rfl (fun i x y h => by simp at h) | exact .ref (fun h => nomatch h) (fun h => nomatch h) rfl rfl | exact lev_nil | refine lev_cons ?_ ?_ | refine LeV.agg rfl ?_)
      · repeat' (first | exact trivial | refine And.intro ?_ ?_ | exact Nat.le_of_ble_eq_true rfl | exact Or.inl ⟨_, rfl, .row rfl⟩ | refine Or.inl ⟨_, rfl, .row ?_⟩ | refine Or.inl ⟨_, rfl, .lit rfl ?_⟩ | exact Or.inr ⟨rfl, rfl⟩ | exact .any _ | exact .undef | exact .bo _ | exact .nil | exact .emp | exact .int rfl | exact .sl rfl | exact .str rfl | exact .ptr (fun h => nomatch h) | exact .rptr _ | exact .clo rfl (fun i x y h => by simp at h) | exact .ref (fun h => nomatch h) (fun h => nomatch h) rfl rfl | exact lev_nil | refine lev_cons ?_ ?_ | refine LeV.agg rfl ?_)
    conv => arg 4; cbv
    repeat' first
      | (refine Sat.cmp (fun h => ?_) (fun h => ?_) <;> simp only [Cmp.holds] at h <;> (conv => arg 4; cbv))
      | (refine Sat.need (by (try dsimp only); (first | omega | (simp only [ncast, true_and, List.length_append, List.length_take, List.length_drop, List.length_replicate, List.length_cons, List.length_nil] at *; omega))) ?_; conv => arg 4; cbv)
      | (refine Sat.idxk (by assumption) ?_; conv => arg 4; cbv) | (refine Sat.idx (by (try dsimp only); (first | omega | (simp only [ncast, true_and, List.length_append, List.length_take, List.length_drop, List.length_replicate, List.length_cons, List.length_nil] at *; omega))) (fun v_ hv_ => ?_); conv => arg 4; cbv)
      | (refine Sat.callb (hf _ _ (hb.2 _ (List.mem_of_getElem? (by assumption)))) rfl (by (repeat' (first | exact led_nil | refine led_cons ?_ ?_ | exact .same _ | exact .int rfl | exact .sl rfl | exact .str rfl | exact .nil rfl | exact .emp rfl | refine .agg rfl ?_ | exact .sl (by simp; done))); (first | done | fail)) (fun h => ?_) (fun h => ?_) <;> (try simp only [decide_eq_true_eq, decide_eq_false_iff_not] at h) <;> (conv => arg 4; cbv))
      | (refine Sat.ari64 (by (try dsimp only); (first | omega | (simp only [ncast, true_and, List.length_append, List.length_take, List.length_drop, List.length_replicate, List.length_cons, List.length_nil] at *; omega))) (by (try dsimp only); (first | omega | (simp only [ncast, true_and, List.length_append, List.length_take, List.length_drop, List.length_replicate, List.length_cons, List.length_nil] at *; omega))) ?_; conv => arg 4; cbv)
      | (refine Sat.pop ?_; conv => arg 4; cbv)
      | refine Sat.next (i + 1) ?_ ?_ (by (try dsimp only); (first | omega | (simp only [ncast, true_and, List.length_append, List.length_take, List.length_drop, List.length_replicate, List.length_cons, List.length_nil] at *; omega)))
      | refine Sat.done (led_bo (Eq.symm (decide_eq_false (ne_of_get (by assumption) (by assumption) (fun e => by subst e; first | contradiction | (simp_all; done))))))
      | refine Sat.done ?_
    · refine les_of ?_ ?_ rfl
      · repeat' (first | exact trivial | refine And.intro ?_ ?_ | exact .any _ | exact .undef | exact .bo _ | exact .nil | exact .emp | exact .int rfl | exact .sl rfl | exact .str rfl | exact .ptr (fun h => nomatch h) | exact .rptr _ | exact .clo rfl (fun i x y h => by simp at h) | exact .ref (fun h => nomatch h) (fun h => nomatch h) rfl rfl | exact lev_nil | refine lev_cons ?_ ?_ | refine LeV.agg rfl ?_)
      · repeat' (first | exact trivial | refine And.intro ?_ ?_ | exact Nat.le_of_ble_eq_true rfl | exact Or.inl ⟨_, rfl, .row rfl⟩ | refine Or.inl ⟨_, rfl, .row ?_⟩ | refine Or.inl ⟨_, rfl, .lit rfl ?_⟩ | exact Or.inr ⟨rfl, rfl⟩ | exact .any _ | exact .undef | exact .bo _ | exact .nil | exact .emp | exact .int rfl | exact .sl rfl | exact .str rfl | exact .ptr (fun h => nomatch h) | exact .rptr _ | exact .clo rfl (fun i x y h => by simp at h) | exact .ref (fun h => nomatch h) (fun h => nomatch h) rfl rfl | exact lev_nil | refine lev_cons ?_ ?_ | refine LeV.agg rfl ?_)
    · exact ⟨by (first | omega | (simp only [ncast, true_and, List.length_append, List.length_take, List.length_drop, List.length_replicate, List.length_cons, List.length_nil] at *; omega)), take_ext (by assumption) (by assumption) hi.2 (by first | assumption | (apply GConfig.ext <;> first | assumption))⟩
    · refine led_bo ?_
      have e1 : i = x.length := by (first | omega | (simp only [ncast, true_and, List.length_append, List.length_take, List.length_drop, List.length_replicate, List.length_cons, List.length_nil] at *; omega))
      have e2 : x.length = y.length := by (first | omega | (simp only [ncast, true_and, List.length_append, List.length_take, List.length_drop, List.length_replicate, List.length_cons, List.length_nil] at *; omega))
      have := hi.2
      rw [e1, List.take_length, e2, List.take_length] at this
      simp [this]
  · refine Sat.done (led_bo ?_)
    have : x ≠ y := fun e => hl (by rw [e])
    simp [this]

theorem w_impl_EqualServers (x y : List Int) (hb : bIntS x) : Fn Pr n_impl_EqualServers [.sl 1 (encI .i64) (fun _ => x), .sl 1 (encI .i64) (fun _ => y)] (.bo (decide (x = y))) := by
  refine k_impl_EqualServers.fn (by kernel_rfl) ?_
  conv => arg 4; cbv
  repeat' first
    | (refine Sat.cmp (fun h => ?_) (fun h => ?_) <;> simp only [Cmp.holds] at h <;> (conv => arg 4; cbv))
    | (refine Sat.callb (w_slices_Equal_intint x y hb) rfl (by (repeat' (first | exact led_nil | refine led_cons ?_ ?_ | exact .same _ | exact .int rfl | exact .sl rfl | exact .str rfl | exact .nil rfl | exact .emp rfl | refine .agg rfl ?_ | exact .sl (by simp; done))); (first | done | fail)) (fun h => ?_) (fun h => ?_) <;> (try simp only [decide_eq_true_eq, decide_eq_false_iff_not] at h) <;> (conv => arg 4; cbv))
    | (refine Sat.call (w_slices_Equal_intint x y hb) rfl (by (repeat' (first | exact led_nil | refine led_cons ?_ ?_ | exact .same _ | exact .int rfl | exact .sl rfl | exact .str rfl | exact .nil rfl | exact .emp rfl | refine .agg rfl ?_ | exact .sl (by simp; done))); (first | done | fail)) ?_; conv => arg 4; cbv)
    | (refine Sat.need (by (try dsimp only); (first | omega | (simp only [ncast, true_and, List.length_append, List.length_take, List.length_drop, List.length_replicate, List.length_cons, List.length_nil] at *; omega))) ?_; conv => arg 4; cbv)
    | (refine Sat.idxk (by assumption) ?_; conv => arg 4; cbv) | (refine Sat.idx (by (try dsimp only); (first | omega | (simp only [ncast, true_and, List.length_append, List.length_take, List.length_drop, List.length_replicate, List.length_cons, List.length_nil] at *; omega))) (fun v_ hv_ => ?_); conv => arg 4; cbv)
    | (refine Sat.ari64 (by (try dsimp only); (first | omega | (simp only [ncast, true_and, List.length_append, List.length_take, List.length_drop, List.length_replicate, List.length_cons, List.length_nil] at *; omega))) (by (try dsimp only); (first | omega | (simp only [ncast, true_and, List.length_append, List.length_take, List.length_drop, List.length_replicate, List.length_cons, List.length_nil] at *; omega))) ?_; conv => arg 4; cbv)
    | (refine Sat.pop ?_; conv => arg 4; cbv)
    | refine Sat.done ?_
  all_goals refine led_bo ?_
  all_goals simp_all

theorem w_impl_EqualConfigs (x y : GConfig) (hb : bConfig x) : Fn Pr n_impl_EqualConfigs [aGConfig x, aGConfig y] (.bo (decide (x = y))) := by
  refine k_impl_EqualConfigs.fn (by kernel_rfl) ?_
  conv => arg 4; cbv
  repeat' first
    | (refine Sat.cmp (fun h => ?_) (fun h => ?_) <;> simp only [Cmp.holds] at h <;> (conv => arg 4; cbv))
    | (refine Sat.callb (w_impl_EqualServers x.Replicas y.Replicas hb.1) rfl (by (repeat' (first | exact led_nil | refine led_cons ?_ ?_ | exact .same _ | exact .int rfl | exact .sl rfl | exact .str rfl | exact .nil rfl | exact .emp rfl | refine .agg rfl ?_ | exact .sl (by simp; done))); (first | done | fail)) (fun h => ?_) (fun h => ?_) <;> (try simp only [decide_eq_true_eq, decide_eq_false_iff_not] at h) <;> (conv => arg 4; cbv))
    | (refine Sat.call (w_impl_EqualServers x.Replicas y.Replicas hb.1) rfl (by (repeat' (first | exact led_nil | refine led_cons ?_ ?_ | exact .same _ | exact .int rfl | exact .sl rfl | exact .str rfl | exact .nil rfl | exact .emp rfl | refine .agg rfl ?_ | exact .sl (by simp; done))); (first | done | fail)) ?_; conv => arg 4; cbv)
    | (refine Sat.callb (w_impl_EqualServers x.Witnesses y.Witnesses hb.2) rfl (by (repeat' (first | exact led_nil | refine led_cons ?_ ?_ | exact .same _ | exact .int rfl | exact .sl rfl | exact .str rfl | exact .nil rfl | exact .emp rfl | refine .agg rfl ?_ | exact .sl (by simp; done))); (first | done | fail)) (fun h => ?_) (fun h => ?_) <;> (try simp only [decide_eq_true_eq, decide_eq_false_iff_not] at h) <;> (conv => arg 4; cbv))
    | (refine Sat.call (w_impl_EqualServers x.Witnesses y.Witnesses hb.2) rfl (by (repeat' (first | exact led_nil | refine led_cons ?_ ?_ | exact .same _ | exact .int rfl | exact .sl rfl | exact .str rfl | exact .nil rfl | exact .emp rfl | refine .agg rfl ?_ | exact .sl (by simp; done))); (first | done | fail)) ?_; conv => arg 4; cbv)
    | (refine Sat.need (by (try dsimp only); (first | omega | (simp only [ncast, true_and, List.length_append, List.length_take, List.length_drop, List.length_replicate, List.length_cons, List.length_nil] at *; omega))) ?_; conv => arg 4; cbv)
    | (refine Sat.idxk (by assumption) ?_; conv => arg 4; cbv) | (refine Sat.idx (by (try dsimp only); (first | omega | (simp only [ncast, true_and, List.length_append, List.length_take, List.length_drop, List.length_replicate, List.length_cons, List.length_nil] at *; omega))) (fun v_ hv_ => ?_); conv => arg 4; cbv)
    | (refine Sat.ari64 (by (try dsimp only); (first | omega | (simp only [ncast, true_and, List.length_append, List.length_take, List.length_drop, List.length_replicate, List.length_cons, List.length_nil] at *; omega))) (by (try dsimp only); (first | omega | (simp only [ncast, true_and, List.length_append, List.length_take, List.length_drop, List.length_replicate, List.length_cons, List.length_nil] at *; omega))) ?_; conv => arg 4; cbv)
    | (refine Sat.pop ?_; conv => arg 4; cbv)
    | refine Sat.done ?_
  all_goals refine led_bo ?_
  all_goals (cases x; cases y; simp_all)

theorem w_spec_EqualConfigs (x y : GConfig) (hb : bConfig x) : Fn Pr n_spec_EqualConfigs [aGConfig x, aGConfig y] (.bo (decide (x = y))) := by
  refine k_spec_EqualConfigs.fn (by kernel_rfl) ?_
  conv => arg 4; cbv
  repeat' first
    | (refine Sat.cmp (fun h => ?_) (fun h => ?_) <;> simp only [Cmp.holds] at h <;> (conv => arg 4; cbv))
    | (refine Sat.callb (w_spec_EqualServers x.Replicas y.Replicas hb.1) rfl (by (repeat' (first | exact led_nil | refine led_cons ?_ ?_ | exact .same _ | exact .int rfl | exact .sl rfl | exact .str rfl | exact .nil rfl | exact .emp rfl | refine .agg rfl ?_ | exact .sl (by simp; done))); (first | done | fail)) (fun h => ?_) (fun h => ?_) <;> (try simp only [decide_eq_true_eq, decide_eq_false_iff_not] at h) <;> (conv => arg 4; cbv))
    | (refine Sat.call (w_spec_EqualServers x.Replicas y.Replicas hb.1) rfl (by (repeat' (first | exact led_nil | refine led_cons ?_ ?_ | exact .same _ | exact .int rfl | exact .sl rfl | exact .str rfl | exact .nil rfl | exact .emp rfl | refine .agg rfl ?_ | exact .sl (by simp; done))); (first | done | fail)) ?_; conv => arg 4; cbv)
    | (refine Sat.callb (w_spec_EqualServers x.Witnesses y.Witnesses hb.2) rfl (by (repeat' (first | exact led_nil | refine led_cons ?_ ?_ | exact .same _ | exact .int rfl | exact .sl rfl | exact .str rfl | exact .nil rfl | exact .emp rfl | refine .agg rfl ?_ | exact .sl (by simp; done))); (first | done | fail)) (fun h => ?_) (fun h => ?_) <;> (try simp only [decide_eq_true_eq, decide_eq_false_iff_not] at h) <;> (conv => arg 4; cbv))
    | (refine Sat.call (w_spec_EqualServers x.Witnesses y.Witnesses hb.2) rfl (by (repeat' (first | exact led_nil | refine led_cons ?_ ?_ | exact .same _ | exact .int rfl | exact .sl rfl | exact .str rfl | exact .nil rfl | exact .emp rfl | refine .agg rfl ?_ | exact .sl (by simp; done))); (first | done | fail)) ?_; conv => arg 4; cbv)
    | (refine Sat.need (by (try dsimp only); (first | omega | (simp only [ncast, true_and, List.length_append, List.length_take, List.length_drop, List.length_replicate, List.length_cons, List.length_nil] at *; omega))) ?_; conv => arg 4; cbv)
    | (refine Sat.idxk (by assumption) ?_; conv => arg 4; cbv) | (refine Sat.idx (by (try dsimp only); (first | omega | (simp only [ncast, true_and, List.length_append, List.length_take, List.length_drop, List.length_replicate, List.length_cons, List.length_nil] at *; omega))) (fun v_ hv_ => ?_); conv => arg 4; cbv)
    | (refine Sat.ari64 (by (try dsimp only); (first | omega | (simp only [ncast, true_and, List.length_append, List.length_take, List.length_drop, List.length_replicate, List.length_cons, List.length_nil] at *; omega))) (by (try dsimp only); (first | omega | (simp only [ncast, true_and, List.length_append, List.length_take, List.length_drop, List.length_replicate, List.length_cons, List.length_nil] at *; omega))) ?_; conv => arg 4; cbv)
    | (refine Sat.pop ?_; conv => arg 4; cbv)
    | refine Sat.done ?_
  all_goals refine led_bo ?_
  all_goals (cases x; cases y; simp_all)

def fIntS (l : List Int) : Prop := (l.length ≤ maxLen ∧ l.length * 8 ≤ 140737488351232 ∧ ∀ y ∈ l, (Lit.int .i64 y).wf = true)
def fConfig (x : GConfig) : Prop := (Lit.int .i64 x.Epoch).wf = true ∧ (Lit.int .i64 x.Primary).wf = true ∧ fIntS x.Replicas ∧ fIntS x.Witnesses
theorem fConfig_b {x : GConfig} (h : fConfig x) : bConfig x := ⟨h.2.2.1.2.1, h.2.2.2.2.1⟩

theorem w_spec_EqualMasterLogs (x y : GMasterLog) (hb : bMasterLog x) : Fn Pr n_spec_EqualMasterLogs [aGMasterLog x, aGMasterLog y] (.bo (decide (x = y))) := by
  have h0 : x.Configs.length * 64 ≤ 140737488351232 := hb.1
  refine k_spec_EqualMasterLogs.fn (by kernel_rfl) ?_
  conv => arg 4; cbv
  repeat' first
    | (refine Sat.cmp (fun h => ?_) (fun h => ?_) <;> simp only [Cmp.holds] at h <;> (conv => arg 4; cbv))
    | (refine Sat.done (led_bo (Eq.symm (decide_eq_false (fun e => by subst e; simp_all; done)))))
  have hl := h
  refine Sat.loopP (ι := Nat) (fun i => [(5, .int .i64 (fun _ => (i : Int)))]) (fun i => []) (fun i => i ≤ x.Configs.length ∧ x.Configs.take i = y.Configs.take i) (fun i => x.Configs.length - i) 0 ?_ ⟨by omega, by simp⟩ (fun i hi => ?_)
  · refine les_of ?_ ?_ rfl
    · repeat' (first | exact trivial | refine And.intro ?_ ?_ | exact .any _ | exact .undef | exact .bo _ | exact .nil | exact .emp | exact .int rfl | exact .sl rfl | exact .str rfl | exact .ptr (fun h => nomatch h) | exact .rptr _ | exact .clo rfl (fun i x y h => by simp at h) | exact .ref (fun h => nomatch h) (fun h => nomatch h) rfl rfl | exact lev_nil | refine lev_cons ?_ ?_ | refine LeV.agg rfl ?_)
    · repeat' (first | exact trivial | refine And.intro ?_ ?_ | exact Nat.le_of_ble_eq_true rfl | exact Or.inl ⟨_, rfl, .row rfl⟩ | refine Or.inl ⟨_, rfl, .row ?_⟩ | refine Or.inl ⟨_, rfl, .lit rfl ?_⟩ | exact Or.inr ⟨rfl, rfl⟩ | exact .any _ | exact .undef | exact .bo _ | exact .nil | exact .emp | exact .int rfl | exact .sl rfl | exact .str rfl | exact .ptr (fun h => nomatch h) | exact .rptr _ | exact .clo rfl (fun i x y h => by simp at h) | exact .ref (fun h => nomatch h) (fun h => nomatch h) rfl rfl | exact lev_nil | refine lev_cons ?_ ?_ | refine LeV.agg rfl ?_)
  conv => arg 4; cbv
  repeat' first
    | (refine Sat.cmp (fun h => ?_) (fun h => ?_) <;> simp only [Cmp.holds] at h <;> (conv => arg 4; cbv))
    | (refine Sat.need (by (try dsimp only); (first | omega | (simp only [ncast, true_and, List.length_append, List.length_take, List.length_drop, List.length_replicate, List.length_cons, List.length_nil] at *; omega))) ?_; conv => arg 4; cbv)
    | (refine Sat.idxk (by assumption) ?_; conv => arg 4; cbv) | (refine Sat.idx (by (try dsimp only); (first | omega | (simp only [ncast, true_and, List.length_append, List.length_take, List.length_drop, List.length_replicate, List.length_cons, List.length_nil] at *; omega))) (fun v_ hv_ => ?_); conv => arg 4; cbv)
    | (refine Sat.callb (w_spec_EqualConfigs _ _ (hb.2 _ (List.mem_of_getElem? (by assumption)))) rfl (by (repeat' (first | exact led_nil | refine led_cons ?_ ?_ | exact .same _ | exact .int rfl | exact .sl rfl | exact .str rfl | exact .nil rfl | exact .emp rfl | refine .agg rfl ?_ | exact .sl (by simp; done))); (first | done | fail)) (fun h => ?_) (fun h => ?_) <;> (try simp only [decide_eq_true_eq, decide_eq_false_iff_not] at h) <;> (conv => arg 4; cbv))
    | (refine Sat.ari64 (by (try dsimp only); (first | omega | (simp only [ncast, true_and, List.length_append, List.length_take, List.length_drop, List.length_replicate, List.length_cons, List.length_nil] at *; omega))) (by (try dsimp only); (first | omega | (simp only [ncast, true_and, List.length_append, List.length_take, List.length_drop, List.length_replicate, List.length_cons, List.length_nil] at *; omega))) ?_; conv => arg 4; cbv)
    | (refine Sat.pop ?_; conv => arg 4; cbv)
    | refine Sat.next (i + 1) ?_ ?_ (by (try dsimp only); (first | omega | (simp only [ncast, true_and, List.length_append, List.length_take, List.length_drop, List.length_replicate, List.length_cons, List.length_nil] at *; omega)))
    | refine Sat.done (led_bo (Eq.symm (decide_eq_false (fun e => ne_of_get (l := x.Configs) (r := y.Configs) (by assumption) (by assumption) (fun e => by subst e; first | contradiction | (simp_all; done)) (by rw [e])))))
    | refine Sat.done ?_
  · refine les_of ?_ ?_ rfl
    · repeat' (first | exact trivial | refine And.intro ?_ ?_ | exact .any _ | exact .undef | exact .bo _ | exact .nil | exact .emp | exact .int rfl | exact .sl rfl | exact .str rfl | exact .ptr (fun h => nomatch h) | exact .rptr _ | exact .clo rfl (fun i x y h => by simp at h) | exact .ref (fun h => nomatch h) (fun h => nomatch h) rfl rfl | exact lev_nil | refine lev_cons ?_ ?_ | refine LeV.agg rfl ?_)
    · repeat' (first | exact trivial | refine And.intro ?_ ?_ | exact Nat.le_of_ble_eq_true rfl | exact Or.inl ⟨_, rfl, .row rfl⟩ | refine Or.inl ⟨_, rfl, .row ?_⟩ | refine Or.inl ⟨_, rfl, .lit rfl ?_⟩ | exact Or.inr ⟨rfl, rfl⟩ | exact .any _ | exact .undef | exact .bo _ | exact .nil | exact .emp | exact .int rfl | exact .sl rfl | exact .str rfl | exact .ptr (fun h => nomatch h) | exact .rptr _ | exact .clo rfl (fun i x y h => by simp at h) | exact .ref (fun h => nomatch h) (fun h => nomatch h) rfl rfl | exact lev_nil | refine lev_cons ?_ ?_ | refine LeV.agg rfl ?_)
  · exact ⟨by (first | omega | (simp only [ncast, true_and, List.length_append, List.length_take, List.length_drop, List.length_replicate, List.length_cons, List.length_nil] at *; omega)), take_ext (by assumption) (by assumption) hi.2 (by first | assumption | (apply GConfig.ext <;> first | assumption))⟩
  have hxy : x.Configs = y.Configs := by
    have e1 : i = x.Configs.length := by (first | omega | (simp only [ncast, true_and, List.length_append, List.length_take, List.length_drop, List.length_replicate, List.length_cons, List.length_nil] at *; omega))
    have e2 : x.Configs.length = y.Configs.length := by (first | omega | (simp only [ncast, true_and, List.length_append, List.length_take, List.length_drop, List.length_replicate, List.length_cons, List.length_nil] at *; omega))
    have := hi.2
    rw [e1, List.take_length, e2, List.take_length] at this
    exact this
  refine led_bo ?_
  cases x; cases y
  simp_all

theorem w_impl_EqualMasterLogs (x y : GMasterLog) (hb : bMasterLog x) : Fn Pr n_impl_EqualMasterLogs [aGMasterLog x, aGMasterLog y] (.bo (decide (x = y))) := by
  refine k_impl_EqualMasterLogs.fn (by kernel_rfl) ?_
  conv => arg 4; cbv
  repeat' first
    | (refine Sat.cmp (fun h => ?_) (fun h => ?_) <;> simp only [Cmp.holds] at h <;> (conv => arg 4; cbv))
    | (refine Sat.callb (w_slices_EqualFunc_implConfigimplConfigimplConfigimplConfig x.Configs y.Configs n_impl_EqualConfigs (fun a b h => w_impl_EqualConfigs a b h) hb) rfl (by (repeat' (first | exact led_nil | refine led_cons ?_ ?_ | exact .same _ | exact .int rfl | exact .sl rfl | exact .str rfl | exact .nil rfl | exact .emp rfl | refine .agg rfl ?_ | exact .sl (by simp; done))); (first | done | fail)) (fun h => ?_) (fun h => ?_) <;> (try simp only [decide_eq_true_eq, decide_eq_false_iff_not] at h) <;> (conv => arg 4; cbv))
    | (refine Sat.call (w_slices_EqualFunc_implConfigimplConfigimplConfigimplConfig x.Configs y.Configs n_impl_EqualConfigs (fun a b h => w_impl_EqualConfigs a b h) hb) rfl (by (repeat' (first | exact led_nil | refine led_cons ?_ ?_ | exact .same _ | exact .int rfl | exact .sl rfl | exact .str rfl | exact .nil rfl | exact .emp rfl | refine .agg rfl ?_ | exact .sl (by simp; done))); (first | done | fail)) ?_; conv => arg 4; cbv)
    | (refine Sat.need (by (try dsimp only); (first | omega | (simp only [ncast, true_and, List.length_append, List.length_take, List.length_drop, List.length_replicate, List.length_cons, List.length_nil] at *; omega))) ?_; conv => arg 4; cbv)
    | (refine Sat.idxk (by assumption) ?_; conv => arg 4; cbv) | (refine Sat.idx (by (try dsimp only); (first | omega | (simp only [ncast, true_and, List.length_append, List.length_take, List.length_drop, List.length_replicate, List.length_cons, List.length_nil] at *; omega))) (fun v_ hv_ => ?_); conv => arg 4; cbv)
    | (refine Sat.ari64 (by (try dsimp only); (first | omega | (simp only [ncast, true_and, List.length_append, List.length_take, List.length_drop, List.length_replicate, List.length_cons, List.length_nil] at *; omega))) (by (try dsimp only); (first | omega | (simp only [ncast, true_and, List.length_append, List.length_take, List.length_drop, List.length_replicate, List.length_cons, List.length_nil] at *; omega))) ?_; conv => arg 4; cbv)
    | (refine Sat.pop ?_; conv => arg 4; cbv)
    | refine Sat.done ?_
  all_goals refine led_bo ?_
  all_goals (cases x; cases y; simp_all)

def fMasterLog (x : GMasterLog) : Prop := (x.Configs.length ≤ maxLen ∧ x.Configs.length * 64 ≤ 140737488351232 ∧ ∀ y ∈ x.Configs, fConfig y) ∧ (Lit.int .i64 x.Activated).wf = true
theorem fMasterLog_b {x : GMasterLog} (h : fMasterLog x) : bMasterLog x := ⟨h.1.2.1, fun y hy => fConfig_b (h.1.2.2 y hy)⟩

theorem w_laws_FnExactEqualMasterLogs (x y : GMasterLog) {G : Prop} (F : fMasterLog x ∧ fMasterLog y ∧ G) : Fn Pr n_laws_FnExactEqualMasterLogs [aGMasterLog x, aGMasterLog y] (.bo true) := by
  have hb := fMasterLog_b F.1
  have hb' := fMasterLog_b F.2.1
  have q0 := sMasterLog_rng (x := x) (n := 1048576)
  refine k_laws_FnExactEqualMasterLogs.fn (by kernel_rfl) ?_
  conv => arg 4; cbv
  repeat' first
    | (refine Sat.cmp (fun h => ?_) (fun h => ?_) <;> simp only [Cmp.holds] at h <;> (conv => arg 4; cbv))
    | (refine Sat.callb (w_laws_szMasterLog x 1048576 hb (by (first | omega | (simp only [ncast, true_and, List.length_append, List.length_take, List.length_drop, List.length_replicate, List.length_cons, List.length_nil] at *; omega)))) rfl (by (repeat' (first | exact led_nil | refine led_cons ?_ ?_ | exact .same _ | exact .int rfl | exact .sl rfl | exact .str rfl | exact .nil rfl | exact .emp rfl | refine .agg rfl ?_ | exact .sl (by simp; done))); (first | done | fail)) (fun h => ?_) (fun h => ?_) <;> (try simp only [decide_eq_true_eq, decide_eq_false_iff_not] at h) <;> (conv => arg 4; cbv))
    | (refine Sat.call (w_laws_szMasterLog x 1048576 hb (by (first | omega | (simp only [ncast, true_and, List.length_append, List.length_take, List.length_drop, List.length_replicate, List.length_cons, List.length_nil] at *; omega)))) rfl (by (repeat' (first | exact led_nil | refine led_cons ?_ ?_ | exact .same _ | exact .int rfl | exact .sl rfl | exact .str rfl | exact .nil rfl | exact .emp rfl | refine .agg rfl ?_ | exact .sl (by simp; done))); (first | done | fail)) ?_; conv => arg 4; cbv)
    | (refine Sat.callb (w_laws_szMasterLog y _ hb' (by (first | omega | (simp only [ncast, true_and, List.length_append, List.length_take, List.length_drop, List.length_replicate, List.length_cons, List.length_nil] at *; omega)))) rfl (by (repeat' (first | exact led_nil | refine led_cons ?_ ?_ | exact .same _ | exact .int rfl | exact .sl rfl | exact .str rfl | exact .nil rfl | exact .emp rfl | refine .agg rfl ?_ | exact .sl (by simp; done))); (first | done | fail)) (fun h => ?_) (fun h => ?_) <;> (try simp only [decide_eq_true_eq, decide_eq_false_iff_not] at h) <;> (conv => arg 4; cbv))
    | (refine Sat.call (w_laws_szMasterLog y _ hb' (by (first | omega | (simp only [ncast, true_and, List.length_append, List.length_take, List.length_drop, List.length_replicate, List.length_cons, List.length_nil] at *; omega)))) rfl (by (repeat' (first | exact led_nil | refine led_cons ?_ ?_ | exact .same _ | exact .int rfl | exact .sl rfl | exact .str rfl | exact .nil rfl | exact .emp rfl | refine .agg rfl ?_ | exact .sl (by simp; done))); (first | done | fail)) ?_; conv => arg 4; cbv)
    | (refine Sat.callb (w_laws_toMasterLog x hb) rfl (by (repeat' (first | exact led_nil | refine led_cons ?_ ?_ | exact .same _ | exact .int rfl | exact .sl rfl | exact .str rfl | exact .nil rfl | exact .emp rfl | refine .agg rfl ?_ | exact .sl (by simp; done))); (first | done | fail)) (fun h => ?_) (fun h => ?_) <;> (try simp only [decide_eq_true_eq, decide_eq_false_iff_not] at h) <;> (conv => arg 4; cbv))
    | (refine Sat.call (w_laws_toMasterLog x hb) rfl (by (repeat' (first | exact led_nil | refine led_cons ?_ ?_ | exact .same _ | exact .int rfl | exact .sl rfl | exact .str rfl | exact .nil rfl | exact .emp rfl | refine .agg rfl ?_ | exact .sl (by simp; done))); (first | done | fail)) ?_; conv => arg 4; cbv)
    | (refine Sat.callb (w_laws_toMasterLog y hb') rfl (by (repeat' (first | exact led_nil | refine led_cons ?_ ?_ | exact .same _ | exact .int rfl | exact .sl rfl | exact .str rfl | exact .nil rfl | exact .emp rfl | refine .agg rfl ?_ | exact .sl (by simp; done))); (first | done | fail)) (fun h => ?_) (fun h => ?_) <;> (try simp only [decide_eq_true_eq, decide_eq_false_iff_not] at h) <;> (conv => arg 4; cbv))
    | (refine Sat.call (w_laws_toMasterLog y hb') rfl (by (repeat' (first | exact led_nil | refine led_cons ?_ ?_ | exact .same _ | exact .int rfl | exact .sl rfl | exact .str rfl | exact .nil rfl | exact .emp rfl | refine .agg rfl ?_ | exact .sl (by simp; done))); (first | done | fail)) ?_; conv => arg 4; cbv)
    | (refine Sat.callb (w_spec_EqualMasterLogs x y hb) rfl (by (repeat' (first | exact led_nil | refine led_cons ?_ ?_ | exact .same _ | exact .int rfl | exact .sl rfl | exact .str rfl | exact .nil rfl | exact .emp rfl | refine .agg rfl ?_ | exact .sl (by simp; done))); (first | done | fail)) (fun h => ?_) (fun h => ?_) <;> (try simp only [decide_eq_true_eq, decide_eq_false_iff_not] at h) <;> (conv => arg 4; cbv))
    | (refine Sat.call (w_spec_EqualMasterLogs x y hb) rfl (by (repeat' (first | exact led_nil | refine led_cons ?_ ?_ | exact .same _ | exact .int rfl | exact .sl rfl | exact .str rfl | exact .nil rfl | exact .emp rfl | refine .agg rfl ?_ | exact .sl (by simp; done))); (first | done | fail)) ?_; conv => arg 4; cbv)
    | (refine Sat.callb (w_impl_EqualMasterLogs x y hb) rfl (by (repeat' (first | exact led_nil | refine led_cons ?_ ?_ | exact .same _ | exact .int rfl | exact .sl rfl | exact .str rfl | exact .nil rfl | exact .emp rfl | refine .agg rfl ?_ | exact .sl (by simp; done))); (first | done | fail)) (fun h => ?_) (fun h => ?_) <;> (try simp only [decide_eq_true_eq, decide_eq_false_iff_not] at h) <;> (conv => arg 4; cbv))
    | (refine Sat.call (w_impl_EqualMasterLogs x y hb) rfl (by (repeat' (first | exact led_nil | refine led_cons ?_ ?_ | exact .same _ | exact .int rfl | exact .sl rfl | exact .str rfl | exact .nil rfl | exact .emp rfl | refine .agg rfl ?_ | exact .sl (by simp; done))); (first | done | fail)) ?_; conv => arg 4; cbv)
    | (refine Sat.callb (w_laws_eqMasterLog x x hb) rfl (by (repeat' (first | exact led_nil | refine led_cons ?_ ?_ | exact .same _ | exact .int rfl | exact .sl rfl | exact .str rfl | exact .nil rfl | exact .emp rfl | refine .agg rfl ?_ | exact .sl (by simp; done))); (first | done | fail)) (fun h => ?_) (fun h => ?_) <;> (try simp only [decide_eq_true_eq, decide_eq_false_iff_not] at h) <;> (conv => arg 4; cbv))
    | (refine Sat.call (w_laws_eqMasterLog x x hb) rfl (by (repeat' (first | exact led_nil | refine led_cons ?_ ?_ | exact .same _ | exact .int rfl | exact .sl rfl | exact .str rfl | exact .nil rfl | exact .emp rfl | refine .agg rfl ?_ | exact .sl (by simp; done))); (first | done | fail)) ?_; conv => arg 4; cbv)
    | (refine Sat.callb (w_laws_eqMasterLog y y hb') rfl (by (repeat' (first | exact led_nil | refine led_cons ?_ ?_ | exact .same _ | exact .int rfl | exact .sl rfl | exact .str rfl | exact .nil rfl | exact .emp rfl | refine .agg rfl ?_ | exact .sl (by simp; done))); (first | done | fail)) (fun h => ?_) (fun h => ?_) <;> (try simp only [decide_eq_true_eq, decide_eq_false_iff_not] at h) <;> (conv => arg 4; cbv))
    | (refine Sat.call (w_laws_eqMasterLog y y hb') rfl (by (repeat' (first | exact led_nil | refine led_cons ?_ ?_ | exact .same _ | exact .int rfl | exact .sl rfl | exact .str rfl | exact .nil rfl | exact .emp rfl | refine .agg rfl ?_ | exact .sl (by simp; done))); (first | done | fail)) ?_; conv => arg 4; cbv)
    | (refine Sat.need (by (try dsimp only); (first | omega | (simp only [ncast, true_and, List.length_append, List.length_take, List.length_drop, List.length_replicate, List.length_cons, List.length_nil] at *; omega))) ?_; conv => arg 4; cbv)
    | (refine Sat.idxk (by assumption) ?_; conv => arg 4; cbv) | (refine Sat.idx (by (try dsimp only); (first | omega | (simp only [ncast, true_and, List.length_append, List.length_take, List.length_drop, List.length_replicate, List.length_cons, List.length_nil] at *; omega))) (fun v_ hv_ => ?_); conv => arg 4; cbv)
    | (refine Sat.ari64 (by (try dsimp only); (first | omega | (simp only [ncast, true_and, List.length_append, List.length_take, List.length_drop, List.length_replicate, List.length_cons, List.length_nil] at *; omega))) (by (try dsimp only); (first | omega | (simp only [ncast, true_and, List.length_append, List.length_take, List.length_drop, List.length_replicate, List.length_cons, List.length_nil] at *; omega))) ?_; conv => arg 4; cbv)
    | (refine Sat.pop ?_; conv => arg 4; cbv)
    | refine Sat.done ?_
  all_goals refine led_bo ?_
  all_goals first | rfl | (simp_all; done)

end Go.V.T
