/- Contracts of the functions that FnExactAccept reaches: what each returns. Conditions: those that each theorem states. -/
import Derived.Test.YtfbheccgpfddjaaMXAccept
namespace Go.V.T
open Go Go.V Go.RowKit
set_option maxRecDepth 100000
set_option linter.unusedVariables false
set_option linter.unusedSimpArgs false
@[ext] structure GConfig where
  Epoch : Int
  Primary : Int
  Replicas : List Int
  Witnesses : List Int
  deriving DecidableEq
def eGConfig (x : GConfig) : Nat → AV
  | 0 => .int .i64 (fun _ => x.Epoch)
  | 1 => .int .i64 (fun _ => x.Primary)
  | 2 => .sl 1 (encI .i64) (fun _ => x.Replicas)
  | 3 => .sl 1 (encI .i64) (fun _ => x.Witnesses)
  | _ => .any
abbrev cGConfig (x : GConfig) : List AV := [.int .i64 (fun _ => x.Epoch), .int .i64 (fun _ => x.Primary), .sl 1 (encI .i64) (fun _ => x.Replicas), .sl 1 (encI .i64) (fun _ => x.Witnesses)]
abbrev aGConfig (x : GConfig) : AV := .agg [.int .i64 (fun _ => x.Epoch), .int .i64 (fun _ => x.Primary), .sl 1 (encI .i64) (fun _ => x.Replicas), .sl 1 (encI .i64) (fun _ => x.Witnesses)]
@[ext] structure GAcceptor where
  Promised : Int
  Ballot : Int
  Value : GConfig
  deriving DecidableEq
def eGAcceptor (x : GAcceptor) : Nat → AV
  | 0 => .int .i64 (fun _ => x.Promised)
  | 1 => .int .i64 (fun _ => x.Ballot)
  | 2 => .int .i64 (fun _ => x.Value.Epoch)
  | 3 => .int .i64 (fun _ => x.Value.Primary)
  | 4 => .sl 1 (encI .i64) (fun _ => x.Value.Replicas)
  | 5 => .sl 1 (encI .i64) (fun _ => x.Value.Witnesses)
  | _ => .any
abbrev cGAcceptor (x : GAcceptor) : List AV := [.int .i64 (fun _ => x.Promised), .int .i64 (fun _ => x.Ballot), .int .i64 (fun _ => x.Value.Epoch), .int .i64 (fun _ => x.Value.Primary), .sl 1 (encI .i64) (fun _ => x.Value.Replicas), .sl 1 (encI .i64) (fun _ => x.Value.Witnesses)]
abbrev aGAcceptor (x : GAcceptor) : AV := .agg [.int .i64 (fun _ => x.Promised), .int .i64 (fun _ => x.Ballot), .int .i64 (fun _ => x.Value.Epoch), .int .i64 (fun _ => x.Value.Primary), .sl 1 (encI .i64) (fun _ => x.Value.Replicas), .sl 1 (encI .i64) (fun _ => x.Value.Witnesses)]

theorem w_spec_l1In (n a b : Int) : Fn Pr n_spec_l1In [.int .i64 (fun _ => n), .int .i64 (fun _ => a), .int .i64 (fun _ => b)] (.bo (decide (a ≤ n ∧ n ≤ b))) := by
  refine k_spec_l1In.fn (by kernel_rfl) ?_
  conv => arg 4; cbv
  repeat' first
    | (refine Sat.cmp (fun h => ?_) (fun h => ?_) <;> simp only [Cmp.holds] at h <;> (conv => arg 4; cbv))
    | (refine Sat.need (by (try dsimp only); (first | omega | (simp only [ncast, true_and, List.length_append, List.length_take, List.length_drop, List.length_replicate, List.length_cons, List.length_nil] at *; omega))) ?_; conv => arg 4; cbv)
    | (refine Sat.idxk (by assumption) ?_; conv => arg 4; cbv) | (refine Sat.idx (by (try dsimp only); (first | omega | (simp only [ncast, true_and, List.length_append, List.length_take, List.length_drop, List.length_replicate, List.length_cons, List.length_nil] at *; omega))) (fun v_ hv_ => ?_); conv => arg 4; cbv)
    | (refine Sat.ari64 (by (try dsimp only); (first | omega | (simp only [ncast, true_and, List.length_append, List.length_take, List.length_drop, List.length_replicate, List.length_cons, List.length_nil] at *; omega))) (by (try dsimp only); (first | omega | (simp only [ncast, true_and, List.length_append, List.length_take, List.length_drop, List.length_replicate, List.length_cons, List.length_nil] at *; omega))) ?_; conv => arg 4; cbv)
    | (refine Sat.pop ?_; conv => arg 4; cbv)
    | refine Sat.done ?_
  all_goals refine led_bo ?_ <;> simp <;> omega

theorem w_impl_within (n a b : Int) : Fn Pr n_impl_within [.int .i64 (fun _ => n), .int .i64 (fun _ => a), .int .i64 (fun _ => b)] (.bo (decide (a ≤ n ∧ n ≤ b))) := by
  refine k_impl_within.fn (by kernel_rfl) ?_
  conv => arg 4; cbv
  repeat' first
    | (refine Sat.cmp (fun h => ?_) (fun h => ?_) <;> simp only [Cmp.holds] at h <;> (conv => arg 4; cbv))
    | (refine Sat.need (by (try dsimp only); (first | omega | (simp only [ncast, true_and, List.length_append, List.length_take, List.length_drop, List.length_replicate, List.length_cons, List.length_nil] at *; omega))) ?_; conv => arg 4; cbv)
    | (refine Sat.idxk (by assumption) ?_; conv => arg 4; cbv) | (refine Sat.idx (by (try dsimp only); (first | omega | (simp only [ncast, true_and, List.length_append, List.length_take, List.length_drop, List.length_replicate, List.length_cons, List.length_nil] at *; omega))) (fun v_ hv_ => ?_); conv => arg 4; cbv)
    | (refine Sat.ari64 (by (try dsimp only); (first | omega | (simp only [ncast, true_and, List.length_append, List.length_take, List.length_drop, List.length_replicate, List.length_cons, List.length_nil] at *; omega))) (by (try dsimp only); (first | omega | (simp only [ncast, true_and, List.length_append, List.length_take, List.length_drop, List.length_replicate, List.length_cons, List.length_nil] at *; omega))) ?_; conv => arg 4; cbv)
    | (refine Sat.pop ?_; conv => arg 4; cbv)
    | refine Sat.done ?_
  all_goals refine led_bo ?_ <;> simp <;> omega

theorem take_ext {α : Type _} {l r : List α} {i : Nat} {x y : α} (hx : l[i]? = some x) (hy : r[i]? = some y) (h : l.take i = r.take i) (e : x = y) : l.take (i + 1) = r.take (i + 1) := by
  rw [List.take_add_one, List.take_add_one, hx, hy, h, e]
theorem ne_of_get {α : Type _} {l r : List α} {i : Nat} {x y : α} (hx : l[i]? = some x) (hy : r[i]? = some y) (h : ¬ x = y) : l ≠ r := fun e => h (by subst e; rw [hx] at hy; exact Option.some.inj hy)
theorem set_take {α : Type _} {l : List α} {i : Nat} {x z : α} (h : l[i]? = some x) : setAt (l.take i ++ List.replicate (l.length - i) z) i x = l.take (i + 1) ++ List.replicate (l.length - (i + 1)) z := by
  have hi := lt_of_get h
  have e : l.length - i = (l.length - (i + 1)) + 1 := by omega
  rw [setAt, e, List.replicate_succ, List.set_append_right _ _ (by simp; omega)]
  have : i - (l.take i).length = 0 := by simp; omega
  rw [this, List.set_cons_zero, List.take_add_one, h]
  simp
def szF (k : Nat) (n : Int) : Int := if n - k < 0 then -1 else n - k
theorem szF_rng {k : Nat} {n : Int} (hn : 0 ≤ n) : -1 ≤ szF k n ∧ szF k n ≤ n := by unfold szF; split <;> omega
theorem szF_le {k : Nat} {n : Int} (h : 0 ≤ szF k n) : (k : Int) ≤ n := by unfold szF at h; split at h <;> omega
def szL {α : Type} (f : α → Int → Int) : List α → Int → Int
  | [], n => n
  | x :: r, n => if f x n < 0 then -1 else szL f r (f x n)
theorem szL_rng {α : Type} {f : α → Int → Int} (hf : ∀ x n, 0 ≤ n → -1 ≤ f x n ∧ f x n ≤ n) : ∀ (l : List α) {n : Int}, 0 ≤ n → -1 ≤ szL f l n ∧ szL f l n ≤ n
  | [], n, h => by simp only [szL]; omega
  | x :: r, n, h => by
    rw [szL]
    have := hf x n h
    split
    · omega
    · have := szL_rng hf r (n := f x n) (by omega)
      omega
theorem drop_get {α : Type _} {l : List α} {i : Nat} {x : α} (h : l[i]? = some x) : l.drop i = x :: l.drop (i + 1) := by
  obtain ⟨hi, rfl⟩ := List.getElem?_eq_some_iff.1 h
  exact List.drop_eq_getElem_cons hi

def bIntS (x : List Int) : Prop := x.length * 8 ≤ 140737488351232

def sIntS (x : List Int) (n : Int) : Int := szF x.length n

theorem w_laws_toIntS (x : List Int) (hb : bIntS x) : Fn Pr n_laws_toIntS [.sl 1 (encI .i64) (fun _ => x)] (.sl 1 (encI .i64) (fun _ => x)) := by
  refine k_laws_toIntS.fn (by kernel_rfl) ?_
  have h0 : x.length * 8 ≤ 140737488351232 := hb
  conv => arg 4; cbv
  refine Sat.need (by (try dsimp only); (first | omega | (simp only [ncast, true_and, List.length_append, List.length_take, List.length_drop, List.length_replicate, List.length_cons, List.length_nil] at *; omega))) ?_
  conv => arg 4; cbv
  refine Sat.typ (encI .i64) 0 (by (repeat' (first | exact tnil | refine tcons ?_ ?_ | exact .same _ | exact .int rfl | exact .str rfl | exact .sl rfl | exact .nil rfl | (refine .sl ?_; simp; done))); (first | done | fail)) ?_
  conv => arg 4; cbv
  refine Sat.loopP (ι := Nat) (fun i => [(4, .int .i64 (fun _ => (i : Int)))]) (fun i => [(48, .row 1 (encI .i64) (fun _ => x.take i ++ List.replicate (x.length - i) 0) false)]) (fun i => i ≤ x.length) (fun i => x.length - i) 0 ?_ (by omega) (fun i hi => ?_)
  · refine les_of ?_ ?_ rfl
    · repeat' (first | exact trivial | refine And.intro ?_ ?_ | exact .any _ | exact .undef | exact .bo _ | exact .nil | exact .emp | exact .int rfl | exact .sl rfl | exact .str rfl | exact .ptr (fun h => nomatch h) | exact .rptr _ | exact .clo rfl (fun i x y h => by simp at h) | exact .ref (fun h => nomatch h) (fun h => nomatch h) rfl rfl | exact lev_nil | refine lev_cons ?_ ?_ | refine LeV.agg rfl ?_ | (simp; done))
    · repeat' (first | exact trivial | refine And.intro ?_ ?_ | exact Nat.le_of_ble_eq_true rfl | exact Or.inl ⟨_, rfl, .row rfl⟩ | refine Or.inl ⟨_, rfl, .row ?_⟩ | refine Or.inl ⟨_, rfl, .lit rfl ?_⟩ | exact Or.inr ⟨rfl, rfl⟩ | exact .any _ | exact .undef | exact .bo _ | exact .nil | exact .emp | exact .int rfl | exact .sl rfl | exact .str rfl | exact .ptr (fun h => nomatch h) | exact .rptr _ | exact .clo rfl (fun i x y h => by simp at h) | exact .ref (fun h => nomatch h) (fun h => nomatch h) rfl rfl | exact lev_nil | refine lev_cons ?_ ?_ | refine LeV.agg rfl ?_ | (simp; done))
  conv => arg 4; cbv
  repeat' first
    | (refine Sat.cmp (fun h => ?_) (fun h => ?_) <;> simp only [Cmp.holds] at h <;> (conv => arg 4; cbv))
    | (refine Sat.need (by (try dsimp only); (first | omega | (simp only [ncast, true_and, List.length_append, List.length_take, List.length_drop, List.length_replicate, List.length_cons, List.length_nil] at *; omega))) ?_; conv => arg 4; cbv)
    | (refine Sat.idxk (by assumption) ?_; conv => arg 4; cbv) | (refine Sat.idx (by (try dsimp only); (first | omega | (simp only [ncast, true_and, List.length_append, List.length_take, List.length_drop, List.length_replicate, List.length_cons, List.length_nil] at *; omega))) (fun v_ hv_ => ?_); conv => arg 4; cbv)
    | (refine Sat.ari64 (by (try dsimp only); (first | omega | (simp only [ncast, true_and, List.length_append, List.length_take, List.length_drop, List.length_replicate, List.length_cons, List.length_nil] at *; omega))) (by (try dsimp only); (first | omega | (simp only [ncast, true_and, List.length_append, List.length_take, List.length_drop, List.length_replicate, List.length_cons, List.length_nil] at *; omega))) ?_; conv => arg 4; cbv)
    | (refine Sat.pop ?_; conv => arg 4; cbv)
    | (refine Sat.typed _ (by (repeat' (first | exact tnil | refine tcons ?_ ?_ | exact .same _ | exact .int rfl | exact .str rfl | exact .sl rfl | exact .nil rfl | (refine .sl ?_; simp; done))); (first | done | fail)) ?_; conv => arg 4; cbv)
    | refine Sat.next (i + 1) ?_ (by (first | omega | (simp only [ncast, true_and, List.length_append, List.length_take, List.length_drop, List.length_replicate, List.length_cons, List.length_nil] at *; omega))) (by (first | omega | (simp only [ncast, true_and, List.length_append, List.length_take, List.length_drop, List.length_replicate, List.length_cons, List.length_nil] at *; omega)))
    | refine Sat.done ?_
  · refine les_of ?_ ?_ rfl
    · repeat' (first | exact trivial | refine And.intro ?_ ?_ | exact .any _ | exact .undef | exact .bo _ | exact .nil | exact .emp | exact .int rfl | exact .sl rfl | exact .str rfl | exact .ptr (fun h => nomatch h) | exact .rptr _ | exact .clo rfl (fun i x y h => by simp at h) | exact .ref (fun h => nomatch h) (fun h => nomatch h) rfl rfl | exact lev_nil | refine lev_cons ?_ ?_ | refine LeV.agg rfl ?_ | (simp only [Int.toNat_natCast, Nat.zero_add]; exact set_take (by assumption)))
    · repeat' (first | exact trivial | refine And.intro ?_ ?_ | exact Nat.le_of_ble_eq_true rfl | exact Or.inl ⟨_, rfl, .row rfl⟩ | refine Or.inl ⟨_, rfl, .row ?_⟩ | refine Or.inl ⟨_, rfl, .lit rfl ?_⟩ | exact Or.inr ⟨rfl, rfl⟩ | exact .any _ | exact .undef | exact .bo _ | exact .nil | exact .emp | exact .int rfl | exact .sl rfl | exact .str rfl | exact .ptr (fun h => nomatch h) | exact .rptr _ | exact .clo rfl (fun i x y h => by simp at h) | exact .ref (fun h => nomatch h) (fun h => nomatch h) rfl rfl | exact lev_nil | refine lev_cons ?_ ?_ | refine LeV.agg rfl ?_ | (simp only [Int.toNat_natCast, Nat.zero_add]; exact set_take (by assumption)))
  · refine .sl ?_
    have e : i = x.length := by (first | omega | (simp only [ncast, true_and, List.length_append, List.length_take, List.length_drop, List.length_replicate, List.length_cons, List.length_nil] at *; omega))
    subst e
    simp

theorem w_laws_eqIntS (x y : List Int) (hb : bIntS x) : Fn Pr n_laws_eqIntS [.sl 1 (encI .i64) (fun _ => x), .sl 1 (encI .i64) (fun _ => y)] (.bo (decide (x = y))) := by
  refine k_laws_eqIntS.fn (by kernel_rfl) ?_
  have h0 : x.length * 8 ≤ 140737488351232 := hb
  conv => arg 4; cbv
  refine Sat.cmp (fun hl => ?_) (fun hl => ?_) <;> simp only [Cmp.holds] at hl <;> (conv => arg 4; cbv)
  · refine Sat.loopP (ι := Nat) (fun i => [(5, .int .i64 (fun _ => (i : Int)))]) (fun i => []) (fun i => i ≤ x.length ∧ x.take i = y.take i) (fun i => x.length - i) 0 ?_ ⟨by omega, by simp⟩ (fun i hi => ?_)
    · refine les_of ?_ ?_ rfl
      · repeat' (first | exact trivial | refine And.intro ?_ ?_ | exact .any _ | exact .undef | exact .bo _ | exact .nil | exact .emp | exact .int rfl | exact .sl rfl | exact .str rfl | exact .ptr (fun h => nomatch h) | exact .rptr _ | exact .clo rfl (fun i x y h => by simp at h) | exact .ref (fun h => nomatch h) (fun h => nomatch h) rfl rfl | exact lev_nil | refine lev_cons ?_ ?_ | refine LeV.agg rfl ?_)
      · repeat' (first | exact trivial | refine And.intro ?_ ?_ | exact Nat.le_of_ble_eq_true rfl | exact Or.inl ⟨_, rfl, .row rfl⟩ | refine Or.inl ⟨_, rfl, .row ?_⟩ | refine Or.inl ⟨_, rfl, .lit rfl ?_⟩ | exact Or.inr ⟨rfl, rfl⟩ | exact .any _ | exact .undef | exact .bo _ | exact .nil | exact .emp | exact .int rfl | exact .sl rfl | exact .str rfl | exact .ptr (fun h => nomatch h) | exact .rptr _ | exact .clo rfl (fun i x y h => by simp at h) | exact .ref (fun h => nomatch h) (fun h => nomatch h) rfl rfl | exact lev_nil | refine lev_cons ?_ ?_ | refine LeV.agg rfl ?_)
    conv => arg 4; cbv
    repeat' first
      | (refine Sat.cmp (fun h => ?_) (fun h => ?_) <;> simp only [Cmp.holds] at h <;> (conv => arg 4; cbv))
      | (refine Sat.need (by (try dsimp only); (first | omega | (simp only [ncast, true_and, List.length_append, List.length_take, List.length_drop, List.length_replicate, List.length_cons, List.length_nil] at *; omega))) ?_; conv => arg 4; cbv)
      | (refine Sat.idxk (by assumption) ?_; conv => arg 4; cbv) | (refine Sat.idx (by (try dsimp only); (first | omega | (simp only [ncast, true_and, List.length_append, List.length_take, List.length_drop, List.length_replicate, List.length_cons, List.length_nil] at *; omega))) (fun v_ hv_ => ?_); conv => arg 4; cbv)
      | (refine Sat.ari64 (by (try dsimp only); (first | omega | (simp only [ncast, true_and, List.length_append, List.length_take, List.length_drop, List.length_replicate, List.length_cons, List.length_nil] at *; omega))) (by (try dsimp only); (first | omega | (simp only [ncast, true_and, List.length_append, List.length_take, List.length_drop, List.length_replicate, List.length_cons, List.length_nil] at *; omega))) ?_; conv => arg 4; cbv)
      | (refine Sat.pop ?_; conv => arg 4; cbv)
      | refine Sat.next (i + 1) ?_ ?_ (by (try dsimp only); (first | omega | (simp only [ncast, true_and, List.length_append, List.length_take, List.length_drop, List.length_replicate, List.length_cons, List.length_nil] at *; omega)))
      | refine Sat.done (led_bo (Eq.symm (decide_eq_false (ne_of_get (by assumption) (by assumption) (fun e => by subst e; first | contradiction | (simp_all; done))))))
      | refine Sat.done ?_
    · refine les_of ?_ ?_ rfl
      · repeat' (first | exact trivial | refine And.intro ?_ ?_ | exact .any _ | exact .undef | exact .bo _ | exact .nil | exact .emp | exact .int rfl | exact .sl rfl | exact .str rfl | exact .ptr (fun h => nomatch h) | exact .rptr _ | exact .clo rfl (fun i x y h => by simp at h) | exact .ref (fun h => nomatch h) (fun h => nomatch h) rfl rfl | exact lev_nil | refine lev_cons ?_ ?_ | refine LeV.agg rfl ?_)
      · repeat' (first | exact trivial | refine And.intro ?_ ?_ | exact Nat.le_of_ble_eq_true rfl | exact Or.inl ⟨_, rfl, .row rfl⟩ | refine Or.inl ⟨_, rfl, .row ?_⟩ | refine Or.inl ⟨_, rfl, .lit rfl ?_⟩ | exact Or.inr ⟨rfl, rfl⟩ | exact .any _ | exact .undef | exact .bo _ | exact .nil | exact .emp | exact .int rfl | exact .sl rfl | exact .str rfl | exact .ptr (fun h => nomatch h) | exact .rptr _ | exact .clo rfl (fun i x y h => by simp at h) | exact .ref (fun h => nomatch h) (fun h => nomatch h) rfl rfl | exact lev_nil | refine lev_cons ?_ ?_ | refine LeV.agg rfl ?_)
    · exact ⟨by (first | omega | (simp only [ncast, true_and, List.length_append, List.length_take, List.length_drop, List.length_replicate, List.length_cons, List.length_nil] at *; omega)), take_ext (by assumption) (by assumption) hi.2 (by assumption)⟩
    · refine led_bo ?_
      have e1 : i = x.length := by (first | omega | (simp only [ncast, true_and, List.length_append, List.length_take, List.length_drop, List.length_replicate, List.length_cons, List.length_nil] at *; omega))
      have e2 : x.length = y.length := by (first | omega | (simp only [ncast, true_and, List.length_append, List.length_take, List.length_drop, List.length_replicate, List.length_cons, List.length_nil] at *; omega))
      have := hi.2
      rw [e1, List.take_length, e2, List.take_length] at this
      simp [this]
  · refine Sat.done (led_bo ?_)
    have : x ≠ y := fun e => hl (by rw [e])
    simp [this]

theorem sIntS_rng {x : List Int} {n : Int} (hn : 0 ≤ n) : -1 ≤ sIntS x n ∧ sIntS x n ≤ n := by
  exact szF_rng hn
theorem w_laws_szIntS (x : List Int) (n : Int) (hb : bIntS x) (hn : 0 ≤ n ∧ n ≤ 1048576) : Fn Pr n_laws_szIntS [.sl 1 (encI .i64) (fun _ => x), .int .i64 (fun _ => n)] (.int .i64 (fun _ => sIntS x n)) := by
  refine k_laws_szIntS.fn (by kernel_rfl) ?_
  have h0 : x.length * 8 ≤ 140737488351232 := hb
  conv => arg 4; cbv
  repeat' first
    | (refine Sat.cmp (fun h => ?_) (fun h => ?_) <;> simp only [Cmp.holds] at h <;> (conv => arg 4; cbv))
    | (refine Sat.need (by (try dsimp only); (first | omega | (simp only [ncast, true_and, List.length_append, List.length_take, List.length_drop, List.length_replicate, List.length_cons, List.length_nil] at *; omega))) ?_; conv => arg 4; cbv)
    | (refine Sat.idxk (by assumption) ?_; conv => arg 4; cbv) | (refine Sat.idx (by (try dsimp only); (first | omega | (simp only [ncast, true_and, List.length_append, List.length_take, List.length_drop, List.length_replicate, List.length_cons, List.length_nil] at *; omega))) (fun v_ hv_ => ?_); conv => arg 4; cbv)
    | (refine Sat.ari64 (by (try dsimp only); (first | omega | (simp only [ncast, true_and, List.length_append, List.length_take, List.length_drop, List.length_replicate, List.length_cons, List.length_nil] at *; omega))) (by (try dsimp only); (first | omega | (simp only [ncast, true_and, List.length_append, List.length_take, List.length_drop, List.length_replicate, List.length_cons, List.length_nil] at *; omega))) ?_; conv => arg 4; cbv)
    | (refine Sat.pop ?_; conv => arg 4; cbv)
    | refine Sat.done ?_
  all_goals refine .int ?_
  all_goals (simp only [sIntS, szF, ncast] at *; split <;> omega)

def bConfig (x : GConfig) : Prop := bIntS x.Replicas ∧ bIntS x.Witnesses

def sConfig (x : GConfig) (n : Int) : Int := if (sIntS x.Replicas n) < 0 then -1 else if (sIntS x.Witnesses (sIntS x.Replicas n)) < 0 then -1 else (sIntS x.Witnesses (sIntS x.Replicas n))

theorem w_laws_toConfig (x : GConfig) (hb : bConfig x) : Fn Pr n_laws_toConfig [aGConfig x] (aGConfig x) := by
  refine k_laws_toConfig.fn (by kernel_rfl) ?_
  conv => arg 4; cbv
  repeat' first
    | (refine Sat.cmp (fun h => ?_) (fun h => ?_) <;> simp only [Cmp.holds] at h <;> (conv => arg 4; cbv))
    | (refine Sat.callb (w_laws_toIntS x.Replicas hb.1) rfl (by (repeat' (first | exact led_nil | refine led_cons ?_ ?_ | exact .same _ | exact .int rfl | exact .sl rfl | exact .str rfl | exact .nil rfl | exact .emp rfl | refine .agg rfl ?_ | refine .tup rfl ?_ | (refine .sl ?_; simp; done))); (first | done | fail)) (fun h => ?_) (fun h => ?_) <;> (try simp only [decide_eq_true_eq, decide_eq_false_iff_not] at h) <;> (conv => arg 4; cbv))
    | (refine Sat.call (w_laws_toIntS x.Replicas hb.1) rfl (by (repeat' (first | exact led_nil | refine led_cons ?_ ?_ | exact .same _ | exact .int rfl | exact .sl rfl | exact .str rfl | exact .nil rfl | exact .emp rfl | refine .agg rfl ?_ | refine .tup rfl ?_ | (refine .sl ?_; simp; done))); (first | done | fail)) ?_; conv => arg 4; cbv)
    | (refine Sat.callb (w_laws_toIntS x.Witnesses hb.2) rfl (by (repeat' (first | exact led_nil | refine led_cons ?_ ?_ | exact .same _ | exact .int rfl | exact .sl rfl | exact .str rfl | exact .nil rfl | exact .emp rfl | refine .agg rfl ?_ | refine .tup rfl ?_ | (refine .sl ?_; simp; done))); (first | done | fail)) (fun h => ?_) (fun h => ?_) <;> (try simp only [decide_eq_true_eq, decide_eq_false_iff_not] at h) <;> (conv => arg 4; cbv))
    | (refine Sat.call (w_laws_toIntS x.Witnesses hb.2) rfl (by (repeat' (first | exact led_nil | refine led_cons ?_ ?_ | exact .same _ | exact .int rfl | exact .sl rfl | exact .str rfl | exact .nil rfl | exact .emp rfl | refine .agg rfl ?_ | refine .tup rfl ?_ | (refine .sl ?_; simp; done))); (first | done | fail)) ?_; conv => arg 4; cbv)
    | (refine Sat.need (by (try dsimp only); (first | omega | (simp only [ncast, true_and, List.length_append, List.length_take, List.length_drop, List.length_replicate, List.length_cons, List.length_nil] at *; omega))) ?_; conv => arg 4; cbv)
    | (refine Sat.idxk (by assumption) ?_; conv => arg 4; cbv) | (refine Sat.idx (by (try dsimp only); (first | omega | (simp only [ncast, true_and, List.length_append, List.length_take, List.length_drop, List.length_replicate, List.length_cons, List.length_nil] at *; omega))) (fun v_ hv_ => ?_); conv => arg 4; cbv)
    | (refine Sat.ari64 (by (try dsimp only); (first | omega | (simp only [ncast, true_and, List.length_append, List.length_take, List.length_drop, List.length_replicate, List.length_cons, List.length_nil] at *; omega))) (by (try dsimp only); (first | omega | (simp only [ncast, true_and, List.length_append, List.length_take, List.length_drop, List.length_replicate, List.length_cons, List.length_nil] at *; omega))) ?_; conv => arg 4; cbv)
    | (refine Sat.pop ?_; conv => arg 4; cbv)
    | refine Sat.done ?_
  all_goals refine .agg rfl ?_
  all_goals (repeat' first | exact led_nil | refine led_cons ?_ ?_ | exact .same _ | exact .int rfl | exact .str rfl | exact .sl rfl | exact .nil rfl | (refine .sl ?_; simp; done))

theorem w_laws_eqConfig (x y : GConfig) (hb : bConfig x) : Fn Pr n_laws_eqConfig [aGConfig x, aGConfig y] (.bo (decide (x = y))) := by
  refine k_laws_eqConfig.fn (by kernel_rfl) ?_
  conv => arg 4; cbv
  repeat' first
    | (refine Sat.cmp (fun h => ?_) (fun h => ?_) <;> simp only [Cmp.holds] at h <;> (conv => arg 4; cbv))
    | (refine Sat.callb (w_laws_eqIntS x.Replicas y.Replicas hb.1) rfl (by (repeat' (first | exact led_nil | refine led_cons ?_ ?_ | exact .same _ | exact .int rfl | exact .sl rfl | exact .str rfl | exact .nil rfl | exact .emp rfl | refine .agg rfl ?_ | refine .tup rfl ?_ | (refine .sl ?_; simp; done))); (first | done | fail)) (fun h => ?_) (fun h => ?_) <;> (try simp only [decide_eq_true_eq, decide_eq_false_iff_not] at h) <;> (conv => arg 4; cbv))
    | (refine Sat.call (w_laws_eqIntS x.Replicas y.Replicas hb.1) rfl (by (repeat' (first | exact led_nil | refine led_cons ?_ ?_ | exact .same _ | exact .int rfl | exact .sl rfl | exact .str rfl | exact .nil rfl | exact .emp rfl | refine .agg rfl ?_ | refine .tup rfl ?_ | (refine .sl ?_; simp; done))); (first | done | fail)) ?_; conv => arg 4; cbv)
    | (refine Sat.callb (w_laws_eqIntS x.Witnesses y.Witnesses hb.2) rfl (by (repeat' (first | exact led_nil | refine led_cons ?_ ?_ | exact .same _ | exact .int rfl | exact .sl rfl | exact .str rfl | exact .nil rfl | exact .emp rfl | refine .agg rfl ?_ | refine .tup rfl ?_ | (refine .sl ?_; simp; done))); (first | done | fail)) (fun h => ?_) (fun h => ?_) <;> (try simp only [decide_eq_true_eq, decide_eq_false_iff_not] at h) <;> (conv => arg 4; cbv))
    | (refine Sat.call (w_laws_eqIntS x.Witnesses y.Witnesses hb.2) rfl (by (repeat' (first | exact led_nil | refine led_cons ?_ ?_ | exact .same _ | exact .int rfl | exact .sl rfl | exact .str rfl | exact .nil rfl | exact .emp rfl | refine .agg rfl ?_ | refine .tup rfl ?_ | (refine .sl ?_; simp; done))); (first | done | fail)) ?_; conv => arg 4; cbv)
    | (refine Sat.need (by (try dsimp only); (first | omega | (simp only [ncast, true_and, List.length_append, List.length_take, List.length_drop, List.length_replicate, List.length_cons, List.length_nil] at *; omega))) ?_; conv => arg 4; cbv)
    | (refine Sat.idxk (by assumption) ?_; conv => arg 4; cbv) | (refine Sat.idx (by (try dsimp only); (first | omega | (simp only [ncast, true_and, List.length_append, List.length_take, List.length_drop, List.length_replicate, List.length_cons, List.length_nil] at *; omega))) (fun v_ hv_ => ?_); conv => arg 4; cbv)
    | (refine Sat.ari64 (by (try dsimp only); (first | omega | (simp only [ncast, true_and, List.length_append, List.length_take, List.length_drop, List.length_replicate, List.length_cons, List.length_nil] at *; omega))) (by (try dsimp only); (first | omega | (simp only [ncast, true_and, List.length_append, List.length_take, List.length_drop, List.length_replicate, List.length_cons, List.length_nil] at *; omega))) ?_; conv => arg 4; cbv)
    | (refine Sat.pop ?_; conv => arg 4; cbv)
    | refine Sat.done ?_
  all_goals refine led_bo ?_
  all_goals (cases x; cases y; simp_all)

theorem sConfig_rng {x : GConfig} {n : Int} (hn : 0 ≤ n) : -1 ≤ sConfig x n ∧ sConfig x n ≤ n := by
  unfold sConfig
  have q0 := sIntS_rng (x := x.Replicas) (n := n)
  have q1 := sIntS_rng (x := x.Witnesses) (n := (sIntS x.Replicas n))
  repeat' split
  all_goals first | omega | skip
theorem w_laws_szConfig (x : GConfig) (n : Int) (hb : bConfig x) (hn : 0 ≤ n ∧ n ≤ 1048576) : Fn Pr n_laws_szConfig [aGConfig x, .int .i64 (fun _ => n)] (.int .i64 (fun _ => sConfig x n)) := by
  refine k_laws_szConfig.fn (by kernel_rfl) ?_
  have q0 := sIntS_rng (x := x.Replicas) (n := n)
  have q1 := sIntS_rng (x := x.Witnesses) (n := (sIntS x.Replicas n))
  conv => arg 4; cbv
  repeat' first
    | (refine Sat.cmp (fun h => ?_) (fun h => ?_) <;> simp only [Cmp.holds] at h <;> (conv => arg 4; cbv))
    | (refine Sat.callb (w_laws_szIntS x.Replicas _ hb.1 (by (first | omega | (simp only [ncast, true_and, List.length_append, List.length_take, List.length_drop, List.length_replicate, List.length_cons, List.length_nil] at *; omega)))) rfl (by (repeat' (first | exact led_nil | refine led_cons ?_ ?_ | exact .same _ | exact .int rfl | exact .sl rfl | exact .str rfl | exact .nil rfl | exact .emp rfl | refine .agg rfl ?_ | refine .tup rfl ?_ | (refine .sl ?_; simp; done))); (first | done | fail)) (fun h => ?_) (fun h => ?_) <;> (try simp only [decide_eq_true_eq, decide_eq_false_iff_not] at h) <;> (conv => arg 4; cbv))
    | (refine Sat.call (w_laws_szIntS x.Replicas _ hb.1 (by (first | omega | (simp only [ncast, true_and, List.length_append, List.length_take, List.length_drop, List.length_replicate, List.length_cons, List.length_nil] at *; omega)))) rfl (by (repeat' (first | exact led_nil | refine led_cons ?_ ?_ | exact .same _ | exact .int rfl | exact .sl rfl | exact .str rfl | exact .nil rfl | exact .emp rfl | refine .agg rfl ?_ | refine .tup rfl ?_ | (refine .sl ?_; simp; done))); (first | done | fail)) ?_; conv => arg 4; cbv)
    | (refine Sat.callb (w_laws_szIntS x.Witnesses _ hb.2 (by (first | omega | (simp only [ncast, true_and, List.length_append, List.length_take, List.length_drop, List.length_replicate, List.length_cons, List.length_nil] at *; omega)))) rfl (by (repeat' (first | exact led_nil | refine led_cons ?_ ?_ | exact .same _ | exact .int rfl | exact .sl rfl | exact .str rfl | exact .nil rfl | exact .emp rfl | refine .agg rfl ?_ | refine .tup rfl ?_ | (refine .sl ?_; simp; done))); (first | done | fail)) (fun h => ?_) (fun h => ?_) <;> (try simp only [decide_eq_true_eq, decide_eq_false_iff_not] at h) <;> (conv => arg 4; cbv))
    | (refine Sat.call (w_laws_szIntS x.Witnesses _ hb.2 (by (first | omega | (simp only [ncast, true_and, List.length_append, List.length_take, List.length_drop, List.length_replicate, List.length_cons, List.length_nil] at *; omega)))) rfl (by (repeat' (first | exact led_nil | refine led_cons ?_ ?_ | exact .same _ | exact .int rfl | exact .sl rfl | exact .str rfl | exact .nil rfl | exact .emp rfl | refine .agg rfl ?_ | refine .tup rfl ?_ | (refine .sl ?_; simp; done))); (first | done | fail)) ?_; conv => arg 4; cbv)
    | (refine Sat.need (by (try dsimp only); (first | omega | (simp only [ncast, true_and, List.length_append, List.length_take, List.length_drop, List.length_replicate, List.length_cons, List.length_nil] at *; omega))) ?_; conv => arg 4; cbv)
    | (refine Sat.idxk (by assumption) ?_; conv => arg 4; cbv) | (refine Sat.idx (by (try dsimp only); (first | omega | (simp only [ncast, true_and, List.length_append, List.length_take, List.length_drop, List.length_replicate, List.length_cons, List.length_nil] at *; omega))) (fun v_ hv_ => ?_); conv => arg 4; cbv)
    | (refine Sat.ari64 (by (try dsimp only); (first | omega | (simp only [ncast, true_and, List.length_append, List.length_take, List.length_drop, List.length_replicate, List.length_cons, List.length_nil] at *; omega))) (by (try dsimp only); (first | omega | (simp only [ncast, true_and, List.length_append, List.length_take, List.length_drop, List.length_replicate, List.length_cons, List.length_nil] at *; omega))) ?_; conv => arg 4; cbv)
    | (refine Sat.pop ?_; conv => arg 4; cbv)
    | refine Sat.done ?_
  all_goals refine .int ?_
  all_goals (simp only [sConfig]; repeat' split)
  all_goals first | rfl | omega

def bAcceptor (x : GAcceptor) : Prop := bConfig x.Value

def sAcceptor (x : GAcceptor) (n : Int) : Int := if (sConfig x.Value n) < 0 then -1 else (sConfig x.Value n)

theorem w_laws_toAcceptor (x : GAcceptor) (hb : bAcceptor x) : Fn Pr n_laws_toAcceptor [aGAcceptor x] (aGAcceptor x) := by
  refine k_laws_toAcceptor.fn (by kernel_rfl) ?_
  conv => arg 4; cbv
  repeat' first
    | (refine Sat.cmp (fun h => ?_) (fun h => ?_) <;> simp only [Cmp.holds] at h <;> (conv => arg 4; cbv))
    | (refine Sat.callb (w_laws_toConfig x.Value hb) rfl (by (repeat' (first | exact led_nil | refine led_cons ?_ ?_ | exact .same _ | exact .int rfl | exact .sl rfl | exact .str rfl | exact .nil rfl | exact .emp rfl | refine .agg rfl ?_ | refine .tup rfl ?_ | (refine .sl ?_; simp; done))); (first | done | fail)) (fun h => ?_) (fun h => ?_) <;> (try simp only [decide_eq_true_eq, decide_eq_false_iff_not] at h) <;> (conv => arg 4; cbv))
    | (refine Sat.call (w_laws_toConfig x.Value hb) rfl (by (repeat' (first | exact led_nil | refine led_cons ?_ ?_ | exact .same _ | exact .int rfl | exact .sl rfl | exact .str rfl | exact .nil rfl | exact .emp rfl | refine .agg rfl ?_ | refine .tup rfl ?_ | (refine .sl ?_; simp; done))); (first | done | fail)) ?_; conv => arg 4; cbv)
    | (refine Sat.need (by (try dsimp only); (first | omega | (simp only [ncast, true_and, List.length_append, List.length_take, List.length_drop, List.length_replicate, List.length_cons, List.length_nil] at *; omega))) ?_; conv => arg 4; cbv)
    | (refine Sat.idxk (by assumption) ?_; conv => arg 4; cbv) | (refine Sat.idx (by (try dsimp only); (first | omega | (simp only [ncast, true_and, List.length_append, List.length_take, List.length_drop, List.length_replicate, List.length_cons, List.length_nil] at *; omega))) (fun v_ hv_ => ?_); conv => arg 4; cbv)
    | (refine Sat.ari64 (by (try dsimp only); (first | omega | (simp only [ncast, true_and, List.length_append, List.length_take, List.length_drop, List.length_replicate, List.length_cons, List.length_nil] at *; omega))) (by (try dsimp only); (first | omega | (simp only [ncast, true_and, List.length_append, List.length_take, List.length_drop, List.length_replicate, List.length_cons, List.length_nil] at *; omega))) ?_; conv => arg 4; cbv)
    | (refine Sat.pop ?_; conv => arg 4; cbv)
    | refine Sat.done ?_
  all_goals refine .agg rfl ?_
  all_goals (repeat' first | exact led_nil | refine led_cons ?_ ?_ | exact .same _ | exact .int rfl | exact .str rfl | exact .sl rfl | exact .nil rfl | (refine .sl ?_; simp; done))

theorem w_laws_eqAcceptor (x y : GAcceptor) (hb : bAcceptor x) : Fn Pr n_laws_eqAcceptor [aGAcceptor x, aGAcceptor y] (.bo (decide (x = y))) := by
  refine k_laws_eqAcceptor.fn (by kernel_rfl) ?_
  conv => arg 4; cbv
  repeat' first
    | (refine Sat.cmp (fun h => ?_) (fun h => ?_) <;> simp only [Cmp.holds] at h <;> (conv => arg 4; cbv))
    | (refine Sat.callb (w_laws_eqConfig x.Value y.Value hb) rfl (by (repeat' (first | exact led_nil | refine led_cons ?_ ?_ | exact .same _ | exact .int rfl | exact .sl rfl | exact .str rfl | exact .nil rfl | exact .emp rfl | refine .agg rfl ?_ | refine .tup rfl ?_ | (refine .sl ?_; simp; done))); (first | done | fail)) (fun h => ?_) (fun h => ?_) <;> (try simp only [decide_eq_true_eq, decide_eq_false_iff_not] at h) <;> (conv => arg 4; cbv))
    | (refine Sat.call (w_laws_eqConfig x.Value y.Value hb) rfl (by (repeat' (first | exact led_nil | refine led_cons ?_ ?_ | exact .same _ | exact .int rfl | exact .sl rfl | exact .str rfl | exact .nil rfl | exact .emp rfl | refine .agg rfl ?_ | refine .tup rfl ?_ | (refine .sl ?_; simp; done))); (first | done | fail)) ?_; conv => arg 4; cbv)
    | (refine Sat.need (by (try dsimp only); (first | omega | (simp only [ncast, true_and, List.length_append, List.length_take, List.length_drop, List.length_replicate, List.length_cons, List.length_nil] at *; omega))) ?_; conv => arg 4; cbv)
    | (refine Sat.idxk (by assumption) ?_; conv => arg 4; cbv) | (refine Sat.idx (by (try dsimp only); (first | omega | (simp only [ncast, true_and, List.length_append, List.length_take, List.length_drop, List.length_replicate, List.length_cons, List.length_nil] at *; omega))) (fun v_ hv_ => ?_); conv => arg 4; cbv)
    | (refine Sat.ari64 (by (try dsimp only); (first | omega | (simp only [ncast, true_and, List.length_append, List.length_take, List.length_drop, List.length_replicate, List.length_cons, List.length_nil] at *; omega))) (by (try dsimp only); (first | omega | (simp only [ncast, true_and, List.length_append, List.length_take, List.length_drop, List.length_replicate, List.length_cons, List.length_nil] at *; omega))) ?_; conv => arg 4; cbv)
    | (refine Sat.pop ?_; conv => arg 4; cbv)
    | refine Sat.done ?_
  all_goals refine led_bo ?_
  all_goals (cases x; cases y; simp_all)

theorem sAcceptor_rng {x : GAcceptor} {n : Int} (hn : 0 ≤ n) : -1 ≤ sAcceptor x n ∧ sAcceptor x n ≤ n := by
  unfold sAcceptor
  have q0 := sConfig_rng (x := x.Value) (n := n)
  repeat' split
  all_goals first | omega | skip
theorem w_laws_szAcceptor (x : GAcceptor) (n : Int) (hb : bAcceptor x) (hn : 0 ≤ n ∧ n ≤ 1048576) : Fn Pr n_laws_szAcceptor [aGAcceptor x, .int .i64 (fun _ => n)] (.int .i64 (fun _ => sAcceptor x n)) := by
  refine k_laws_szAcceptor.fn (by kernel_rfl) ?_
  have q0 := sConfig_rng (x := x.Value) (n := n)
  conv => arg 4; cbv
  repeat' first
    | (refine Sat.cmp (fun h => ?_) (fun h => ?_) <;> simp only [Cmp.holds] at h <;> (conv => arg 4; cbv))
    | (refine Sat.callb (w_laws_szConfig x.Value _ hb (by (first | omega | (simp only [ncast, true_and, List.length_append, List.length_take, List.length_drop, List.length_replicate, List.length_cons, List.length_nil] at *; omega)))) rfl (by (repeat' (first | exact led_nil | refine led_cons ?_ ?_ | exact .same _ | exact .int rfl | exact .sl rfl | exact .str rfl | exact .nil rfl | exact .emp rfl | refine .agg rfl ?_ | refine .tup rfl ?_ | (refine .sl ?_; simp; done))); (first | done | fail)) (fun h => ?_) (fun h => ?_) <;> (try simp only [decide_eq_true_eq, decide_eq_false_iff_not] at h) <;> (conv => arg 4; cbv))
    | (refine Sat.call (w_laws_szConfig x.Value _ hb (by (first | omega | (simp only [ncast, true_and, List.length_append, List.length_take, List.length_drop, List.length_replicate, List.length_cons, List.length_nil] at *; omega)))) rfl (by (repeat' (first | exact led_nil | refine led_cons ?_ ?_ | exact .same _ | exact .int rfl | exact .sl rfl | exact .str rfl | exact .nil rfl | exact .emp rfl | refine .agg rfl ?_ | refine .tup rfl ?_ | (refine .sl ?_; simp; done))); (first | done | fail)) ?_; conv => arg 4; cbv)
    | (refine Sat.need (by (try dsimp only); (first | omega | (simp only [ncast, true_and, List.length_append, List.length_take, List.length_drop, List.length_replicate, List.length_cons, List.length_nil] at *; omega))) ?_; conv => arg 4; cbv)
    | (refine Sat.idxk (by assumption) ?_; conv => arg 4; cbv) | (refine Sat.idx (by (try dsimp only); (first | omega | (simp only [ncast, true_and, List.length_append, List.length_take, List.length_drop, List.length_replicate, List.length_cons, List.length_nil] at *; omega))) (fun v_ hv_ => ?_); conv => arg 4; cbv)
    | (refine Sat.ari64 (by (try dsimp only); (first | omega | (simp only [ncast, true_and, List.length_append, List.length_take, List.length_drop, List.length_replicate, List.length_cons, List.length_nil] at *; omega))) (by (try dsimp only); (first | omega | (simp only [ncast, true_and, List.length_append, List.length_take, List.length_drop, List.length_replicate, List.length_cons, List.length_nil] at *; omega))) ?_; conv => arg 4; cbv)
    | (refine Sat.pop ?_; conv => arg 4; cbv)
    | refine Sat.done ?_
  all_goals refine .int ?_
  all_goals (simp only [sAcceptor]; repeat' split)
  all_goals first | rfl | omega

/-- The place of the first that holds; -1 where none does. -/
def idxF {α : Type} (p : α → Bool) : List α → Int
  | [] => -1
  | x :: r => if p x = true then 0 else if idxF p r < 0 then -1 else idxF p r + 1
theorem idxF_any {α : Type} {p : α → Bool} : ∀ {l : List α}, (0 ≤ idxF p l ↔ l.any p = true) ∧ -1 ≤ idxF p l
  | [] => by simp [idxF]
  | x :: r => by
    have := idxF_any (p := p) (l := r)
    rw [idxF, List.any_cons]
    by_cases h : p x = true
    · simp [h]
    · rw [if_neg h]
      simp only [Bool.not_eq_true] at h
      rw [h, Bool.false_or, ← this.1]
      split <;> omega
theorem idxF_step {α : Type} {p : α → Bool} {l : List α} {i : Nat} {x : α} (hx : l[i]? = some x) {k : Int} (h : k = if idxF p (l.drop i) < 0 then -1 else idxF p (l.drop i) + i) (hp : p x = false) : k = if idxF p (l.drop (i + 1)) < 0 then -1 else idxF p (l.drop (i + 1)) + (i + 1 : Nat) := by
  simp only [drop_get hx, idxF, hp, Bool.false_eq_true, if_false] at h
  rw [h]
  have := (idxF_any (p := p) (l := l.drop (i + 1))).2
  split <;> split <;> omega
theorem idxF_hit {α : Type} {p : α → Bool} {l : List α} {i : Nat} {x : α} (hx : l[i]? = some x) {k : Int} (h : k = if idxF p (l.drop i) < 0 then -1 else idxF p (l.drop i) + i) (hp : p x = true) : (i : Int) = k := by
  rw [drop_get hx, idxF, if_pos hp] at h
  rw [h]
  simp

theorem w_spec_EqualServers (x y : List Int) (hb : bIntS x) : Fn Pr n_spec_EqualServers [.sl 1 (encI .i64) (fun _ => x), .sl 1 (encI .i64) (fun _ => y)] (.bo (decide (x = y))) := by
  refine k_spec_EqualServers.fn (by kernel_rfl) ?_
  have h0 : x.length * 8 ≤ 140737488351232 := hb
  conv => arg 4; cbv
  refine Sat.cmp (fun hl => ?_) (fun hl => ?_) <;> simp only [Cmp.holds] at hl <;> (conv => arg 4; cbv)
  · refine Sat.loopP (ι := Nat) (fun i => [(5, .int .i64 (fun _ => (i : Int)))]) (fun i => []) (fun i => i ≤ x.length ∧ x.take i = y.take i) (fun i => x.length - i) 0 ?_ ⟨by omega, by simp⟩ (fun i hi => ?_)
    · refine les_of ?_ ?_ rfl
      · repeat' (first | exact trivial | refine And.intro ?_ ?_ | exact .any _ | exact .undef | exact .bo _ | exact .nil | exact .emp | exact .int rfl | exact .sl rfl | exact .str rfl | exact .ptr (fun h => nomatch h) | exact .rptr _ | exact .clo rfl (fun i x y h => by simp at h) | exact .ref (fun h => nomatch h) (fun h => nomatch h) rfl rfl | exact lev_nil | refine lev_cons ?_ ?_ | refine LeV.agg rfl ?_)
      · repeat' (first | exact trivial | refine And.intro ?_ ?_ | exact Nat.le_of_ble_eq_true rfl | exact Or.inl ⟨_, rfl, .row rfl⟩ | refine Or.inl ⟨_, rfl, .row ?_⟩ | refine Or.inl ⟨_, rfl, .lit rfl ?_⟩ | exact Or.inr ⟨rfl, rfl⟩ | exact .any _ | exact .undef | exact .bo _ | exact .nil | exact .emp | exact .int rfl | exact .sl rfl | exact .str rfl | exact .ptr (fun h => nomatch h) | exact .rptr _ | exact .clo rfl (fun i x y h => by simp at h) | exact .ref (fun h => nomatch h) (fun h => nomatch h) rfl rfl | exact lev_nil | refine lev_cons ?_ ?_ | refine LeV.agg rfl ?_)
    conv => arg 4; cbv
    repeat' first
      | (refine Sat.cmp (fun h => ?_) (fun h => ?_) <;> simp only [Cmp.holds] at h <;> (conv => arg 4; cbv))
      | (refine Sat.need (by (try dsimp only); (first | omega | (simp only [ncast, true_and, List.length_append, List.length_take, List.length_drop, List.length_replicate, List.length_cons, List.length_nil] at *; omega))) ?_; conv => arg 4; cbv)
      | (refine Sat.idxk (by assumption) ?_; conv => arg 4; cbv) | (refine Sat.idx (by (try dsimp only); (first | omega | (simp only [ncast, true_and, List.length_append, List.length_take, List.length_drop, List.length_replicate, List.length_cons, List.length_nil] at *; omega))) (fun v_ hv_ => ?_); conv => arg 4; cbv)
      | (refine Sat.ari64 (by (try dsimp only); (first | omega | (simp only [ncast, true_and, List.length_append, List.length_take, List.length_drop, List.length_replicate, List.length_cons, List.length_nil] at *; omega))) (by (try dsimp only); (first | omega | (simp only [ncast, true_and, List.length_append, List.length_take, List.length_drop, List.length_replicate, List.length_cons, List.length_nil] at *; omega))) ?_; conv => arg 4; cbv)
      | (refine Sat.pop ?_; conv => arg 4; cbv)
      | refine Sat.next (i + 1) ?_ ?_ (by (try dsimp only); (first | omega | (simp only [ncast, true_and, List.length_append, List.length_take, List.length_drop, List.length_replicate, List.length_cons, List.length_nil] at *; omega)))
      | refine Sat.done (led_bo (Eq.symm (decide_eq_false (ne_of_get (by assumption) (by assumption) (fun e => by subst e; first | contradiction | (simp_all; done))))))
      | refine Sat.done ?_
    · refine les_of ?_ ?_ rfl
      · repeat' (first | exact trivial | refine And.intro ?_ ?_ | exact .any _ | exact .undef | exact .bo _ | exact .nil | exact .emp | exact .int rfl | exact .sl rfl | exact .str rfl | exact .ptr (fun h => nomatch h) | exact .rptr _ | exact .clo rfl (fun i x y h => by simp at h) | exact .ref (fun h => nomatch h) (fun h => nomatch h) rfl rfl | exact lev_nil | refine lev_cons ?_ ?_ | refine LeV.agg rfl ?_)
      · repeat' (first | exact trivial | refine And.intro ?_ ?_ | exact Nat.le_of_ble_eq_true rfl | exact Or.inl ⟨_, rfl, .row rfl⟩ | refine Or.inl ⟨_, rfl, .row ?_⟩ | refine Or.inl ⟨_, rfl, .lit rfl ?_⟩ | exact Or.inr ⟨rfl, rfl⟩ | exact .any _ | exact .undef | exact .bo _ | exact .nil | exact .emp | exact .int rfl | exact .sl rfl | exact .str rfl | exact .ptr (fun h => nomatch h) | exact .rptr _ | exact .clo rfl (fun i x y h => by simp at h) | exact .ref (fun h => nomatch h) (fun h => nomatch h) rfl rfl | exact lev_nil | refine lev_cons ?_ ?_ | refine LeV.agg rfl ?_)
    · exact ⟨by (first | omega | (simp only [ncast, true_and, List.length_append, List.length_take, List.length_drop, List.length_replicate, List.length_cons, List.length_nil] at *; omega)), take_ext (by assumption) (by assumption) hi.2 (by assumption)⟩
    · refine led_bo ?_
      have e1 : i = x.length := by (first | omega | (simp only [ncast, true_and, List.length_append, List.length_take, List.length_drop, List.length_replicate, List.length_cons, List.length_nil] at *; omega))
      have e2 : x.length = y.length := by (first | omega | (simp only [ncast, true_and, List.length_append, List.length_take, List.length_drop, List.length_replicate, List.length_cons, List.length_nil] at *; omega))
      have := hi.2
      rw [e1, List.take_length, e2, List.take_length] at this
      simp [this]
  · refine Sat.done (led_bo ?_)
    have : x ≠ y := fun e => hl (by rw [e])
    simp [this]

theorem w_slices_Equal_intint (x y : List Int) (hb : bIntS x) : Fn Pr n_slices_Equal_intint [.sl 1 (encI .i64) (fun _ => x), .sl 1 (encI .i64) (fun _ => y)] (.bo (decide (x = y))) := by
  refine k_slices_Equal_intint.fn (by kernel_rfl) ?_
  have h0 : x.length * 8 ≤ 140737488351232 := hb
  conv => arg 4; cbv
  refine Sat.cmp (fun hl => ?_) (fun hl => ?_) <;> simp only [Cmp.holds] at hl <;> (conv => arg 4; cbv)
  · refine Sat.loopP (ι := Nat) (fun i => [(13, .int .i64 (fun _ => (i : Int)))]) (fun i => []) (fun i => i ≤ x.length ∧ x.take i = y.take i) (fun i => x.length - i) 0 ?_ ⟨by omega, by simp⟩ (fun i hi => ?_)
    · refine les_of ?_ ?_ rfl
      · repeat' (first | exact trivial | refine And.intro ?_ ?_ | exact .any _ | exact .undef | exact .bo _ | exact .nil | exact .emp | exact .int rfl | exact .sl rfl | exact .str rfl | exact .ptr (fun h => nomatch h) | exact .rptr _ | exact .clo rfl (fun i x y h => by simp at h) | exact .ref (fun h => nomatch h) (fun h => nomatch h) rfl rfl | exact lev_nil | refine lev_cons ?_ ?_ | refine LeV.agg rfl ?_)
      · repeat' (first | exact trivial | refine And.intro ?_ ?_ | exact Nat.le_of_ble_eq_true rfl | exact Or.inl ⟨_, rfl, .row rfl⟩ | refine Or.inl ⟨_, rfl, .row ?_⟩ | refine Or.inl ⟨_, rfl, .lit rfl ?_⟩ | exact Or.inr ⟨rfl, rfl⟩ | exact .any _ | exact .undef | exact .bo _ | exact .nil | exact .emp | exact .int rfl | exact .sl rfl | exact .str rfl | exact .ptr (fun h => nomatch h) | exact .rptr _ | exact .clo rfl (fun i x y h => by simp at h) | exact .ref (fun h => nomatch h) (fun h => nomatch h) rfl rfl | exact lev_nil | refine lev_cons ?_ ?_ | refine LeV.agg rfl ?_)
    conv => arg 4; cbv
    repeat' first
      | (refine Sat.cmp (fun h => ?_) (fun h => ?_) <;> simp only [Cmp.holds] at h <;> (conv => arg 4; cbv))
      | (refine Sat.need (by (try dsimp only); (first | omega | (simp only [ncast, true_and, List.length_append, List.length_take, List.length_drop, List.length_replicate, List.length_cons, List.length_nil] at *; omega))) ?_; conv => arg 4; cbv)
      | (refine Sat.idxk (by assumption) ?_; conv => arg 4; cbv) | (refine Sat.idx (by (try dsimp only); (first | omega | (simp only [ncast, true_and, List.length_append, List.length_take, List.length_drop, List.length_replicate, List.length_cons, List.length_nil] at *; omega))) (fun v_ hv_ => ?_); conv => arg 4; cbv)
      | (refine Sat.ari64 (by (try dsimp only); (first | omega | (simp only [ncast, true_and, List.length_append, List.length_take, List.length_drop, List.length_replicate, List.length_cons, List.length_nil] at *; omega))) (by (try dsimp only); (first | omega | (simp only [ncast, true_and, List.length_append, List.length_take, List.length_drop, List.length_replicate, List.length_cons, List.length_nil] at *; omega))) ?_; conv => arg 4; cbv)
      | (refine Sat.pop ?_; conv => arg 4; cbv)
      | refine Sat.next (i + 1) ?_ ?_ (by (try dsimp only); (first | omega | (simp only [ncast, true_and, List.length_append, List.length_take, List.length_drop, List.length_replicate, List.length_cons, List.length_nil] at *; omega)))
      | refine Sat.done (led_bo (Eq.symm (decide_eq_false (ne_of_get (by assumption) (by assumption) (fun e => by subst e; first | contradiction | (simp_all; done))))))
      | refine Sat.done ?_
    · refine les_of ?_ ?_ rfl
      · repeat' (first | exact trivial | refine And.intro ?_ ?_ | exact .any _ | exact .undef | exact .bo _ | exact .nil | exact .emp | exact .int rfl | exact .sl rfl | exact .str rfl | exact .ptr (fun h => nomatch h) | exact .rptr _ | exact .clo rfl (fun i x y h => by simp at h) | exact .ref (fun h => nomatch h) (fun h => nomatch h) rfl rfl | exact lev_nil | refine lev_cons ?_ ?_ | refine LeV.agg rfl ?_)
      · repeat' (first | exact trivial | refine And.intro ?_ ?_ | exact Nat.le_of_ble_eq_true rfl | exact Or.inl ⟨_, rfl, .row rfl⟩ | refine Or.inl ⟨_, rfl, .row ?_⟩ | refine Or.inl ⟨_, rfl, .lit rfl ?_⟩ | exact Or.inr ⟨rfl, rfl⟩ | exact .any _ | exact .undef | exact .bo _ | exact .nil | exact .emp | exact .int rfl | exact .sl rfl | exact .str rfl | exact .ptr (fun h => nomatch h) | exact .rptr _ | exact .clo rfl (fun i x y h => by simp at h) | exact .ref (fun h => nomatch h) (fun h => nomatch h) rfl rfl | exact lev_nil | refine lev_cons ?_ ?_ | refine LeV.agg rfl ?_)
    · exact ⟨by (first | omega | (simp only [ncast, true_and, List.length_append, List.length_take, List.length_drop, List.length_replicate, List.length_cons, List.length_nil] at *; omega)), take_ext (by assumption) (by assumption) hi.2 (by assumption)⟩
    · refine led_bo ?_
      have e1 : i = x.length := by (first | omega | (simp only [ncast, true_and, List.length_append, List.length_take, List.length_drop, List.length_replicate, List.length_cons, List.length_nil] at *; omega))
      have e2 : x.length = y.length := by (first | omega | (simp only [ncast, true_and, List.length_append, List.length_take, List.length_drop, List.length_replicate, List.length_cons, List.length_nil] at *; omega))
      have := hi.2
      rw [e1, List.take_length, e2, List.take_length] at this
      simp [this]
  · refine Sat.done (led_bo ?_)
    have : x ≠ y := fun e => hl (by rw [e])
    simp [this]

theorem w_impl_EqualServers (x y : List Int) (hb : bIntS x) : Fn Pr n_impl_EqualServers [.sl 1 (encI .i64) (fun _ => x), .sl 1 (encI .i64) (fun _ => y)] (.bo (decide (x = y))) := by
  refine k_impl_EqualServers.fn (by kernel_rfl) ?_
  conv => arg 4; cbv
  repeat' first
    | (refine Sat.cmp (fun h => ?_) (fun h => ?_) <;> simp only [Cmp.holds] at h <;> (conv => arg 4; cbv))
    | (refine Sat.callb (w_slices_Equal_intint x y hb) rfl (by (repeat' (first | exact led_nil | refine led_cons ?_ ?_ | exact .same _ | exact .int rfl | exact .sl rfl | exact .str rfl | exact .nil rfl | exact .emp rfl | refine .agg rfl ?_ | refine .tup rfl ?_ | (refine .sl ?_; simp; done))); (first | done | fail)) (fun h => ?_) (fun h => ?_) <;> (try simp only [decide_eq_true_eq, decide_eq_false_iff_not] at h) <;> (conv => arg 4; cbv))
    | (refine Sat.call (w_slices_Equal_intint x y hb) rfl (by (repeat' (first | exact led_nil | refine led_cons ?_ ?_ | exact .same _ | exact .int rfl | exact .sl rfl | exact .str rfl | exact .nil rfl | exact .emp rfl | refine .agg rfl ?_ | refine .tup rfl ?_ | (refine .sl ?_; simp; done))); (first | done | fail)) ?_; conv => arg 4; cbv)
    | (refine Sat.need (by (try dsimp only); (first | omega | (simp only [ncast, true_and, List.length_append, List.length_take, List.length_drop, List.length_replicate, List.length_cons, List.length_nil] at *; omega))) ?_; conv => arg 4; cbv)
    | (refine Sat.idxk (by assumption) ?_; conv => arg 4; cbv) | (refine Sat.idx (by (try dsimp only); (first | omega | (simp only [ncast, true_and, List.length_append, List.length_take, List.length_drop, List.length_replicate, List.length_cons, List.length_nil] at *; omega))) (fun v_ hv_ => ?_); conv => arg 4; cbv)
    | (refine Sat.ari64 (by (try dsimp only); (first | omega | (simp only [ncast, true_and, List.length_append, List.length_take, List.length_drop, List.length_replicate, List.length_cons, List.length_nil] at *; omega))) (by (try dsimp only); (first | omega | (simp only [ncast, true_and, List.length_append, List.length_take, List.length_drop, List.length_replicate, List.length_cons, List.length_nil] at *; omega))) ?_; conv => arg 4; cbv)
    | (refine Sat.pop ?_; conv => arg 4; cbv)
    | refine Sat.done ?_
  all_goals refine led_bo ?_
  all_goals simp_all

theorem w_impl_EqualConfigs (x y : GConfig) (hb : bConfig x) : Fn Pr n_impl_EqualConfigs [aGConfig x, aGConfig y] (.bo (decide (x = y))) := by
  refine k_impl_EqualConfigs.fn (by kernel_rfl) ?_
  conv => arg 4; cbv
  repeat' first
    | (refine Sat.cmp (fun h => ?_) (fun h => ?_) <;> simp only [Cmp.holds] at h <;> (conv => arg 4; cbv))
    | (refine Sat.callb (w_impl_EqualServers x.Replicas y.Replicas hb.1) rfl (by (repeat' (first | exact led_nil | refine led_cons ?_ ?_ | exact .same _ | exact .int rfl | exact .sl rfl | exact .str rfl | exact .nil rfl | exact .emp rfl | refine .agg rfl ?_ | refine .tup rfl ?_ | (refine .sl ?_; simp; done))); (first | done | fail)) (fun h => ?_) (fun h => ?_) <;> (try simp only [decide_eq_true_eq, decide_eq_false_iff_not] at h) <;> (conv => arg 4; cbv))
    | (refine Sat.call (w_impl_EqualServers x.Replicas y.Replicas hb.1) rfl (by (repeat' (first | exact led_nil | refine led_cons ?_ ?_ | exact .same _ | exact .int rfl | exact .sl rfl | exact .str rfl | exact .nil rfl | exact .emp rfl | refine .agg rfl ?_ | refine .tup rfl ?_ | (refine .sl ?_; simp; done))); (first | done | fail)) ?_; conv => arg 4; cbv)
    | (refine Sat.callb (w_impl_EqualServers x.Witnesses y.Witnesses hb.2) rfl (by (repeat' (first | exact led_nil | refine led_cons ?_ ?_ | exact .same _ | exact .int rfl | exact .sl rfl | exact .str rfl | exact .nil rfl | exact .emp rfl | refine .agg rfl ?_ | refine .tup rfl ?_ | (refine .sl ?_; simp; done))); (first | done | fail)) (fun h => ?_) (fun h => ?_) <;> (try simp only [decide_eq_true_eq, decide_eq_false_iff_not] at h) <;> (conv => arg 4; cbv))
    | (refine Sat.call (w_impl_EqualServers x.Witnesses y.Witnesses hb.2) rfl (by (repeat' (first | exact led_nil | refine led_cons ?_ ?_ | exact .same _ | exact .int rfl | exact .sl rfl | exact .str rfl | exact .nil rfl | exact .emp rfl | refine .agg rfl ?_ | refine .tup rfl ?_ | (refine .sl ?_; simp; done))); (first | done | fail)) ?_; conv => arg 4; cbv)
    | (refine Sat.need (by (try dsimp only); (first | omega | (simp only [ncast, true_and, List.length_append, List.length_take, List.length_drop, List.length_replicate, List.length_cons, List.length_nil] at *; omega))) ?_; conv => arg 4; cbv)
    | (refine Sat.idxk (by assumption) ?_; conv => arg 4; cbv) | (refine Sat.idx (by (try dsimp only); (first | omega | (simp only [ncast, true_and, List.length_append, List.length_take, List.length_drop, List.length_replicate, List.length_cons, List.length_nil] at *; omega))) (fun v_ hv_ => ?_); conv => arg 4; cbv)
    | (refine Sat.ari64 (by (try dsimp only); (first | omega | (simp only [ncast, true_and, List.length_append, List.length_take, List.length_drop, List.length_replicate, List.length_cons, List.length_nil] at *; omega))) (by (try dsimp only); (first | omega | (simp only [ncast, true_and, List.length_append, List.length_take, List.length_drop, List.length_replicate, List.length_cons, List.length_nil] at *; omega))) ?_; conv => arg 4; cbv)
    | (refine Sat.pop ?_; conv => arg 4; cbv)
    | refine Sat.done ?_
  all_goals refine led_bo ?_
  all_goals (cases x; cases y; simp_all)

theorem w_spec_EqualConfigs (x y : GConfig) (hb : bConfig x) : Fn Pr n_spec_EqualConfigs [aGConfig x, aGConfig y] (.bo (decide (x = y))) := by
  refine k_spec_EqualConfigs.fn (by kernel_rfl) ?_
  conv => arg 4; cbv
  repeat' first
    | (refine Sat.cmp (fun h => ?_) (fun h => ?_) <;> simp only [Cmp.holds] at h <;> (conv => arg 4; cbv))
    | (refine Sat.callb (w_spec_EqualServers x.Replicas y.Replicas hb.1) rfl (by (repeat' (first | exact led_nil | refine led_cons ?_ ?_ | exact .same _ | exact .int rfl | exact .sl rfl | exact .str rfl | exact .nil rfl | exact .emp rfl | refine .agg rfl ?_ | refine .tup rfl ?_ | (refine .sl ?_; simp; done))); (first | done | fail)) (fun h => ?_) (fun h => ?_) <;> (try simp only [decide_eq_true_eq, decide_eq_false_iff_not] at h) <;> (conv => arg 4; cbv))
    | (refine Sat.call (w_spec_EqualServers x.Replicas y.Replicas hb.1) rfl (by (repeat' (first | exact led_nil | refine led_cons ?_ ?_ | exact .same _ | exact .int rfl | exact .sl rfl | exact .str rfl | exact .nil rfl | exact .emp rfl | refine .agg rfl ?_ | refine .tup rfl ?_ | (refine .sl ?_; simp; done))); (first | done | fail)) ?_; conv => arg 4; cbv)
    | (refine Sat.callb (w_spec_EqualServers x.Witnesses y.Witnesses hb.2) rfl (by (repeat' (first | exact led_nil | refine led_cons ?_ ?_ | exact .same _ | exact .int rfl | exact .sl rfl | exact .str rfl | exact .nil rfl | exact .emp rfl | refine .agg rfl ?_ | refine .tup rfl ?_ | (refine .sl ?_; simp; done))); (first | done | fail)) (fun h => ?_) (fun h => ?_) <;> (try simp only [decide_eq_true_eq, decide_eq_false_iff_not] at h) <;> (conv => arg 4; cbv))
    | (refine Sat.call (w_spec_EqualServers x.Witnesses y.Witnesses hb.2) rfl (by (repeat' (first | exact led_nil | refine led_cons ?_ ?_ | exact .same _ | exact .int rfl | exact .sl rfl | exact .str rfl | exact .nil rfl | exact .emp rfl | refine .agg rfl ?_ | refine .tup rfl ?_ | (refine .sl ?_; simp; done))); (first | done | fail)) ?_; conv => arg 4; cbv)
    | (refine Sat.need (by (try dsimp only); (first | omega | (simp only [ncast, true_and, List.length_append, List.length_take, List.length_drop, List.length_replicate, List.length_cons, List.length_nil] at *; omega))) ?_; conv => arg 4; cbv)
    | (refine Sat.idxk (by assumption) ?_; conv => arg 4; cbv) | (refine Sat.idx (by (try dsimp only); (first | omega | (simp only [ncast, true_and, List.length_append, List.length_take, List.length_drop, List.length_replicate, List.length_cons, List.length_nil] at *; omega))) (fun v_ hv_ => ?_); conv => arg 4; cbv)
    | (refine Sat.ari64 (by (try dsimp only); (first | omega | (simp only [ncast, true_and, List.length_append, List.length_take, List.length_drop, List.length_replicate, List.length_cons, List.length_nil] at *; omega))) (by (try dsimp only); (first | omega | (simp only [ncast, true_and, List.length_append, List.length_take, List.length_drop, List.length_replicate, List.length_cons, List.length_nil] at *; omega))) ?_; conv => arg 4; cbv)
    | (refine Sat.pop ?_; conv => arg 4; cbv)
    | refine Sat.done ?_
  all_goals refine led_bo ?_
  all_goals (cases x; cases y; simp_all)

def fIntS (l : List Int) : Prop := (l.length ≤ maxLen ∧ l.length * 8 ≤ 140737488351232 ∧ ∀ y ∈ l, (Lit.int .i64 y).wf = true)
def fConfig (x : GConfig) : Prop := (Lit.int .i64 x.Epoch).wf = true ∧ (Lit.int .i64 x.Primary).wf = true ∧ fIntS x.Replicas ∧ fIntS x.Witnesses
theorem fConfig_b {x : GConfig} (h : fConfig x) : bConfig x := ⟨h.2.2.1.2.1, h.2.2.2.2.1⟩

def fAcceptor (x : GAcceptor) : Prop := (Lit.int .i64 x.Promised).wf = true ∧ (Lit.int .i64 x.Ballot).wf = true ∧ fConfig x.Value
theorem fAcceptor_b {x : GAcceptor} (h : fAcceptor x) : bAcceptor x := fConfig_b h.2.2

def genL {α : Type} (f : Nat → α) (n : Nat) : List α := (List.range n).map f
@[simp] theorem genL_length {α : Type} {f : Nat → α} {n : Nat} : (genL f n).length = n := by simp [genL]
theorem gen_get {α : Type} {f : Nat → α} {n i : Nat} (h : i < n) : (genL f n)[i]? = some (f i) := by simp [genL, h]
theorem set_self {α : Type} {l : List α} {i : Nat} {z : α} (h : i < l.length) : (setAt l i z)[i]? = some z := by simp [setAt, h]
theorem gen_set {α : Type} {f : Nat → α} {l : List α} {i : Nat} (h : i < l.length) : setAt (genL f i ++ l.drop i) i (f i) = genL f (i + 1) ++ l.drop (i + 1) := by
  rw [setAt, List.set_append_right _ _ (by simp)]
  simp only [genL_length, Nat.sub_self]
  rw [List.drop_eq_getElem_cons h, List.set_cons_zero]
  simp [genL, List.range_succ]
theorem held_k {c : Prop} [Decidable c] {a : Int} (h : ¬ (if c then a else -1) < 0) : (if c then a else -1) = a := by
  by_cases e : c
  · rw [if_pos e]
  · rw [if_neg e] at h; omega
theorem Sat.typedG {P : Program} {Q : AV → Prop} {As : List (St → Prop)} {α : Type} {sz : Nat} {enc : α → Nat → AV} {cells : List AV} {c : α → Tree} (z0 : α) (h : ∀ (j : Nat) (x : AV), cells[j]? = some x → LeD x (enc z0 j)) (hc : ∀ z, z = z0 → Sat P Q As (c z)) : Sat P Q As (.typed sz enc cells c) := .typed z0 h (hc z0 rfl)
theorem set_set {α : Type} {l : List α} {i : Nat} {a b : α} : setAt (setAt l i a) i b = setAt l i b := by simp [setAt]

def mkInt (k : Int) : Int := k

def mkIntS (k : Int) (n : Nat) : List Int := genL (fun i => mkInt (k + 1 * i)) n
@[simp] theorem mkIntS_length {k : Int} {n : Nat} : (mkIntS k n).length = n := genL_length

theorem w_laws_markIntS (x : List Int) (k : Int) (hb : bIntS x) (hk : 0 ≤ k ∧ k ≤ 1152921504606846976) : FnM Pr n_laws_markIntS [.ptr 0 0, .int .i64 (fun _ => k)] [.sl 1 (encI .i64) (fun _ => x)] (.agg [.int .i64 (fun _ => k + 1 * (x.length : Int))]) [.sl 1 (encI .i64) (fun _ => mkIntS k x.length)] := by
  refine k_laws_markIntS.fnm (by kernel_rfl) ⟨.mk (by simp [mkIntS]), trivial⟩ ?_
  have h0 : x.length * 8 ≤ 140737488351232 := hb
  conv => arg 4; cbv
  refine Sat.loopP (ι := Nat) (fun i => [(5, .int .i64 (fun _ => (i : Int))), (1, .int .i64 (fun _ => k + 1 * (i : Int)))]) (fun i => [(0, .row 1 (encI .i64) (fun _ => mkIntS k i ++ x.drop i) true)]) (fun i => i ≤ x.length) (fun i => x.length - i) 0 ?_ (by omega) (fun i hi => ?_)
  · refine les_of ?_ ?_ rfl
    · repeat' (first | exact trivial | refine And.intro ?_ ?_ | exact .any _ | exact .undef | exact .bo _ | exact .nil | exact .emp | exact .int rfl | exact .sl rfl | exact .str rfl | exact .ptr (fun h => nomatch h) | exact .rptr _ | exact .clo rfl (fun i x y h => by simp at h) | exact .ref (fun h => nomatch h) (fun h => nomatch h) rfl rfl | exact lev_nil | refine lev_cons ?_ ?_ | refine LeV.agg rfl ?_ | (first | exact .int (by (try dsimp only); (first | omega | (simp only [ncast, true_and, List.length_append, List.length_take, List.length_drop, List.length_replicate, List.length_cons, List.length_nil] at *; omega))) | (simp [mkIntS, genL]; done)))
    · repeat' (first | exact trivial | refine And.intro ?_ ?_ | exact Nat.le_of_ble_eq_true rfl | exact Or.inl ⟨_, rfl, .row rfl⟩ | refine Or.inl ⟨_, rfl, .row ?_⟩ | refine Or.inl ⟨_, rfl, .lit rfl ?_⟩ | exact Or.inr ⟨rfl, rfl⟩ | exact .any _ | exact .undef | exact .bo _ | exact .nil | exact .emp | exact .int rfl | exact .sl rfl | exact .str rfl | exact .ptr (fun h => nomatch h) | exact .rptr _ | exact .clo rfl (fun i x y h => by simp at h) | exact .ref (fun h => nomatch h) (fun h => nomatch h) rfl rfl | exact lev_nil | refine lev_cons ?_ ?_ | refine LeV.agg rfl ?_ | (first | exact .int (by (try dsimp only); (first | omega | (simp only [ncast, true_and, List.length_append, List.length_take, List.length_drop, List.length_replicate, List.length_cons, List.length_nil] at *; omega))) | (simp [mkIntS, genL]; done)))
  have hl0 : (mkIntS k i ++ x.drop i).length = x.length := by simp [mkIntS]; omega
  conv => arg 4; cbv
  repeat' first
    | (refine Sat.cmp (fun h => ?_) (fun h => ?_) <;> simp only [Cmp.holds] at h <;> (conv => arg 4; cbv))
    | (refine Sat.need (by (try dsimp only); (first | omega | (simp only [ncast, true_and, List.length_append, List.length_take, List.length_drop, List.length_replicate, List.length_cons, List.length_nil] at *; omega))) ?_; conv => arg 4; cbv)
    | (refine Sat.idxk (set_self (by (try dsimp only); (try simp only [setAt, List.length_set]); first | omega | (simp only [ncast] at *; omega))) ?_; conv => arg 4; cbv)
    | (refine Sat.idxk (by assumption) ?_; conv => arg 4; cbv) | (refine Sat.idx (by (try dsimp only); (first | omega | (simp only [ncast, true_and, List.length_append, List.length_take, List.length_drop, List.length_replicate, List.length_cons, List.length_nil] at *; omega))) (fun v_ hv_ => ?_); conv => arg 4; cbv)
    | (refine Sat.ari64 (by (try dsimp only); (first | omega | (simp only [ncast, true_and, List.length_append, List.length_take, List.length_drop, List.length_replicate, List.length_cons, List.length_nil] at *; omega))) (by (try dsimp only); (first | omega | (simp only [ncast, true_and, List.length_append, List.length_take, List.length_drop, List.length_replicate, List.length_cons, List.length_nil] at *; omega))) ?_; conv => arg 4; cbv)
    | (refine Sat.pop ?_; conv => arg 4; cbv)
    | (refine Sat.typedG (k + 1 * (i : Int)) (by (repeat' (first | exact tnil | refine tcons ?_ ?_ | exact .same _ | exact .int rfl | exact .str rfl | exact .sl rfl | exact .nil rfl | (refine .sl ?_; simp; done))); (first | done | fail)) (fun v_ hz_ => ?_); conv => arg 4; cbv)
    | refine Sat.next (i + 1) ?_ (by (try dsimp only); (first | omega | (simp only [ncast, true_and, List.length_append, List.length_take, List.length_drop, List.length_replicate, List.length_cons, List.length_nil] at *; omega))) (by (first | omega | (simp only [ncast, true_and, List.length_append, List.length_take, List.length_drop, List.length_replicate, List.length_cons, List.length_nil] at *; omega)))
    | refine Sat.done ?_
  · subst_vars
    refine les_of ?_ ?_ rfl
    · repeat' (first | exact trivial | refine And.intro ?_ ?_ | exact .any _ | exact .undef | exact .bo _ | exact .nil | exact .emp | exact .int rfl | exact .sl rfl | exact .str rfl | exact .ptr (fun h => nomatch h) | exact .rptr _ | exact .clo rfl (fun i x y h => by simp at h) | exact .ref (fun h => nomatch h) (fun h => nomatch h) rfl rfl | exact lev_nil | refine lev_cons ?_ ?_ | refine LeV.agg rfl ?_ | (first | exact .int (by (try dsimp only); (first | omega | (simp only [ncast, true_and, List.length_append, List.length_take, List.length_drop, List.length_replicate, List.length_cons, List.length_nil] at *; omega))) | (simp only [Int.toNat_natCast, Nat.zero_add, set_set]; exact gen_set (by (first | omega | (simp only [ncast, true_and, List.length_append, List.length_take, List.length_drop, List.length_replicate, List.length_cons, List.length_nil] at *; omega))))))
    · repeat' (first | exact trivial | refine And.intro ?_ ?_ | exact Nat.le_of_ble_eq_true rfl | exact Or.inl ⟨_, rfl, .row rfl⟩ | refine Or.inl ⟨_, rfl, .row ?_⟩ | refine Or.inl ⟨_, rfl, .lit rfl ?_⟩ | exact Or.inr ⟨rfl, rfl⟩ | exact .any _ | exact .undef | exact .bo _ | exact .nil | exact .emp | exact .int rfl | exact .sl rfl | exact .str rfl | exact .ptr (fun h => nomatch h) | exact .rptr _ | exact .clo rfl (fun i x y h => by simp at h) | exact .ref (fun h => nomatch h) (fun h => nomatch h) rfl rfl | exact lev_nil | refine lev_cons ?_ ?_ | refine LeV.agg rfl ?_ | (first | exact .int (by (try dsimp only); (first | omega | (simp only [ncast, true_and, List.length_append, List.length_take, List.length_drop, List.length_replicate, List.length_cons, List.length_nil] at *; omega))) | (simp only [Int.toNat_natCast, Nat.zero_add, set_set]; exact gen_set (by (first | omega | (simp only [ncast, true_and, List.length_append, List.length_take, List.length_drop, List.length_replicate, List.length_cons, List.length_nil] at *; omega))))))
  · refine .tup rfl (led_cons ?_ (led_cons ?_ led_nil))
    · refine .agg rfl (led_cons (.int ?_) led_nil)
      (first | omega | (simp only [ncast, true_and, List.length_append, List.length_take, List.length_drop, List.length_replicate, List.length_cons, List.length_nil] at *; omega))
    · refine .sl ?_
      have e : i = x.length := by (first | omega | (simp only [ncast, true_and, List.length_append, List.length_take, List.length_drop, List.length_replicate, List.length_cons, List.length_nil] at *; omega))
      subst e
      simp

theorem w_laws_heldIntS (x : List Int) (k : Int) (hb : bIntS x) (hk : 0 ≤ k ∧ k ≤ 1152921504606846976) : Fn Pr n_laws_heldIntS [.sl 1 (encI .i64) (fun _ => x), .int .i64 (fun _ => k)] (.int .i64 (fun _ => if mkIntS k x.length = x then k + 1 * (x.length : Int) else -1)) := by
  refine k_laws_heldIntS.fn (by kernel_rfl) ?_
  have h0 : x.length * 8 ≤ 140737488351232 := hb
  conv => arg 4; cbv
  refine Sat.loopP (ι := Nat) (fun i => [(5, .int .i64 (fun _ => (i : Int))), (1, .int .i64 (fun _ => k + 1 * (i : Int)))]) (fun i => []) (fun i => i ≤ x.length ∧ x.take i = (mkIntS k x.length).take i) (fun i => x.length - i) 0 ?_ ⟨by omega, by simp⟩ (fun i hi => ?_)
  · refine les_of ?_ ?_ rfl
    · repeat' (first | exact trivial | refine And.intro ?_ ?_ | exact .any _ | exact .undef | exact .bo _ | exact .nil | exact .emp | exact .int rfl | exact .sl rfl | exact .str rfl | exact .ptr (fun h => nomatch h) | exact .rptr _ | exact .clo rfl (fun i x y h => by simp at h) | exact .ref (fun h => nomatch h) (fun h => nomatch h) rfl rfl | exact lev_nil | refine lev_cons ?_ ?_ | refine LeV.agg rfl ?_ | (exact .int (by (try dsimp only); (first | omega | (simp only [ncast, true_and, List.length_append, List.length_take, List.length_drop, List.length_replicate, List.length_cons, List.length_nil] at *; omega)))))
    · repeat' (first | exact trivial | refine And.intro ?_ ?_ | exact Nat.le_of_ble_eq_true rfl | exact Or.inl ⟨_, rfl, .row rfl⟩ | refine Or.inl ⟨_, rfl, .row ?_⟩ | refine Or.inl ⟨_, rfl, .lit rfl ?_⟩ | exact Or.inr ⟨rfl, rfl⟩ | exact .any _ | exact .undef | exact .bo _ | exact .nil | exact .emp | exact .int rfl | exact .sl rfl | exact .str rfl | exact .ptr (fun h => nomatch h) | exact .rptr _ | exact .clo rfl (fun i x y h => by simp at h) | exact .ref (fun h => nomatch h) (fun h => nomatch h) rfl rfl | exact lev_nil | refine lev_cons ?_ ?_ | refine LeV.agg rfl ?_ | (exact .int (by (try dsimp only); (first | omega | (simp only [ncast, true_and, List.length_append, List.length_take, List.length_drop, List.length_replicate, List.length_cons, List.length_nil] at *; omega)))))
  conv => arg 4; cbv
  repeat' first
    | (refine Sat.cmp (fun h => ?_) (fun h => ?_) <;> simp only [Cmp.holds] at h <;> (conv => arg 4; cbv))
    | (refine Sat.need (by (try dsimp only); (first | omega | (simp only [ncast, true_and, List.length_append, List.length_take, List.length_drop, List.length_replicate, List.length_cons, List.length_nil] at *; omega))) ?_; conv => arg 4; cbv)
    | (refine Sat.idxk (by assumption) ?_; conv => arg 4; cbv) | (refine Sat.idx (by (try dsimp only); (first | omega | (simp only [ncast, true_and, List.length_append, List.length_take, List.length_drop, List.length_replicate, List.length_cons, List.length_nil] at *; omega))) (fun v_ hv_ => ?_); conv => arg 4; cbv)
    | (refine Sat.ari64 (by (try dsimp only); (first | omega | (simp only [ncast, true_and, List.length_append, List.length_take, List.length_drop, List.length_replicate, List.length_cons, List.length_nil] at *; omega))) (by (try dsimp only); (first | omega | (simp only [ncast, true_and, List.length_append, List.length_take, List.length_drop, List.length_replicate, List.length_cons, List.length_nil] at *; omega))) ?_; conv => arg 4; cbv)
    | (refine Sat.pop ?_; conv => arg 4; cbv)
    | refine Sat.next (i + 1) ?_ ?_ (by (try dsimp only); (first | omega | (simp only [ncast, true_and, List.length_append, List.length_take, List.length_drop, List.length_replicate, List.length_cons, List.length_nil] at *; omega)))
    | refine Sat.done (.int (Eq.symm (if_neg (fun q => ne_of_get (by assumption) (gen_get (by (first | omega | (simp only [ncast, true_and, List.length_append, List.length_take, List.length_drop, List.length_replicate, List.length_cons, List.length_nil] at *; omega)))) (fun e => by subst e; exact h rfl) q.symm))))
    | refine Sat.done ?_
  · refine les_of ?_ ?_ rfl
    · repeat' (first | exact trivial | refine And.intro ?_ ?_ | exact .any _ | exact .undef | exact .bo _ | exact .nil | exact .emp | exact .int rfl | exact .sl rfl | exact .str rfl | exact .ptr (fun h => nomatch h) | exact .rptr _ | exact .clo rfl (fun i x y h => by simp at h) | exact .ref (fun h => nomatch h) (fun h => nomatch h) rfl rfl | exact lev_nil | refine lev_cons ?_ ?_ | refine LeV.agg rfl ?_ | (exact .int (by (try dsimp only); (first | omega | (simp only [ncast, true_and, List.length_append, List.length_take, List.length_drop, List.length_replicate, List.length_cons, List.length_nil] at *; omega)))))
    · repeat' (first | exact trivial | refine And.intro ?_ ?_ | exact Nat.le_of_ble_eq_true rfl | exact Or.inl ⟨_, rfl, .row rfl⟩ | refine Or.inl ⟨_, rfl, .row ?_⟩ | refine Or.inl ⟨_, rfl, .lit rfl ?_⟩ | exact Or.inr ⟨rfl, rfl⟩ | exact .any _ | exact .undef | exact .bo _ | exact .nil | exact .emp | exact .int rfl | exact .sl rfl | exact .str rfl | exact .ptr (fun h => nomatch h) | exact .rptr _ | exact .clo rfl (fun i x y h => by simp at h) | exact .ref (fun h => nomatch h) (fun h => nomatch h) rfl rfl | exact lev_nil | refine lev_cons ?_ ?_ | refine LeV.agg rfl ?_ | (exact .int (by (try dsimp only); (first | omega | (simp only [ncast, true_and, List.length_append, List.length_take, List.length_drop, List.length_replicate, List.length_cons, List.length_nil] at *; omega)))))
  · exact ⟨by (first | omega | (simp only [ncast, true_and, List.length_append, List.length_take, List.length_drop, List.length_replicate, List.length_cons, List.length_nil] at *; omega)), take_ext (by assumption) (gen_get (by (first | omega | (simp only [ncast, true_and, List.length_append, List.length_take, List.length_drop, List.length_replicate, List.length_cons, List.length_nil] at *; omega)))) hi.2 (by assumption)⟩
  · refine .int ?_
    have e1 : i = x.length := by (first | omega | (simp only [ncast, true_and, List.length_append, List.length_take, List.length_drop, List.length_replicate, List.length_cons, List.length_nil] at *; omega))
    have e2 := hi.2
    rw [e1, List.take_length, List.take_of_length_le (by simp [mkIntS])] at e2
    rw [if_pos e2.symm]
    (first | omega | (simp only [ncast, true_and, List.length_append, List.length_take, List.length_drop, List.length_replicate, List.length_cons, List.length_nil] at *; omega))

def nConfig (x : GConfig) : Int := 1 * (x.Replicas.length : Int) + 1 * (x.Witnesses.length : Int)
theorem nConfig_rng {x : GConfig} (hb : bConfig x) : 0 ≤ nConfig x ∧ nConfig x ≤ 35184372088832 := by
  have : x.Replicas.length * 8 ≤ 140737488351232 := hb.1
  have : x.Witnesses.length * 8 ≤ 140737488351232 := hb.2
  unfold nConfig
  omega

@[simp] def mkConfig (k : Int) (x : GConfig) : GConfig := { x with Replicas := mkIntS (k) x.Replicas.length, Witnesses := mkIntS (k + 1 * (x.Replicas.length : Int)) x.Witnesses.length }

theorem mkConfig_iff {x : GConfig} {k : Int} : mkConfig k x = x ↔ mkIntS (k) x.Replicas.length = x.Replicas ∧ mkIntS (k + 1 * (x.Replicas.length : Int)) x.Witnesses.length = x.Witnesses := by
  cases x
  simp [mkConfig, GConfig.ext_iff]

theorem w_laws_markConfig (x : GConfig) (k : Int) (hb : bConfig x) (hk : 0 ≤ k ∧ k ≤ 1000000000000000000) : FnM Pr n_laws_markConfig [.agg [.int .i64 (fun _ => x.Epoch), .int .i64 (fun _ => x.Primary), .ptr 0 0, .ptr 1 0], .int .i64 (fun _ => k)] [.sl 1 (encI .i64) (fun _ => x.Replicas), .sl 1 (encI .i64) (fun _ => x.Witnesses)] (.agg [.int .i64 (fun _ => k + nConfig x)]) [.sl 1 (encI .i64) (fun _ => mkIntS (k) x.Replicas.length), .sl 1 (encI .i64) (fun _ => mkIntS (k + 1 * (x.Replicas.length : Int)) x.Witnesses.length)] := by
  refine k_laws_markConfig.fnm (by kernel_rfl) ⟨.mk (by simp [mkIntS]), .mk (by simp [mkIntS]), trivial⟩ ?_
  have : x.Replicas.length * 8 ≤ 140737488351232 := hb.1
  have : x.Witnesses.length * 8 ≤ 140737488351232 := hb.2
  conv => arg 4; cbv
  repeat' first
    | (refine Sat.cmp (fun h => ?_) (fun h => ?_) <;> simp only [Cmp.holds] at h <;> (conv => arg 4; cbv))
    | (refine Sat.callm (w_laws_markIntS x.Replicas (k) hb.1 (by (first | omega | (simp only [ncast, true_and, List.length_append, List.length_take, List.length_drop, List.length_replicate, List.length_cons, List.length_nil] at *; omega)))) rfl (by (repeat' (first | exact led_nil | refine led_cons ?_ ?_ | exact .same _ | exact .int rfl | exact .sl rfl | exact .str rfl | exact .nil rfl | exact .emp rfl | refine .agg rfl ?_ | refine .tup rfl ?_ | (refine .sl ?_; simp; done))); (first | done | fail)) rfl (by (repeat' (first | exact led_nil | refine led_cons ?_ ?_ | exact .same _ | exact .int rfl | exact .sl rfl | exact .str rfl | exact .nil rfl | exact .emp rfl | refine .agg rfl ?_ | refine .tup rfl ?_ | (refine .sl ?_; simp; done))); (first | done | fail)) ?_; conv => arg 4; cbv)
    | (refine Sat.callm (w_laws_markIntS x.Witnesses (k + 1 * (x.Replicas.length : Int)) hb.2 (by (first | omega | (simp only [ncast, true_and, List.length_append, List.length_take, List.length_drop, List.length_replicate, List.length_cons, List.length_nil] at *; omega)))) rfl (by (repeat' (first | exact led_nil | refine led_cons ?_ ?_ | exact .same _ | exact .int rfl | exact .sl rfl | exact .str rfl | exact .nil rfl | exact .emp rfl | refine .agg rfl ?_ | refine .tup rfl ?_ | (refine .sl ?_; simp; done))); (first | done | fail)) rfl (by (repeat' (first | exact led_nil | refine led_cons ?_ ?_ | exact .same _ | exact .int rfl | exact .sl rfl | exact .str rfl | exact .nil rfl | exact .emp rfl | refine .agg rfl ?_ | refine .tup rfl ?_ | (refine .sl ?_; simp; done))); (first | done | fail)) ?_; conv => arg 4; cbv)
    | (refine Sat.need (by (try dsimp only); (first | omega | (simp only [ncast, true_and, List.length_append, List.length_take, List.length_drop, List.length_replicate, List.length_cons, List.length_nil] at *; omega))) ?_; conv => arg 4; cbv)
    | (refine Sat.need (by (repeat' (first | exact trivial | refine And.intro ?_ ?_ | rfl | (dsimp only; simp [genL_length]; done))); (first | done | fail)) ?_; conv => arg 4; cbv)
    | (refine Sat.idxk (by assumption) ?_; conv => arg 4; cbv) | (refine Sat.idx (by (try dsimp only); (first | omega | (simp only [ncast, true_and, List.length_append, List.length_take, List.length_drop, List.length_replicate, List.length_cons, List.length_nil] at *; omega))) (fun v_ hv_ => ?_); conv => arg 4; cbv)
    | (refine Sat.ari64 (by (try dsimp only); (first | omega | (simp only [ncast, true_and, List.length_append, List.length_take, List.length_drop, List.length_replicate, List.length_cons, List.length_nil] at *; omega))) (by (try dsimp only); (first | omega | (simp only [ncast, true_and, List.length_append, List.length_take, List.length_drop, List.length_replicate, List.length_cons, List.length_nil] at *; omega))) ?_; conv => arg 4; cbv)
    | (refine Sat.pop ?_; conv => arg 4; cbv)
    | refine Sat.done ?_
  all_goals refine .tup rfl (led_cons ?_ (led_cons ?_ (led_cons ?_ (led_nil))))
  all_goals try exact .agg rfl (led_cons (.int rfl) led_nil)
  all_goals first
    | (refine .agg rfl (led_cons (.int ?_) led_nil); simp only [nConfig, ncast] at *; omega)
    | exact .sl rfl
    | (refine .sl ?_; (try dsimp only); congr 1; (try simp only [nConfig]); omega)

theorem w_laws_heldConfig (x : GConfig) (k : Int) (hb : bConfig x) (hk : 0 ≤ k ∧ k ≤ 1000000000000000000) : Fn Pr n_laws_heldConfig [aGConfig x, .int .i64 (fun _ => k)] (.int .i64 (fun _ => if mkConfig k x = x then k + nConfig x else -1)) := by
  have : x.Replicas.length * 8 ≤ 140737488351232 := hb.1
  have : x.Witnesses.length * 8 ≤ 140737488351232 := hb.2
  refine k_laws_heldConfig.fn (by kernel_rfl) ?_
  conv => arg 4; cbv
  repeat' first
    | (refine Sat.cmp (fun h => ?_) (fun h => ?_) <;> simp only [Cmp.holds] at h <;> (conv => arg 4; cbv))
    | (refine Sat.call (w_laws_heldIntS x.Replicas (k) hb.1 (by (first | omega | (simp only [ncast, true_and, List.length_append, List.length_take, List.length_drop, List.length_replicate, List.length_cons, List.length_nil] at *; omega)))) rfl (by (repeat' (first | exact led_nil | refine led_cons ?_ ?_ | exact .same _ | exact .int rfl | exact .int (held_k (by assumption)) | exact .sl rfl | exact .str rfl | exact .nil rfl | exact .emp rfl | refine .agg rfl ?_ | refine .tup rfl ?_ | (refine .sl ?_; simp; done))); (first | done | fail)) ?_; conv => arg 4; cbv)
    | (refine Sat.call (w_laws_heldIntS x.Witnesses (k + 1 * (x.Replicas.length : Int)) hb.2 (by (first | omega | (simp only [ncast, true_and, List.length_append, List.length_take, List.length_drop, List.length_replicate, List.length_cons, List.length_nil] at *; omega)))) rfl (by (repeat' (first | exact led_nil | refine led_cons ?_ ?_ | exact .same _ | exact .int rfl | exact .int (held_k (by assumption)) | exact .sl rfl | exact .str rfl | exact .nil rfl | exact .emp rfl | refine .agg rfl ?_ | refine .tup rfl ?_ | (refine .sl ?_; simp; done))); (first | done | fail)) ?_; conv => arg 4; cbv)
    | (refine Sat.need (by (try dsimp only); (first | omega | (simp only [ncast, true_and, List.length_append, List.length_take, List.length_drop, List.length_replicate, List.length_cons, List.length_nil] at *; omega))) ?_; conv => arg 4; cbv)
    | (refine Sat.idxk (by assumption) ?_; conv => arg 4; cbv) | (refine Sat.idx (by (try dsimp only); (first | omega | (simp only [ncast, true_and, List.length_append, List.length_take, List.length_drop, List.length_replicate, List.length_cons, List.length_nil] at *; omega))) (fun v_ hv_ => ?_); conv => arg 4; cbv)
    | (refine Sat.ari64 (by (try dsimp only); (first | omega | (simp only [ncast, true_and, List.length_append, List.length_take, List.length_drop, List.length_replicate, List.length_cons, List.length_nil] at *; omega))) (by (try dsimp only); (first | omega | (simp only [ncast, true_and, List.length_append, List.length_take, List.length_drop, List.length_replicate, List.length_cons, List.length_nil] at *; omega))) ?_; conv => arg 4; cbv)
    | (refine Sat.pop ?_; conv => arg 4; cbv)
    | refine Sat.done ?_
  all_goals refine .int ?_
  all_goals simp only [mkConfig_iff]
  all_goals (repeat' split at *)
  all_goals (try simp only [nConfig, ncast] at *)
  all_goals first | omega | (exfalso; simp_all; done) | (exfalso; simp_all; omega)

def nAcceptor (x : GAcceptor) : Int := nConfig x.Value
theorem nAcceptor_rng {x : GAcceptor} (hb : bAcceptor x) : 0 ≤ nAcceptor x ∧ nAcceptor x ≤ 35184372088832 := by
  have := nConfig_rng hb
  unfold nAcceptor
  omega

@[simp] def mkAcceptor (k : Int) (x : GAcceptor) : GAcceptor := { x with Value := mkConfig (k) x.Value }

theorem mkAcceptor_iff {x : GAcceptor} {k : Int} : mkAcceptor k x = x ↔ mkConfig (k) x.Value = x.Value := by
  cases x
  simp [mkAcceptor, GAcceptor.ext_iff]

theorem w_laws_markAcceptor (x : GAcceptor) (k : Int) (hb : bAcceptor x) (hk : 0 ≤ k ∧ k ≤ 1000000000000000000) : FnM Pr n_laws_markAcceptor [.agg [.int .i64 (fun _ => x.Promised), .int .i64 (fun _ => x.Ballot), .int .i64 (fun _ => x.Value.Epoch), .int .i64 (fun _ => x.Value.Primary), .ptr 0 0, .ptr 1 0], .int .i64 (fun _ => k)] [.sl 1 (encI .i64) (fun _ => x.Value.Replicas), .sl 1 (encI .i64) (fun _ => x.Value.Witnesses)] (.agg [.int .i64 (fun _ => k + nAcceptor x)]) [.sl 1 (encI .i64) (fun _ => mkIntS (k) x.Value.Replicas.length), .sl 1 (encI .i64) (fun _ => mkIntS (k + 1 * (x.Value.Replicas.length : Int)) x.Value.Witnesses.length)] := by
  refine k_laws_markAcceptor.fnm (by kernel_rfl) ⟨.mk (by simp [mkIntS]), .mk (by simp [mkIntS]), trivial⟩ ?_
  have : x.Value.Replicas.length * 8 ≤ 140737488351232 := hb.1
  have : x.Value.Witnesses.length * 8 ≤ 140737488351232 := hb.2
  have := nConfig_rng hb
  conv => arg 4; cbv
  repeat' first
    | (refine Sat.cmp (fun h => ?_) (fun h => ?_) <;> simp only [Cmp.holds] at h <;> (conv => arg 4; cbv))
    | (refine Sat.callm (w_laws_markConfig x.Value (k) hb (by (first | omega | (simp only [ncast, true_and, List.length_append, List.length_take, List.length_drop, List.length_replicate, List.length_cons, List.length_nil] at *; omega)))) rfl (by (repeat' (first | exact led_nil | refine led_cons ?_ ?_ | exact .same _ | exact .int rfl | exact .sl rfl | exact .str rfl | exact .nil rfl | exact .emp rfl | refine .agg rfl ?_ | refine .tup rfl ?_ | (refine .sl ?_; simp; done))); (first | done | fail)) rfl (by (repeat' (first | exact led_nil | refine led_cons ?_ ?_ | exact .same _ | exact .int rfl | exact .sl rfl | exact .str rfl | exact .nil rfl | exact .emp rfl | refine .agg rfl ?_ | refine .tup rfl ?_ | (refine .sl ?_; simp; done))); (first | done | fail)) ?_; conv => arg 4; cbv)
    | (refine Sat.need (by (try dsimp only); (first | omega | (simp only [ncast, true_and, List.length_append, List.length_take, List.length_drop, List.length_replicate, List.length_cons, List.length_nil] at *; omega))) ?_; conv => arg 4; cbv)
    | (refine Sat.need (by (repeat' (first | exact trivial | refine And.intro ?_ ?_ | rfl | (dsimp only; simp [genL_length]; done))); (first | done | fail)) ?_; conv => arg 4; cbv)
    | (refine Sat.idxk (by assumption) ?_; conv => arg 4; cbv) | (refine Sat.idx (by (try dsimp only); (first | omega | (simp only [ncast, true_and, List.length_append, List.length_take, List.length_drop, List.length_replicate, List.length_cons, List.length_nil] at *; omega))) (fun v_ hv_ => ?_); conv => arg 4; cbv)
    | (refine Sat.ari64 (by (try dsimp only); (first | omega | (simp only [ncast, true_and, List.length_append, List.length_take, List.length_drop, List.length_replicate, List.length_cons, List.length_nil] at *; omega))) (by (try dsimp only); (first | omega | (simp only [ncast, true_and, List.length_append, List.length_take, List.length_drop, List.length_replicate, List.length_cons, List.length_nil] at *; omega))) ?_; conv => arg 4; cbv)
    | (refine Sat.pop ?_; conv => arg 4; cbv)
    | refine Sat.done ?_
  all_goals refine .tup rfl (led_cons ?_ (led_cons ?_ (led_cons ?_ (led_nil))))
  all_goals try exact .agg rfl (led_cons (.int rfl) led_nil)
  all_goals first
    | (refine .agg rfl (led_cons (.int ?_) led_nil); simp only [nAcceptor, nConfig, ncast] at *; omega)
    | exact .sl rfl
    | (refine .sl ?_; (try dsimp only); congr 1; (try simp only [nAcceptor, nConfig]); omega)

theorem w_laws_heldAcceptor (x : GAcceptor) (k : Int) (hb : bAcceptor x) (hk : 0 ≤ k ∧ k ≤ 1000000000000000000) : Fn Pr n_laws_heldAcceptor [aGAcceptor x, .int .i64 (fun _ => k)] (.int .i64 (fun _ => if mkAcceptor k x = x then k + nAcceptor x else -1)) := by
  have : x.Value.Replicas.length * 8 ≤ 140737488351232 := hb.1
  have : x.Value.Witnesses.length * 8 ≤ 140737488351232 := hb.2
  have := nConfig_rng hb
  refine k_laws_heldAcceptor.fn (by kernel_rfl) ?_
  conv => arg 4; cbv
  repeat' first
    | (refine Sat.cmp (fun h => ?_) (fun h => ?_) <;> simp only [Cmp.holds] at h <;> (conv => arg 4; cbv))
    | (refine Sat.call (w_laws_heldConfig x.Value (k) hb (by (first | omega | (simp only [ncast, true_and, List.length_append, List.length_take, List.length_drop, List.length_replicate, List.length_cons, List.length_nil] at *; omega)))) rfl (by (repeat' (first | exact led_nil | refine led_cons ?_ ?_ | exact .same _ | exact .int rfl | exact .int (held_k (by assumption)) | exact .sl rfl | exact .str rfl | exact .nil rfl | exact .emp rfl | refine .agg rfl ?_ | refine .tup rfl ?_ | (refine .sl ?_; simp; done))); (first | done | fail)) ?_; conv => arg 4; cbv)
    | (refine Sat.need (by (try dsimp only); (first | omega | (simp only [ncast, true_and, List.length_append, List.length_take, List.length_drop, List.length_replicate, List.length_cons, List.length_nil] at *; omega))) ?_; conv => arg 4; cbv)
    | (refine Sat.idxk (by assumption) ?_; conv => arg 4; cbv) | (refine Sat.idx (by (try dsimp only); (first | omega | (simp only [ncast, true_and, List.length_append, List.length_take, List.length_drop, List.length_replicate, List.length_cons, List.length_nil] at *; omega))) (fun v_ hv_ => ?_); conv => arg 4; cbv)
    | (refine Sat.ari64 (by (try dsimp only); (first | omega | (simp only [ncast, true_and, List.length_append, List.length_take, List.length_drop, List.length_replicate, List.length_cons, List.length_nil] at *; omega))) (by (try dsimp only); (first | omega | (simp only [ncast, true_and, List.length_append, List.length_take, List.length_drop, List.length_replicate, List.length_cons, List.length_nil] at *; omega))) ?_; conv => arg 4; cbv)
    | (refine Sat.pop ?_; conv => arg 4; cbv)
    | refine Sat.done ?_
  all_goals refine .int ?_
  all_goals simp only [mkAcceptor_iff]
  all_goals (repeat' split at *)
  all_goals (try simp only [nAcceptor, nConfig, ncast] at *)
  all_goals first | omega | (exfalso; simp_all; done) | (exfalso; simp_all; omega)

theorem w_laws_heldAcceptor_mk (x : GAcceptor) (k : Int) (hb : bAcceptor x) (hk : 0 ≤ k ∧ k ≤ 1000000000000000000) : Fn Pr n_laws_heldAcceptor [aGAcceptor (mkAcceptor k x), .int .i64 (fun _ => k)] (.int .i64 (fun _ => k + nAcceptor x)) := by
  have h := w_laws_heldAcceptor (mkAcceptor k x) k (by simpa [bAcceptor, bConfig, bIntS, bIntS] using hb) hk
  have e : mkAcceptor k (mkAcceptor k x) = mkAcceptor k x := by simp [nAcceptor, nConfig]
  have e2 : nAcceptor (mkAcceptor k x) = nAcceptor x := by simp [nAcceptor, nConfig]
  rw [if_pos e, e2] at h
  exact h

theorem flat_encI (k : IntKind) (y : Int) (j : Nat) (hj : j < 1) : flat (encI k y j) = true := rfl

/-- x is put behind all that are not greater. -/
def oins (x : Int) : List Int → List Int
  | [] => [x]
  | y :: r => if x < y then x :: y :: r else y :: oins x r
def isort (l : List Int) : List Int := l.foldl (fun p x => oins x p) []
def Asc (l : List Int) : Prop := l.Pairwise (· ≤ ·)
theorem oins_len {x : Int} : ∀ {l : List Int}, (oins x l).length = l.length + 1
  | [] => rfl
  | y :: r => by
    rw [oins]
    split
    · rfl
    · simp [oins_len (x := x) (l := r)]
theorem isort_snoc {l : List Int} {x : Int} : isort (l ++ [x]) = oins x (isort l) := by simp [isort]
theorem fold_len : ∀ {l p : List Int}, (l.foldl (fun p x => oins x p) p).length = p.length + l.length
  | [], p => by simp
  | x :: r, p => by
    rw [List.foldl_cons, fold_len (l := r), oins_len, List.length_cons]
    omega
theorem isort_len {l : List Int} : (isort l).length = l.length := by rw [isort, fold_len]; simp
theorem oins_mem {x y : Int} : ∀ {l : List Int}, y ∈ oins x l ↔ y = x ∨ y ∈ l
  | [] => by simp [oins]
  | z :: r => by
    rw [oins]
    split
    · simp
    · rw [List.mem_cons, oins_mem (l := r), List.mem_cons]
      constructor
      · rintro (h | h | h)
        · exact .inr (.inl h)
        · exact .inl h
        · exact .inr (.inr h)
      · rintro (h | h | h)
        · exact .inr (.inl h)
        · exact .inl h
        · exact .inr (.inr h)
theorem oins_asc {x : Int} : ∀ {l : List Int}, Asc l → Asc (oins x l)
  | [], _ => by simp [oins, Asc]
  | y :: r, h => by
    obtain ⟨h1, h2⟩ := List.pairwise_cons.1 h
    rw [oins]
    split
    · rename_i hlt
      refine List.pairwise_cons.2 ⟨fun z hz => ?_, h⟩
      rcases List.mem_cons.1 hz with rfl | hz
      · omega
      · have := h1 z hz; omega
    · rename_i hlt
      refine List.pairwise_cons.2 ⟨fun z hz => ?_, oins_asc h2⟩
      rcases oins_mem.1 hz with rfl | hz
      · omega
      · exact h1 z hz
theorem fold_asc : ∀ {l p : List Int}, Asc p → Asc (l.foldl (fun p x => oins x p) p)
  | [], p, h => h
  | x :: r, p, h => fold_asc (l := r) (oins_asc h)
theorem isort_asc (l : List Int) : Asc (isort l) := fold_asc List.Pairwise.nil
theorem fold_mem {y : Int} : ∀ {l p : List Int}, y ∈ l.foldl (fun p x => oins x p) p ↔ y ∈ p ∨ y ∈ l
  | [], p => by simp
  | x :: r, p => by
    rw [List.foldl_cons, fold_mem (l := r), oins_mem, List.mem_cons]
    constructor
    · rintro ((h | h) | h)
      · exact .inr (.inl h)
      · exact .inl h
      · exact .inr (.inr h)
    · rintro (h | h | h)
      · exact .inl (.inr h)
      · exact .inl (.inl h)
      · exact .inr h
theorem isort_mem {y : Int} {l : List Int} : y ∈ isort l ↔ y ∈ l := by rw [isort, fold_mem]; simp
theorem oins_at {x : Int} : ∀ {p q : List Int}, (∀ y ∈ p, y ≤ x) → (∀ y ∈ q, x < y) → oins x (p ++ q) = p ++ x :: q
  | [], [], _, _ => rfl
  | [], y :: q, _, h => by
    have := h y (List.mem_cons_self ..)
    rw [List.nil_append, oins, if_pos this, List.nil_append]
  | z :: p, q, h1, h2 => by
    have := h1 z (List.mem_cons_self ..)
    rw [List.cons_append, oins, if_neg (by omega), oins_at (fun y hy => h1 y (List.mem_cons_of_mem _ hy)) h2, List.cons_append]

theorem get_at {α : Type _} {p q : List α} {x : α} {k : Nat} (h : k = p.length) : (p ++ x :: q)[k]? = some x := by subst h; simp
theorem set_at {α : Type} {p q : List α} {x z : α} {k : Nat} (h : k = p.length) : setAt (p ++ x :: q) k z = p ++ z :: q := by subst h; simp [setAt]
theorem snoc_or {α : Type _} (l : List α) : l = [] ∨ ∃ L b, l = L ++ [b] := by
  rcases List.eq_nil_or_concat l with h | ⟨L, b, h⟩
  · exact .inl h
  · exact .inr ⟨L, b, by rw [h, List.concat_eq_append]⟩
theorem get_at2 {α : Type _} {p t : List α} {y : α} {k : Nat} (h : k = p.length) : ((p ++ [y]) ++ t)[k]? = some y := by subst h; simp
theorem set_at2 {α : Type} {p t : List α} {y z : α} {k : Nat} (h : k = p.length) : setAt ((p ++ [y]) ++ t) k z = (p ++ [z]) ++ t := by subst h; simp [setAt]

theorem w_cmp_isNaN_int (x : Int) : Fn Pr n_cmp_isNaN_int [.int .i64 (fun _ => x)] (.bo false) := by
  refine k_cmp_isNaN_int.fn (by kernel_rfl) ?_
  conv => arg 4; cbv
  repeat' first
    | (refine Sat.cmp (fun h => ?_) (fun h => ?_) <;> simp only [Cmp.holds] at h <;> (conv => arg 4; cbv))
    | (refine Sat.need (by (try dsimp only); (first | omega | (simp only [ncast, true_and, List.length_append, List.length_take, List.length_drop, List.length_replicate, List.length_cons, List.length_nil] at *; omega))) ?_; conv => arg 4; cbv)
    | (refine Sat.idxk (by assumption) ?_; conv => arg 4; cbv) | (refine Sat.idx (by (try dsimp only); (first | omega | (simp only [ncast, true_and, List.length_append, List.length_take, List.length_drop, List.length_replicate, List.length_cons, List.length_nil] at *; omega))) (fun v_ hv_ => ?_); conv => arg 4; cbv)
    | (refine Sat.ari64 (by (try dsimp only); (first | omega | (simp only [ncast, true_and, List.length_append, List.length_take, List.length_drop, List.length_replicate, List.length_cons, List.length_nil] at *; omega))) (by (try dsimp only); (first | omega | (simp only [ncast, true_and, List.length_append, List.length_take, List.length_drop, List.length_replicate, List.length_cons, List.length_nil] at *; omega))) ?_; conv => arg 4; cbv)
    | (refine Sat.pop ?_; conv => arg 4; cbv)
    | refine Sat.done ?_
  all_goals first | exact led_bo rfl | contradiction | (exfalso; simp_all; done)

theorem w_cmp_Less_int (x y : Int) : Fn Pr n_cmp_Less_int [.int .i64 (fun _ => x), .int .i64 (fun _ => y)] (.bo (decide (x < y))) := by
  refine k_cmp_Less_int.fn (by kernel_rfl) ?_
  conv => arg 4; cbv
  repeat' first
    | (refine Sat.cmp (fun h => ?_) (fun h => ?_) <;> simp only [Cmp.holds] at h <;> (conv => arg 4; cbv))
    | (refine Sat.call (w_cmp_isNaN_int _) rfl (by (repeat' (first | exact led_nil | refine led_cons ?_ ?_ | exact .same _ | exact .int rfl | exact .sl rfl | exact .str rfl | exact .nil rfl | exact .emp rfl | refine .agg rfl ?_ | refine .tup rfl ?_ | (refine .sl ?_; simp; done))); (first | done | fail)) ?_; conv => arg 4; cbv)
    | (refine Sat.need (by (try dsimp only); (first | omega | (simp only [ncast, true_and, List.length_append, List.length_take, List.length_drop, List.length_replicate, List.length_cons, List.length_nil] at *; omega))) ?_; conv => arg 4; cbv)
    | (refine Sat.idxk (by assumption) ?_; conv => arg 4; cbv) | (refine Sat.idx (by (try dsimp only); (first | omega | (simp only [ncast, true_and, List.length_append, List.length_take, List.length_drop, List.length_replicate, List.length_cons, List.length_nil] at *; omega))) (fun v_ hv_ => ?_); conv => arg 4; cbv)
    | (refine Sat.ari64 (by (try dsimp only); (first | omega | (simp only [ncast, true_and, List.length_append, List.length_take, List.length_drop, List.length_replicate, List.length_cons, List.length_nil] at *; omega))) (by (try dsimp only); (first | omega | (simp only [ncast, true_and, List.length_append, List.length_take, List.length_drop, List.length_replicate, List.length_cons, List.length_nil] at *; omega))) ?_; conv => arg 4; cbv)
    | (refine Sat.pop ?_; conv => arg 4; cbv)
    | refine Sat.done ?_
  all_goals refine led_bo ?_
  all_goals simp <;> omega

set_option maxHeartbeats 1000000 in
theorem w_slices_insertionSortOrdered_int (l : List Int) (hb : l.length ≤ 1000000) : FnM Pr n_slices_insertionSortOrdered_int [.ptr 0 0, .int .i64 (fun _ => 0), .int .i64 (fun _ => l.length)] [.sl 1 (encI .i64) (fun _ => l)] (.agg [.tup []]) [.sl 1 (encI .i64) (fun _ => isort l)] := by
  refine k_slices_insertionSortOrdered_int.fnm (by kernel_rfl) ⟨.mk isort_len, trivial⟩ ?_
  conv => arg 4; cbv
  (refine Sat.ari64 (by (try dsimp only); (first | omega | (simp only [ncast, true_and, List.length_append, List.length_take, List.length_drop, List.length_replicate, List.length_cons, List.length_nil] at *; omega))) (by (try dsimp only); (first | omega | (simp only [ncast, true_and, List.length_append, List.length_take, List.length_drop, List.length_replicate, List.length_cons, List.length_nil] at *; omega))) ?_; conv => arg 4; cbv)
  have hst : isort (l.take 1) = l.take 1 := by
    cases l with
    | nil => rfl
    | cons a r => simp [isort, oins]
  refine Sat.loopP (ι := Nat) (fun i => [(6, .int .i64 (fun _ => (i : Int)))]) (fun i => [(0, .row 1 (encI .i64) (fun _ => isort (l.take i) ++ l.drop i) true)]) (fun i => 1 ≤ i ∧ i ≤ max 1 l.length) (fun i => l.length - i) 1 ?_ (by omega) (fun i hi => ?_)
  · refine les_of ?_ ?_ rfl
    · repeat' (first | exact trivial | refine And.intro ?_ ?_ | exact .any _ | exact .undef | exact .bo _ | exact .nil | exact .emp | exact .int rfl | exact .sl rfl | exact .str rfl | exact .ptr (fun h => nomatch h) | exact .rptr _ | exact .clo rfl (fun i x y h => by simp at h) | exact .ref (fun h => nomatch h) (fun h => nomatch h) rfl rfl | exact lev_nil | refine lev_cons ?_ ?_ | refine LeV.agg rfl ?_ | (first | exact .int (by (try dsimp only); (first | omega | (simp only [ncast, true_and, List.length_append, List.length_take, List.length_drop, List.length_replicate, List.length_cons, List.length_nil] at *; omega))) | (show l = isort (l.take 1) ++ l.drop 1; rw [hst, List.take_append_drop])))
    · repeat' (first | exact trivial | refine And.intro ?_ ?_ | exact Nat.le_of_ble_eq_true rfl | exact Or.inl ⟨_, rfl, .row rfl⟩ | refine Or.inl ⟨_, rfl, .row ?_⟩ | refine Or.inl ⟨_, rfl, .lit rfl ?_⟩ | exact Or.inr ⟨rfl, rfl⟩ | exact .any _ | exact .undef | exact .bo _ | exact .nil | exact .emp | exact .int rfl | exact .sl rfl | exact .str rfl | exact .ptr (fun h => nomatch h) | exact .rptr _ | exact .clo rfl (fun i x y h => by simp at h) | exact .ref (fun h => nomatch h) (fun h => nomatch h) rfl rfl | exact lev_nil | refine lev_cons ?_ ?_ | refine LeV.agg rfl ?_ | (first | exact .int (by (try dsimp only); (first | omega | (simp only [ncast, true_and, List.length_append, List.length_take, List.length_drop, List.length_replicate, List.length_cons, List.length_nil] at *; omega))) | (show l = isort (l.take 1) ++ l.drop 1; rw [hst, List.take_append_drop])))
  have hl0 : (isort (l.take i)).length = min i l.length := by rw [isort_len]; simp
  conv => arg 4; cbv
  refine Sat.cmp (fun h => ?_) (fun h => ?_) <;> simp only [Cmp.holds] at h <;> (conv => arg 4; cbv)
  · have hil : i < l.length := by (first | omega | (simp only [ncast, true_and, List.length_append, List.length_take, List.length_drop, List.length_replicate, List.length_cons, List.length_nil] at *; omega))
    obtain ⟨x, hx⟩ : ∃ x, l[i]? = some x := ⟨_, List.getElem?_eq_getElem hil⟩
    refine Sat.loopP (ι := List Int × List Int) (fun p => [(7, .int .i64 (fun _ => (p.1.length : Int)))]) (fun p => [(0, .row 1 (encI .i64) (fun _ => p.1 ++ x :: (p.2 ++ l.drop (i + 1))) true)]) (fun p => p.1 ++ p.2 = isort (l.take i) ∧ ∀ y ∈ p.2, x < y) (fun p => p.1.length) (isort (l.take i), []) ?_ ⟨by simp, by simp⟩ (fun p hp => ?_)
    · refine les_of ?_ ?_ rfl
      · repeat' (first | exact trivial | refine And.intro ?_ ?_ | exact .any _ | exact .undef | exact .bo _ | exact .nil | exact .emp | exact .int rfl | exact .sl rfl | exact .str rfl | exact .ptr (fun h => nomatch h) | exact .rptr _ | exact .clo rfl (fun i x y h => by simp at h) | exact .ref (fun h => nomatch h) (fun h => nomatch h) rfl rfl | exact lev_nil | refine lev_cons ?_ ?_ | refine LeV.agg rfl ?_ | (first | exact .int (by (try dsimp only); (first | omega | (simp only [ncast, true_and, List.length_append, List.length_take, List.length_drop, List.length_replicate, List.length_cons, List.length_nil] at *; omega))) | (rw [drop_get hx]; simp; done)))
      · repeat' (first | exact trivial | refine And.intro ?_ ?_ | exact Nat.le_of_ble_eq_true rfl | exact Or.inl ⟨_, rfl, .row rfl⟩ | refine Or.inl ⟨_, rfl, .row ?_⟩ | refine Or.inl ⟨_, rfl, .lit rfl ?_⟩ | exact Or.inr ⟨rfl, rfl⟩ | exact .any _ | exact .undef | exact .bo _ | exact .nil | exact .emp | exact .int rfl | exact .sl rfl | exact .str rfl | exact .ptr (fun h => nomatch h) | exact .rptr _ | exact .clo rfl (fun i x y h => by simp at h) | exact .ref (fun h => nomatch h) (fun h => nomatch h) rfl rfl | exact lev_nil | refine lev_cons ?_ ?_ | refine LeV.agg rfl ?_ | (first | exact .int (by (try dsimp only); (first | omega | (simp only [ncast, true_and, List.length_append, List.length_take, List.length_drop, List.length_replicate, List.length_cons, List.length_nil] at *; omega))) | (rw [drop_get hx]; simp; done)))
    obtain ⟨p1, p2⟩ := p
    obtain ⟨hp1, hp2⟩ := hp
    have hlen : p1.length + p2.length = i := by have := congrArg List.length hp1; rw [List.length_append, hl0] at this; simp only at this; omega
    have hdl : (l.drop (i + 1)).length = l.length - (i + 1) := by simp
    conv => arg 4; cbv
    dsimp only at hp1 hp2
    rcases snoc_or p1 with rfl | ⟨p0, y, rfl⟩
    · -- the begin
      have hi2 : oins x (isort (l.take i)) = [] ++ x :: p2 := by rw [← hp1]; exact oins_at (p := []) (by simp) hp2
      refine Sat.cmp (fun h => ?_) (fun h => ?_) <;> simp only [Cmp.holds] at h <;> (conv => arg 4; cbv)
      · exact absurd h (by simp)
      repeat' first
        | (refine Sat.pop ?_; conv => arg 4; cbv)
        | (refine Sat.ari64 (by (try dsimp only); (first | omega | (simp only [ncast, true_and, List.length_append, List.length_take, List.length_drop, List.length_replicate, List.length_cons, List.length_nil] at *; omega))) (by (try dsimp only); (first | omega | (simp only [ncast, true_and, List.length_append, List.length_take, List.length_drop, List.length_replicate, List.length_cons, List.length_nil] at *; omega))) ?_; conv => arg 4; cbv)
        | refine Sat.next (i + 1) ?_ ?_ (by (try dsimp only); (first | omega | (simp only [ncast, true_and, List.length_append, List.length_take, List.length_drop, List.length_replicate, List.length_cons, List.length_nil] at *; omega)))
      · refine les_of ?_ ?_ rfl
        · repeat' (first | exact trivial | refine And.intro ?_ ?_ | exact .any _ | exact .undef | exact .bo _ | exact .nil | exact .emp | exact .int rfl | exact .sl rfl | exact .str rfl | exact .ptr (fun h => nomatch h) | exact .rptr _ | exact .clo rfl (fun i x y h => by simp at h) | exact .ref (fun h => nomatch h) (fun h => nomatch h) rfl rfl | exact lev_nil | refine lev_cons ?_ ?_ | refine LeV.agg rfl ?_ | (first | exact .int (by (try dsimp only); (first | omega | (simp only [ncast, true_and, List.length_append, List.length_take, List.length_drop, List.length_replicate, List.length_cons, List.length_nil] at *; omega))) | (show [] ++ x :: (p2 ++ l.drop (i + 1)) = isort (l.take (i + 1)) ++ l.drop (i + 1); rw [List.take_add_one, hx]; simp [isort_snoc, hi2])))
        · repeat' (first | exact trivial | refine And.intro ?_ ?_ | exact Nat.le_of_ble_eq_true rfl | exact Or.inl ⟨_, rfl, .row rfl⟩ | refine Or.inl ⟨_, rfl, .row ?_⟩ | refine Or.inl ⟨_, rfl, .lit rfl ?_⟩ | exact Or.inr ⟨rfl, rfl⟩ | exact .any _ | exact .undef | exact .bo _ | exact .nil | exact .emp | exact .int rfl | exact .sl rfl | exact .str rfl | exact .ptr (fun h => nomatch h) | exact .rptr _ | exact .clo rfl (fun i x y h => by simp at h) | exact .ref (fun h => nomatch h) (fun h => nomatch h) rfl rfl | exact lev_nil | refine lev_cons ?_ ?_ | refine LeV.agg rfl ?_ | (first | exact .int (by (try dsimp only); (first | omega | (simp only [ncast, true_and, List.length_append, List.length_take, List.length_drop, List.length_replicate, List.length_cons, List.length_nil] at *; omega))) | (show [] ++ x :: (p2 ++ l.drop (i + 1)) = isort (l.take (i + 1)) ++ l.drop (i + 1); rw [List.take_add_one, hx]; simp [isort_snoc, hi2])))
      · (first | omega | (simp only [ncast, true_and, List.length_append, List.length_take, List.length_drop, List.length_replicate, List.length_cons, List.length_nil] at *; omega))
    · have hy1 : y ∈ isort (l.take i) := by rw [← hp1]; simp
      have hle : ∀ z ∈ p0, z ≤ y := fun z hz => by
        have ha := isort_asc (l.take i)
        rw [← hp1, Asc, List.pairwise_append] at ha
        exact (List.pairwise_append.1 ha.1).2.2 z hz y (by simp)
      have hi2 : y ≤ x → oins x (isort (l.take i)) = (p0 ++ [y]) ++ x :: p2 := fun hyx => by
        rw [← hp1]
        refine oins_at (fun z hz => ?_) hp2
        rcases List.mem_append.1 hz with hz | hz
        · have := hle z hz; omega
        · simp at hz; omega
      simp only [List.length_append, List.length_singleton] at hlen
      repeat' first
        | (refine Sat.cmp (fun h => ?_) (fun h => ?_) <;> simp only [Cmp.holds] at h <;> (conv => arg 4; cbv))
        | (refine Sat.need (by (try dsimp only); simp only [ncast, setAt, List.length_set, List.length_append, List.length_cons, List.length_nil] at *; omega) ?_; conv => arg 4; cbv)
        | (refine Sat.idxk (get_at (by (try dsimp only); simp only [ncast, List.length_append, List.length_cons, List.length_nil] at *; omega)) ?_; conv => arg 4; cbv)
        | (refine Sat.idxk (get_at2 (by (try dsimp only); simp only [ncast, List.length_append, List.length_cons, List.length_nil] at *; omega)) ?_; conv => arg 4; cbv)
        | (refine Sat.idx (by (try dsimp only); simp only [ncast, setAt, List.length_set, List.length_append, List.length_cons, List.length_nil] at *; omega) (fun v_ hv_ => ?_); conv => arg 4; cbv)
        | (refine Sat.callb (w_cmp_Less_int _ _) rfl (by (repeat' (first | exact led_nil | refine led_cons ?_ ?_ | exact .same _ | exact .int rfl | exact .sl rfl | exact .str rfl | exact .nil rfl | exact .emp rfl | refine .agg rfl ?_ | refine .tup rfl ?_ | (refine .sl ?_; simp; done))); (first | done | fail)) (fun h => ?_) (fun h => ?_) <;> (try simp only [decide_eq_true_eq, decide_eq_false_iff_not] at h) <;> (conv => arg 4; cbv))
        | (refine Sat.typed _ (by (repeat' (first | exact tnil | refine tcons ?_ ?_ | exact .same _ | exact .int rfl | exact .str rfl | exact .sl rfl | exact .nil rfl | (refine .sl ?_; simp; done))); (first | done | fail)) ?_; conv => arg 4; cbv)
        | (refine Sat.ari64 (by (try dsimp only); simp only [ncast, List.length_append, List.length_cons, List.length_nil] at *; omega) (by (try dsimp only); simp only [ncast, List.length_append, List.length_cons, List.length_nil] at *; omega) ?_; conv => arg 4; cbv)
        | refine Sat.next (p0, y :: p2) ?_ ?_ (by simp)
        | (refine Sat.pop ?_; conv => arg 4; cbv)
        | refine Sat.next (i + 1) ?_ ?_ (by (try dsimp only); (first | omega | (simp only [ncast, true_and, List.length_append, List.length_take, List.length_drop, List.length_replicate, List.length_cons, List.length_nil] at *; omega)))
      · refine les_of ?_ ?_ rfl
        · repeat' (first | exact trivial | refine And.intro ?_ ?_ | exact .any _ | exact .undef | exact .bo _ | exact .nil | exact .emp | exact .int rfl | exact .sl rfl | exact .str rfl | exact .ptr (fun h => nomatch h) | exact .rptr _ | exact .clo rfl (fun i x y h => by simp at h) | exact .ref (fun h => nomatch h) (fun h => nomatch h) rfl rfl | exact lev_nil | refine lev_cons ?_ ?_ | refine LeV.agg rfl ?_ | (first | exact .int (by (try dsimp only); simp only [ncast, List.length_append, List.length_cons, List.length_nil] at *; omega) | (show setAt (setAt ((p0 ++ [y]) ++ x :: (p2 ++ l.drop (i + 1))) _ y) _ x = p0 ++ x :: ((y :: p2) ++ l.drop (i + 1)); rw [set_at (by (try dsimp only); simp only [ncast, List.length_append, List.length_cons, List.length_nil] at *; omega), set_at2 (by (try dsimp only); simp only [ncast, List.length_append, List.length_cons, List.length_nil] at *; omega)]; simp)))
        · repeat' (first | exact trivial | refine And.intro ?_ ?_ | exact Nat.le_of_ble_eq_true rfl | exact Or.inl ⟨_, rfl, .row rfl⟩ | refine Or.inl ⟨_, rfl, .row ?_⟩ | refine Or.inl ⟨_, rfl, .lit rfl ?_⟩ | exact Or.inr ⟨rfl, rfl⟩ | exact .any _ | exact .undef | exact .bo _ | exact .nil | exact .emp | exact .int rfl | exact .sl rfl | exact .str rfl | exact .ptr (fun h => nomatch h) | exact .rptr _ | exact .clo rfl (fun i x y h => by simp at h) | exact .ref (fun h => nomatch h) (fun h => nomatch h) rfl rfl | exact lev_nil | refine lev_cons ?_ ?_ | refine LeV.agg rfl ?_ | (first | exact .int (by (try dsimp only); simp only [ncast, List.length_append, List.length_cons, List.length_nil] at *; omega) | (show setAt (setAt ((p0 ++ [y]) ++ x :: (p2 ++ l.drop (i + 1))) _ y) _ x = p0 ++ x :: ((y :: p2) ++ l.drop (i + 1)); rw [set_at (by (try dsimp only); simp only [ncast, List.length_append, List.length_cons, List.length_nil] at *; omega), set_at2 (by (try dsimp only); simp only [ncast, List.length_append, List.length_cons, List.length_nil] at *; omega)]; simp)))
      · exact ⟨by rw [← hp1]; simp, fun z hz => by
          rcases List.mem_cons.1 hz with rfl | hz
          · exact h
          · exact hp2 z hz⟩
      · refine les_of ?_ ?_ rfl
        · repeat' (first | exact trivial | refine And.intro ?_ ?_ | exact .any _ | exact .undef | exact .bo _ | exact .nil | exact .emp | exact .int rfl | exact .sl rfl | exact .str rfl | exact .ptr (fun h => nomatch h) | exact .rptr _ | exact .clo rfl (fun i x y h => by simp at h) | exact .ref (fun h => nomatch h) (fun h => nomatch h) rfl rfl | exact lev_nil | refine lev_cons ?_ ?_ | refine LeV.agg rfl ?_ | (first | exact .int (by (try dsimp only); (first | omega | (simp only [ncast, true_and, List.length_append, List.length_take, List.length_drop, List.length_replicate, List.length_cons, List.length_nil] at *; omega))) | (show (p0 ++ [y]) ++ x :: (p2 ++ l.drop (i + 1)) = isort (l.take (i + 1)) ++ l.drop (i + 1); rw [List.take_add_one, hx]; simp [isort_snoc, hi2 (by omega)])))
        · repeat' (first | exact trivial | refine And.intro ?_ ?_ | exact Nat.le_of_ble_eq_true rfl | exact Or.inl ⟨_, rfl, .row rfl⟩ | refine Or.inl ⟨_, rfl, .row ?_⟩ | refine Or.inl ⟨_, rfl, .lit rfl ?_⟩ | exact Or.inr ⟨rfl, rfl⟩ | exact .any _ | exact .undef | exact .bo _ | exact .nil | exact .emp | exact .int rfl | exact .sl rfl | exact .str rfl | exact .ptr (fun h => nomatch h) | exact .rptr _ | exact .clo rfl (fun i x y h => by simp at h) | exact .ref (fun h => nomatch h) (fun h => nomatch h) rfl rfl | exact lev_nil | refine lev_cons ?_ ?_ | refine LeV.agg rfl ?_ | (first | exact .int (by (try dsimp only); (first | omega | (simp only [ncast, true_and, List.length_append, List.length_take, List.length_drop, List.length_replicate, List.length_cons, List.length_nil] at *; omega))) | (show (p0 ++ [y]) ++ x :: (p2 ++ l.drop (i + 1)) = isort (l.take (i + 1)) ++ l.drop (i + 1); rw [List.take_add_one, hx]; simp [isort_snoc, hi2 (by omega)])))
      · (first | omega | (simp only [ncast, true_and, List.length_append, List.length_take, List.length_drop, List.length_replicate, List.length_cons, List.length_nil] at *; omega))
      all_goals exact absurd (by simp only [ncast, List.length_append, List.length_cons, List.length_nil]; omega) h
  · repeat' first
      | (refine Sat.pop ?_; conv => arg 4; cbv)
      | refine Sat.done ?_
    have e : l.take i = l := List.take_of_length_le (by (first | omega | (simp only [ncast, true_and, List.length_append, List.length_take, List.length_drop, List.length_replicate, List.length_cons, List.length_nil] at *; omega)))
    refine .tup rfl (led_cons (.same _) (led_cons (.sl ?_) led_nil))
    rw [e]; simp; (first | omega | (simp only [ncast, true_and, List.length_append, List.length_take, List.length_drop, List.length_replicate, List.length_cons, List.length_nil] at *; omega))

theorem Sat.ariu64 {P : Program} {Q : AV → Prop} {As : List (St → Prop)} {v : Unit → Int} {c : (Unit → Int) → Tree} (h1 : 0 ≤ v ()) (h2 : v () ≤ 18446744073709551615) (hc : Sat P Q As (c v)) : Sat P Q As (.ari .u64 v c) := .ari (IntWalk.u64_in _ ⟨h1, h2⟩) hc
theorem Sat.ariu8 {P : Program} {Q : AV → Prop} {As : List (St → Prop)} {v : Unit → Int} {c : (Unit → Int) → Tree} (h1 : 0 ≤ v ()) (h2 : v () ≤ 255) (hc : Sat P Q As (c v)) : Sat P Q As (.ari .u8 v c) := .ari (IntWalk.u8_in _ ⟨h1, h2⟩) hc
def len4 (n : Int) : Int := if n = 0 then 0 else if n < 2 then 1 else if n < 4 then 2 else if n < 8 then 3 else 4

theorem w_math_bits_Len64 (n : Int) (hn : 0 ≤ n ∧ n ≤ 12) : Fn Pr n_math_bits_Len64 [.int .u64 (fun _ => n)] (.int .i64 (fun _ => len4 n)) := by
  have hk : n = 0 ∨ n = 1 ∨ n = 2 ∨ n = 3 ∨ n = 4 ∨ n = 5 ∨ n = 6 ∨ n = 7 ∨ n = 8 ∨ n = 9 ∨ n = 10 ∨ n = 11 ∨ n = 12 := by omega
  rcases hk with rfl | rfl | rfl | rfl | rfl | rfl | rfl | rfl | rfl | rfl | rfl | rfl | rfl
  all_goals
    refine k_math_bits_Len64.fn (by kernel_rfl) ?_
    conv => arg 4; cbv
    repeat' first
      | (refine Sat.cmp (fun h => by exfalso; simp only [Cmp.holds] at h; omega) (fun h => ?_); conv => arg 4; cbv)
      | (refine Sat.need (by (try dsimp only); exact ⟨by decide, by decide⟩) ?_; conv => arg 4; cbv)
      | (refine Sat.ariu8 (by (try dsimp only); omega) (by (try dsimp only); omega) ?_; conv => arg 4; cbv)
      | (refine Sat.ari64 (by (try dsimp only); (first | omega | (simp only [ncast, true_and, List.length_append, List.length_take, List.length_drop, List.length_replicate, List.length_cons, List.length_nil] at *; omega))) (by (try dsimp only); (first | omega | (simp only [ncast, true_and, List.length_append, List.length_take, List.length_drop, List.length_replicate, List.length_cons, List.length_nil] at *; omega))) ?_; conv => arg 4; cbv)
      | (refine Sat.ari64 (by (try dsimp only); decide) (by (try dsimp only); decide) ?_; conv => arg 4; cbv)
      | refine Sat.done (.int ?_)
    rfl

theorem w_math_bits_Len (n : Int) (hn : 0 ≤ n ∧ n ≤ 12) : Fn Pr n_math_bits_Len [.int .u64 (fun _ => n)] (.int .i64 (fun _ => len4 n)) := by
  refine k_math_bits_Len.fn (by kernel_rfl) ?_
  conv => arg 4; cbv
  repeat' first
    | (refine Sat.cmp (fun h => ?_) (fun h => ?_) <;> simp only [Cmp.holds] at h <;> (conv => arg 4; cbv))
    | (refine Sat.callb (w_math_bits_Len64 n hn) rfl (by (repeat' (first | exact led_nil | refine led_cons ?_ ?_ | exact .same _ | exact .int rfl | exact .sl rfl | exact .str rfl | exact .nil rfl | exact .emp rfl | refine .agg rfl ?_ | refine .tup rfl ?_ | (refine .sl ?_; simp; done))); (first | done | fail)) (fun h => ?_) (fun h => ?_) <;> (try simp only [decide_eq_true_eq, decide_eq_false_iff_not] at h) <;> (conv => arg 4; cbv))
    | (refine Sat.call (w_math_bits_Len64 n hn) rfl (by (repeat' (first | exact led_nil | refine led_cons ?_ ?_ | exact .same _ | exact .int rfl | exact .sl rfl | exact .str rfl | exact .nil rfl | exact .emp rfl | refine .agg rfl ?_ | refine .tup rfl ?_ | (refine .sl ?_; simp; done))); (first | done | fail)) ?_; conv => arg 4; cbv)
    | (refine Sat.need (by (try dsimp only); (first | omega | (simp only [ncast, true_and, List.length_append, List.length_take, List.length_drop, List.length_replicate, List.length_cons, List.length_nil] at *; omega))) ?_; conv => arg 4; cbv)
    | (refine Sat.idxk (by assumption) ?_; conv => arg 4; cbv) | (refine Sat.idx (by (try dsimp only); (first | omega | (simp only [ncast, true_and, List.length_append, List.length_take, List.length_drop, List.length_replicate, List.length_cons, List.length_nil] at *; omega))) (fun v_ hv_ => ?_); conv => arg 4; cbv)
    | (refine Sat.ari64 (by (try dsimp only); (first | omega | (simp only [ncast, true_and, List.length_append, List.length_take, List.length_drop, List.length_replicate, List.length_cons, List.length_nil] at *; omega))) (by (try dsimp only); (first | omega | (simp only [ncast, true_and, List.length_append, List.length_take, List.length_drop, List.length_replicate, List.length_cons, List.length_nil] at *; omega))) ?_; conv => arg 4; cbv)
    | (refine Sat.pop ?_; conv => arg 4; cbv)
    | refine Sat.done ?_
  all_goals exact .int rfl

end Go.V.T
