/- Contracts of the functions that FnExactRunProposals reaches: what each returns. Conditions: those that each theorem states. -/
import Derived.Test.YtgdhfdkdbfeagabWXRunProposals
namespace Go.V.T
open Go Go.V Go.RowKit
set_option maxRecDepth 100000
set_option linter.unusedVariables false
set_option linter.unusedSimpArgs false
theorem idxF_spec {α : Type} {p : α → Bool} : ∀ {l : List α}, (idxF p l = -1 ∧ ∀ x ∈ l, p x = false) ∨ ∃ i : Nat, ∃ a, idxF p l = i ∧ l[i]? = some a ∧ p a = true ∧ ∀ x ∈ l.take i, p x = false
  | [] => .inl ⟨rfl, by simp⟩
  | x :: r => by
    rw [idxF]
    cases hx : p x with
    | true => exact .inr ⟨0, x, by simp, rfl, hx, by simp⟩
    | false =>
      rw [if_neg (by simp)]
      rcases idxF_spec (p := p) (l := r) with ⟨h1, h2⟩ | ⟨i, a, h1, h2, h3, h4⟩
      · refine .inl ⟨by rw [h1]; simp, fun y hy => ?_⟩
        rcases List.mem_cons.1 hy with rfl | hy
        · exact hx
        · exact h2 y hy
      · refine .inr ⟨i + 1, a, by rw [h1, if_neg (by omega)]; simp, by simpa using h2, h3, fun y hy => ?_⟩
        rw [List.take_succ_cons] at hy
        rcases List.mem_cons.1 hy with rfl | hy
        · exact hx
        · exact h4 y hy
def keep (p : Int → Bool) (l : List Int) : List Int := l.filter (fun x => !p x)
def keepZ (p : Int → Bool) (l : List Int) : List Int := keep p l ++ List.replicate (l.length - (keep p l).length) 0
theorem keep_len {p : Int → Bool} {l : List Int} : (keep p l).length ≤ l.length := List.length_filter_le _ _
theorem keepZ_len {p : Int → Bool} {l : List Int} : (keepZ p l).length = l.length := by have := keep_len (p := p) (l := l); simp [keepZ]; omega
theorem keep_all {p : Int → Bool} {l : List Int} (h : ∀ x ∈ l, p x = false) : keep p l = l := by
  rw [keep, List.filter_eq_self]
  intro x hx
  rw [h x hx]; rfl
theorem keep_snoc {p : Int → Bool} {l : List Int} {j : Nat} {x : Int} (h : l[j]? = some x) : keep p (l.take (j + 1)) = if p x = true then keep p (l.take j) else keep p (l.take j) ++ [x] := by
  rw [List.take_add_one, h, keep, keep, List.filter_append]
  cases e : p x <;> simp [e]

set_option maxHeartbeats 1000000 in
theorem w_slices_DeleteFunc_intint (l b : List Int) (f : Nat) (p : Int → Bool) (hf : ∀ x, Fn Pr f [.int .i64 (fun _ => x), .rptr [.sl 1 (encI .i64) (fun _ => b)]] (.bo (p x))) (hb : l.length ≤ 1000000) : FnM Pr n_slices_DeleteFunc_intint [.ptr 0 0, .clo f [.rptr [.sl 1 (encI .i64) (fun _ => b)]]] [.sl 1 (encI .i64) (fun _ => l)] (.clo 0 [.int .i64 (fun _ => 0), .int .i64 (fun _ => ((keep p l).length : Int))]) [.sl 1 (encI .i64) (fun _ => keepZ p l)] := by
  refine k_slices_DeleteFunc_intint.fnm (by kernel_rfl) ⟨.mk keepZ_len, trivial⟩ ?_
  have h0 : bIntS l := by show l.length * 8 ≤ _; omega
  conv => arg 4; cbv
  rcases idxF_spec (p := p) (l := l) with ⟨h1, h2⟩ | ⟨i, a, h1, h2, h3, h4⟩
  · repeat' first
      | (refine Sat.call (w_slices_IndexFunc_intint l b f p hf h0) rfl ledA ?_; conv => arg 4; cbv)
      | (refine Sat.cmp (fun h => ?_) (fun h => by exfalso; simp only [Cmp.holds] at h; omega); conv => arg 4; cbv)
      | refine Sat.done ?_
    have e := keep_all h2
    have e2 : keepZ p l = l := by simp [keepZ, e]
    rw [e, e2]
    exact .same _
  have hil := lt_of_get h2
  have hk0 : keep p (l.take (i + 1)) = l.take i := by rw [keep_snoc h2, if_pos h3, keep_all h4]
  repeat' first
    | (refine Sat.call (w_slices_IndexFunc_intint l b f p hf h0) rfl ledA ?_; conv => arg 4; cbv)
    | (refine Sat.cmp (fun h => by exfalso; simp only [Cmp.holds] at h; omega) (fun h => ?_); conv => arg 4; cbv)
    | (refine Sat.ari64 ndA ndA ?_; conv => arg 4; cbv)
  refine Sat.loopP (ι := Nat × List Int) (fun q => [(5, .int .i64 (fun _ => ((keep p (l.take q.1)).length : Int))), (6, .int .i64 (fun _ => (q.1 : Int)))]) (fun q => [(0, .row 1 (encI .i64) (fun _ => keep p (l.take q.1) ++ (q.2 ++ l.drop q.1)) true)]) (fun q => q.1 ≤ l.length ∧ (keep p (l.take q.1)).length + q.2.length = q.1 ∧ q.2 ≠ []) (fun q => l.length - q.1) (i + 1, [a]) ?_ ⟨by (try dsimp only); omega, by rw [hk0]; simp; omega, by simp⟩ (fun q hq => ?_)
  · refine les_of ?_ ?_ rfl
    iterate 2 (focus repeat' (first | exact trivial | refine And.intro ?_ ?_ | exact levA | refine lev_cons ?_ ?_ | refine LeV.agg rfl ?_ | exact Nat.le_of_ble_eq_true rfl | exact Or.inl ⟨_, rfl, .row rfl⟩ | refine Or.inl ⟨_, rfl, .row ?_⟩ | refine Or.inl ⟨_, rfl, .lit rfl ?_⟩ | exact Or.inr ⟨rfl, rfl⟩ | (first | exact .clo rfl (lev_cons (.rptr _) lev_nil) | exact .int (by (try dsimp only); first | (rw [hk0, h1]; simp; omega) | exact arA) | (show l = keep p (l.take (i + 1)) ++ ([a] ++ l.drop (i + 1)); rw [hk0, List.singleton_append, ← drop_get h2, List.take_append_drop]))))
  obtain ⟨j, M⟩ := q
  obtain ⟨hj1, hj2, hj3⟩ := hq
  dsimp only at hj1 hj2 hj3
  have hld : (l.drop j).length = l.length - j := by simp
  conv => arg 4; cbv
  refine Sat.cmp (fun h => ?_) (fun h => ?_) <;> simp only [Cmp.holds] at h <;> (conv => arg 4; cbv)
  · have hjl : j < l.length := by exact arA
    obtain ⟨w, hw⟩ : ∃ w, l[j]? = some w := ⟨_, List.getElem?_eq_getElem hjl⟩
    have hdj := drop_get hw
    have hks := keep_snoc (p := p) hw
    obtain ⟨m, M', rfl⟩ : ∃ m M', M = m :: M' := by
      cases M with
      | nil => exact absurd rfl hj3
      | cons m M' => exact ⟨m, M', rfl⟩
    simp only [List.length_cons] at hj2
    have iw : ∀ {n : Nat}, n = j → (keep p (l.take j) ++ (m :: M' ++ l.drop j))[n]? = some w := fun e => by
      rw [hdj, ← List.append_assoc]
      exact get_at (by simp; omega)
    repeat' first
      | (refine Sat.need (by (try dsimp only); simp only [ncast, List.length_append, List.length_cons, List.length_nil, List.length_drop] at *; omega) ?_; conv => arg 4; cbv)
      | (refine Sat.idxk (iw (by (try dsimp only); exact arA)) ?_; conv => arg 4; cbv)
      | (refine Sat.callb (hf w) rfl ledA (fun h => ?_) (fun h => ?_) <;> (conv => arg 4; cbv))
      | (refine Sat.idx (by (try dsimp only); simp only [ncast, setAt, List.length_set, List.length_append, List.length_cons, List.length_nil, List.length_drop] at *; omega) (fun v_ hv_ => ?_); conv => arg 4; cbv)
      | (refine Sat.typed w tcA ?_; conv => arg 4; cbv)
      | (refine Sat.ari64 ndA ndA ?_; conv => arg 4; cbv)
      | (refine Sat.pop ?_; conv => arg 4; cbv)
    · rw [if_pos h] at hks
      refine Sat.next (j + 1, m :: M' ++ [w]) ?_ ⟨by (try dsimp only); omega, by rw [hks]; simp; omega, by simp⟩ (by (try dsimp only); omega)
      refine les_of ?_ ?_ rfl
      iterate 2 (focus repeat' (first | exact trivial | refine And.intro ?_ ?_ | exact levA | refine lev_cons ?_ ?_ | refine LeV.agg rfl ?_ | exact Nat.le_of_ble_eq_true rfl | exact Or.inl ⟨_, rfl, .row rfl⟩ | refine Or.inl ⟨_, rfl, .row ?_⟩ | refine Or.inl ⟨_, rfl, .lit rfl ?_⟩ | exact Or.inr ⟨rfl, rfl⟩ | (first | exact .clo rfl (lev_cons (.rptr _) lev_nil) | exact .int (by (try dsimp only); rw [hks]) | exact .int (by (try dsimp only); exact arA) | (show keep p (l.take j) ++ (m :: M' ++ l.drop j) = keep p (l.take (j + 1)) ++ ((m :: M' ++ [w]) ++ l.drop (j + 1)); rw [hks, hdj]; simp))))
    · rw [if_neg (by rw [h]; simp)] at hks
      refine Sat.next (j + 1, M' ++ [w]) ?_ ⟨by (try dsimp only); omega, by rw [hks]; simp; omega, by simp⟩ (by (try dsimp only); omega)
      refine les_of ?_ ?_ rfl
      iterate 2 (focus repeat' (first | exact trivial | refine And.intro ?_ ?_ | exact levA | refine lev_cons ?_ ?_ | refine LeV.agg rfl ?_ | exact Nat.le_of_ble_eq_true rfl | exact Or.inl ⟨_, rfl, .row rfl⟩ | refine Or.inl ⟨_, rfl, .row ?_⟩ | refine Or.inl ⟨_, rfl, .lit rfl ?_⟩ | exact Or.inr ⟨rfl, rfl⟩ | (first | exact .clo rfl (lev_cons (.rptr _) lev_nil) | exact .int (by (try dsimp only); rw [hks]; simp; done) | exact .int (by (try dsimp only); exact arA) | (show setAt (keep p (l.take j) ++ (m :: M' ++ l.drop j)) _ w = keep p (l.take (j + 1)) ++ ((M' ++ [w]) ++ l.drop (j + 1)); rw [List.cons_append, set_at (by (try dsimp only); exact arA), hks, hdj]; simp))))
  · have hjl : j = l.length := by exact arA
    subst hjl
    rw [List.take_length] at hj2
    repeat' first
      | (refine Sat.pop ?_; conv => arg 4; cbv)
      | (refine Sat.need (by (try dsimp only); simp only [ncast, List.take_length, List.length_append, List.length_cons, List.length_nil, List.length_drop] at *; omega) ?_; conv => arg 4; cbv)
      | (refine Sat.need (fun _ _ _ _ => rfl) ?_; conv => arg 4; cbv)
      | (refine Sat.typed (0 : Int) tcA ?_; conv => arg 4; cbv)
      | refine Sat.done ?_
    refine .tup rfl (led_cons (.clo rfl (led_cons (.int ?_) (led_cons (.int ?_) led_nil))) (led_cons (.sl ?_) led_nil))
    · rfl
    · (try dsimp only); rw [List.take_length]; exact arA
    · (try dsimp only)
      simp only [ncast, List.take_length, List.drop_length, Int.toNat_natCast, Nat.zero_add]
      rw [List.take_left, List.drop_eq_nil_of_le (by simp; omega), List.append_nil]
      rfl

def okSrv (p : Int) : List Int → Bool
  | [] => true
  | x :: r => decide (0 ≤ x ∧ x ≤ 4) && decide (p < x) && okSrv x r
def areServers (l : List Int) : Bool := okSrv (-1) l
/-- The number ahead of place i. -/
def prevS (l : List Int) : Nat → Int
  | 0 => -1
  | i + 1 => match l[i]? with | some e => e | none => 0
theorem prevS_get {l : List Int} {i : Nat} {e : Int} (h : l[i]? = some e) : prevS l (i + 1) = e := by simp [prevS, h]
theorem okSrv_step {l : List Int} {i : Nat} {e : Int} {b : Bool} (hb : b = okSrv (prevS l i) (l.drop i)) (h : l[i]? = some e) (h1 : 0 ≤ e ∧ e ≤ 4) (h3 : prevS l i < e) : b = okSrv (prevS l (i + 1)) (l.drop (i + 1)) := by
  rw [hb, drop_get h, okSrv, prevS_get h, decide_eq_true h1, decide_eq_true h3]
  simp
theorem okSrv_bad {l : List Int} {i : Nat} {e : Int} {b : Bool} (hb : b = okSrv (prevS l i) (l.drop i)) (h : l[i]? = some e) (hn : ¬ ((0 ≤ e ∧ e ≤ 4) ∧ prevS l i < e)) : b = false := by
  rw [hb, drop_get h, okSrv]
  by_cases h1 : 0 ≤ e ∧ e ≤ 4
  · by_cases h3 : prevS l i < e
    · exact absurd ⟨h1, h3⟩ hn
    · rw [decide_eq_false h3]; simp
  · rw [decide_eq_false h1]; simp
theorem okSrv_end {l : List Int} {i : Nat} {b : Bool} (hb : b = okSrv (prevS l i) (l.drop i)) (h : i = l.length) : b = true := by
  rw [hb, h, List.drop_length, okSrv]
theorem prevS_zero {l : List Int} {i : Nat} (h : i = 0) : prevS l i = -1 := by subst h; rfl
theorem prevS_pos {l : List Int} {i j : Nat} {e : Int} (h : l[j]? = some e) (hj : i = j + 1) : prevS l i = e := by subst hj; exact prevS_get h
theorem okSrv_spec : ∀ {l : List Int} {p : Int}, okSrv p l = true → p ≤ 4 → ((l.length : Int) ≤ 4 - p) ∧ (∀ x ∈ l, 0 ≤ x ∧ x ≤ 4 ∧ p < x) ∧ SAsc l
  | [], p, _, hp => ⟨by simp; omega, by simp, List.Pairwise.nil⟩
  | x :: r, p, h, hp => by
    simp only [okSrv, Bool.and_eq_true, decide_eq_true_eq] at h
    obtain ⟨h1, h2, h3⟩ := okSrv_spec h.2 h.1.1.2
    refine ⟨by simp only [List.length_cons]; omega, fun y hy => ?_, List.pairwise_cons.2 ⟨fun y hy => (h2 y hy).2.2, h3⟩⟩
    rcases List.mem_cons.1 hy with rfl | hy
    · exact ⟨h.1.1.1, h.1.1.2, h.1.2⟩
    · have := h2 y hy; omega
theorem areServers_len {l : List Int} (h : areServers l = true) : l.length ≤ 5 := by have := (okSrv_spec h (by omega)).1; omega
theorem areServers_rng {l : List Int} (h : areServers l = true) : ∀ x ∈ l, 0 ≤ x ∧ x ≤ 4 := fun x hx => by have := (okSrv_spec h (by omega)).2.1 x hx; omega
theorem areServers_sasc {l : List Int} (h : areServers l = true) : SAsc l := (okSrv_spec h (by omega)).2.2

theorem w_spec_AreServers (l : List Int) (hb : bIntS l) : Fn Pr n_spec_AreServers [.sl 1 (encI .i64) (fun _ => l)] (.bo (areServers l)) := by
  refine k_spec_AreServers.fn (by kernel_rfl) ?_
  have h0 : l.length * 8 ≤ 140737488351232 := hb
  conv => arg 4; cbv
  refine Sat.loopP (ι := Nat) (fun i => [(3, .int .i64 (fun _ => (i : Int)))]) (fun i => []) (fun i => i ≤ l.length ∧ okSrv (-1) l = okSrv (prevS l i) (l.drop i)) (fun i => l.length - i) 0 ?_ ⟨by omega, by simp [prevS]⟩ (fun i hi => ?_)
  · exact lesA
  conv => arg 4; cbv
  repeat' first
    | (refine Sat.cmp (fun h => ?_) (fun h => ?_) <;> simp only [Cmp.holds] at h <;> (conv => arg 4; cbv))
    | (refine Sat.need ndA ?_; conv => arg 4; cbv)
    | (refine Sat.idxk (by assumption) ?_; conv => arg 4; cbv) | (refine Sat.idx ndA (fun v_ hv_ => ?_); conv => arg 4; cbv)
    | (refine Sat.callb (w_spec_l1In _ _ _) rfl ledA (fun h => ?_) (fun h => ?_) <;> (try simp only [decide_eq_true_eq, decide_eq_false_iff_not] at h) <;> (conv => arg 4; cbv))
    | (refine Sat.ari64 ndA ndA ?_; conv => arg 4; cbv)
    | (refine Sat.pop ?_; conv => arg 4; cbv)
    | refine Sat.next (i + 1) ?_ ?_ (by (try dsimp only); exact arA)
    | refine Sat.done ?_
  · refine led_bo ?_
    rw [areServers, okSrv_bad (i := i) hi.2 (by assumption) (fun q => by have := prevS_pos (l := l) (i := i) hv_ (by exact arA); omega)]
  · exact lesA
  · have := prevS_pos (l := l) (i := i) hv_ (by exact arA)
    exact ⟨by exact arA, okSrv_step hi.2 (by assumption) (by assumption) (by omega)⟩
  · exact lesA
  · have := prevS_zero (l := l) (i := i) (by exact arA)
    exact ⟨by exact arA, okSrv_step hi.2 (by assumption) (by assumption) (by omega)⟩
  · refine led_bo ?_
    rw [areServers, okSrv_bad (i := i) hi.2 (by assumption) (fun q => h q.1)]
  · refine led_bo ?_
    rw [areServers, okSrv_end hi.2 (by exact arA)]

theorem w_impl_AreServers (l : List Int) (hb : bIntS l) : Fn Pr n_impl_AreServers [.sl 1 (encI .i64) (fun _ => l)] (.bo (areServers l)) := by
  refine k_impl_AreServers.fn (by kernel_rfl) ?_
  have h0 : l.length * 8 ≤ 140737488351232 := hb
  conv => arg 4; cbv
  refine Sat.loopP (ι := Nat) (fun i => [(7, .int .i64 (fun _ => (i : Int)))]) (fun i => []) (fun i => i ≤ l.length ∧ okSrv (-1) l = okSrv (prevS l i) (l.drop i)) (fun i => l.length - i) 0 ?_ ⟨by omega, by simp [prevS]⟩ (fun i hi => ?_)
  · exact lesA
  conv => arg 4; cbv
  repeat' first
    | (refine Sat.cmp (fun h => ?_) (fun h => ?_) <;> simp only [Cmp.holds] at h <;> (conv => arg 4; cbv))
    | (refine Sat.need ndA ?_; conv => arg 4; cbv)
    | (refine Sat.idxk (by assumption) ?_; conv => arg 4; cbv) | (refine Sat.idx ndA (fun v_ hv_ => ?_); conv => arg 4; cbv)
    | (refine Sat.callb (w_impl_within _ _ _) rfl ledA (fun h => ?_) (fun h => ?_) <;> (try simp only [decide_eq_true_eq, decide_eq_false_iff_not] at h) <;> (conv => arg 4; cbv))
    | (refine Sat.ari64 ndA ndA ?_; conv => arg 4; cbv)
    | (refine Sat.pop ?_; conv => arg 4; cbv)
    | refine Sat.next (i + 1) ?_ ?_ (by (try dsimp only); exact arA)
    | refine Sat.done ?_
  · refine led_bo ?_
    rw [areServers, okSrv_bad (i := i) hi.2 (by assumption) (fun q => by have := prevS_pos (l := l) (i := i) hv_ (by exact arA); omega)]
  · exact lesA
  · have := prevS_pos (l := l) (i := i) hv_ (by exact arA)
    exact ⟨by exact arA, okSrv_step hi.2 (by assumption) (by assumption) (by omega)⟩
  · exact lesA
  · have := prevS_zero (l := l) (i := i) (by exact arA)
    exact ⟨by exact arA, okSrv_step hi.2 (by assumption) (by assumption) (by omega)⟩
  · refine led_bo ?_
    rw [areServers, okSrv_bad (i := i) hi.2 (by assumption) (fun q => h q.1)]
  · refine led_bo ?_
    rw [areServers, okSrv_end hi.2 (by exact arA)]

/-- x is put in its place, once. -/
def put (x : Int) : List Int → List Int
  | [] => [x]
  | y :: r => if x < y then x :: y :: r else if x = y then y :: r else y :: put x r
theorem put_mem {x y : Int} : ∀ {l : List Int}, y ∈ put x l ↔ y = x ∨ y ∈ l
  | [] => by simp [put]
  | z :: r => by
    rw [put]
    split
    · simp
    · split
      · rename_i e; subst e; simp
      · rw [List.mem_cons, put_mem (l := r), List.mem_cons]
        constructor
        · rintro (h | h | h)
          · exact .inr (.inl h)
          · exact .inl h
          · exact .inr (.inr h)
        · rintro (h | h | h)
          · exact .inr (.inl h)
          · exact .inl h
          · exact .inr (.inr h)
theorem put_sasc {x : Int} : ∀ {l : List Int}, SAsc l → SAsc (put x l)
  | [], _ => by simp [put, SAsc]
  | y :: r, h => by
    obtain ⟨h1, h2⟩ := List.pairwise_cons.1 h
    rw [put]
    split
    · rename_i hlt
      refine List.pairwise_cons.2 ⟨fun z hz => ?_, h⟩
      rcases List.mem_cons.1 hz with rfl | hz
      · exact hlt
      · have := h1 z hz; omega
    · split
      · exact h
      · refine List.pairwise_cons.2 ⟨fun z hz => ?_, put_sasc h2⟩
        rcases put_mem.1 hz with rfl | hz
        · omega
        · exact h1 z hz
theorem put_asc {l : List Int} {x : Int} : put x (asc l) = asc (l ++ [x]) := sasc_eq (put_sasc (asc_strict l)) (asc_strict _) (fun y => by rw [put_mem, asc_mem, asc_mem, List.mem_append, List.mem_singleton]; exact Or.comm)
theorem put_at {x : Int} : ∀ {p q : List Int}, (∀ y ∈ p, y < x) → (∀ y, q.head? = some y → x < y) → put x (p ++ q) = p ++ x :: q
  | [], [], _, _ => rfl
  | [], y :: q, _, h => by rw [List.nil_append, put, if_pos (h y rfl), List.nil_append]
  | z :: p, q, h1, h2 => by
    have := h1 z (List.mem_cons_self ..)
    rw [List.cons_append, put, if_neg (by omega), if_neg (by omega), put_at (fun y hy => h1 y (List.mem_cons_of_mem _ hy)) h2, List.cons_append]
theorem put_same {x : Int} : ∀ {p q : List Int}, (∀ y ∈ p, y < x) → put x (p ++ x :: q) = p ++ x :: q
  | [], q, _ => by rw [List.nil_append, put, if_neg (by omega), if_pos rfl]
  | z :: p, q, h1 => by
    have := h1 z (List.mem_cons_self ..)
    rw [List.cons_append, put, if_neg (by omega), if_neg (by omega), put_same (fun y hy => h1 y (List.mem_cons_of_mem _ hy))]
theorem put_len {x : Int} : ∀ {l : List Int}, (put x l).length ≤ l.length + 1
  | [] => by simp [put]
  | y :: r => by
    have := put_len (x := x) (l := r)
    rw [put]
    split
    · simp
    · split
      · simp
      · simp; omega

theorem w_spec_l2Put (l : List Int) (x : Int) (hb : l.length ≤ 2000000) : Fn Pr n_spec_l2Put [.sl 1 (encI .i64) (fun _ => l), .int .i64 (fun _ => x)] (.sl 1 (encI .i64) (fun _ => put x l)) := by
  refine k_spec_l2Put.fn (by kernel_rfl) ?_
  conv => arg 4; cbv
  refine Sat.loopP (ι := Nat) (fun i => [(5, .int .i64 (fun _ => (i : Int)))]) (fun i => []) (fun i => i ≤ l.length ∧ ∀ y ∈ l.take i, y < x) (fun i => l.length - i) 0 ?_ ⟨by omega, by simp⟩ (fun i hi => ?_)
  · exact lesA
  have hdr : (l.drop i).head? = l[i]? := by simp
  have htd := List.take_append_drop i l
  have hins : (∀ y, l[i]? = some y → x < y) → put x l = l.take i ++ x :: l.drop i := fun h => by
    have := put_at (x := x) (p := l.take i) (q := l.drop i) hi.2 (fun y hy => h y (by rw [← hdr]; exact hy))
    rwa [htd] at this
  have hsame : l[i]? = some x → put x l = l := fun h => by
    have := put_same (x := x) (p := l.take i) (q := l.drop (i + 1)) hi.2
    rwa [← drop_get h, htd] at this
  conv => arg 4; cbv
  repeat' first
    | (refine Sat.cmp (fun h => ?_) (fun h => ?_) <;> simp only [Cmp.holds] at h <;> (conv => arg 4; cbv))
    | (refine Sat.need ⟨fun y _ => flat_encI .i64 y, by (try dsimp only); exact arA⟩ ?_; conv => arg 4; cbv)
    | (refine Sat.need ⟨rfl, rfl, rfl, by (try dsimp only); exact arA⟩ ?_; conv => arg 4; cbv)
    | (refine Sat.need ⟨rfl, fun y _ => flat_encI .i64 y, by (try dsimp only); exact arA⟩ ?_; conv => arg 4; cbv)
    | (refine Sat.need ndA ?_; conv => arg 4; cbv)
    | (refine Sat.idxk (by assumption) ?_; conv => arg 4; cbv) | (refine Sat.idx ndA (fun v_ hv_ => ?_); conv => arg 4; cbv)
    | (refine Sat.typed x tcA ?_; conv => arg 4; cbv)
    | (refine Sat.same ?_; conv => arg 4; cbv)
    | (refine Sat.ari64 ndA ndA ?_; conv => arg 4; cbv)
    | (refine Sat.pop ?_; conv => arg 4; cbv)
    | refine Sat.next (i + 1) ?_ ?_ (by (try dsimp only); exact arA)
    | refine Sat.done ?_
  · exact lesA
  · refine ⟨by exact arA, fun y hy => ?_⟩
    rw [List.take_add_one, show l[i]? = some v_ from hv_] at hy
    simp only [Option.toList_some, List.mem_append, List.mem_singleton] at hy
    rcases hy with hy | rfl
    · exact hi.2 y hy
    · exact h
  · refine .sl ?_
    rw [hsame (by subst h; exact hv_)]; simp
  · refine .sl ?_
    rw [hins (fun y hy => by rw [show l[i]? = some v_ from hv_] at hy; cases hy; omega)]
    simp only [List.drop_zero]
    rw [List.take_of_length_le (by simp; omega)]; simp
  all_goals first
    | (exfalso; exact arA)
    | (refine .sl ?_
       rw [hins (fun y hy => by have := lt_of_get hy; exfalso; exact arA)]
       simp only [List.drop_zero]
       rw [List.take_of_length_le (by simp; omega)]; simp; done)

def without (a b : List Int) : List Int := asc (a.filter (fun x => !decide (x ∈ b)))
def common (a b : List Int) : List Int := asc (a.filter (fun x => decide (x ∈ b)))
def unite (a b : List Int) : List Int := asc (a ++ b)
theorem without_len {a b : List Int} : (without a b).length ≤ a.length := Nat.le_trans (asc_len _) (List.length_filter_le _ _)
theorem common_len {a b : List Int} : (common a b).length ≤ a.length := Nat.le_trans (asc_len _) (List.length_filter_le _ _)
theorem unite_len {a b : List Int} : (unite a b).length ≤ a.length + b.length := by have := asc_len (a ++ b); simpa [unite] using this
theorem without_mem {a b : List Int} {x : Int} : x ∈ without a b ↔ x ∈ a ∧ x ∉ b := by simp [without, asc_mem]
theorem common_mem {a b : List Int} {x : Int} : x ∈ common a b ↔ x ∈ a ∧ x ∈ b := by simp [common, asc_mem]
theorem unite_mem {a b : List Int} {x : Int} : x ∈ unite a b ↔ x ∈ a ∨ x ∈ b := by simp [unite, asc_mem]
theorem filter_sasc {p : Int → Bool} {l : List Int} (h : SAsc l) : SAsc (l.filter p) := List.Pairwise.filter p h

set_option maxHeartbeats 1000000 in
theorem w_spec_CommonServers (a b : List Int) (ha : a.length ≤ 2000000) (hb : bIntS b) : Fn Pr n_spec_CommonServers [.sl 1 (encI .i64) (fun _ => a), .sl 1 (encI .i64) (fun _ => b)] (.sl 1 (encI .i64) (fun _ => common a b)) := by
  refine k_spec_CommonServers.fn (by kernel_rfl) ?_
  have hla : ∀ i, (asc ((a.take i).filter (fun x => decide (x ∈ b)))).length ≤ a.length := fun i => Nat.le_trans (asc_len _) (Nat.le_trans (List.length_filter_le _ _) (by simp; omega))
  conv => arg 4; cbv
  refine Sat.loopP (ι := Nat) (fun i => [(6, .int .i64 (fun _ => (i : Int))), (5, .ref 64 (fun _ => 0) (fun _ => (asc ((a.take i).filter (fun x => decide (x ∈ b)))).length))]) (fun i => [(64, .row 1 (encI .i64) (fun _ => asc ((a.take i).filter (fun x => decide (x ∈ b)))) false)]) (fun i => i ≤ a.length) (fun i => a.length - i) 0 ?_ (by omega) (fun i hi => ?_)
  · refine les_of ?_ ?_ rfl
    iterate 2 (focus repeat' (first | exact trivial | refine And.intro ?_ ?_ | exact levA | refine lev_cons ?_ ?_ | refine LeV.agg rfl ?_ | exact Nat.le_of_ble_eq_true rfl | exact Or.inl ⟨_, rfl, .row rfl⟩ | refine Or.inl ⟨_, rfl, .row ?_⟩ | refine Or.inl ⟨_, rfl, .lit rfl ?_⟩ | exact Or.inr ⟨rfl, rfl⟩ | (first | exact .empref (fun h => nomatch h) rfl rfl rfl | rfl)))
  have hl := hla i
  conv => arg 4; cbv
  repeat' first
    | (refine Sat.cmp (fun h => ?_) (fun h => ?_) <;> simp only [Cmp.holds] at h <;> (conv => arg 4; cbv))
    | (refine Sat.need ndA ?_; conv => arg 4; cbv)
    | (refine Sat.idxk (by assumption) ?_; conv => arg 4; cbv) | (refine Sat.idx ndA (fun v_ hv_ => ?_); conv => arg 4; cbv)
    | (refine Sat.callb (w_spec_HasServer b _ hb) rfl ledA (fun h => ?_) (fun h => ?_) <;> (try simp only [decide_eq_true_eq, decide_eq_false_iff_not] at h) <;> (conv => arg 4; cbv))
    | (refine Sat.call (w_spec_l2Put (asc ((a.take i).filter (fun x => decide (x ∈ b)))) _ (by omega)) rfl ledA ?_; conv => arg 4; cbv)
    | (refine Sat.ari64 ndA ndA ?_; conv => arg 4; cbv)
    | (refine Sat.pop ?_; conv => arg 4; cbv)
    | refine Sat.done ?_
  · have hs : asc ((a.take (i + 1)).filter (fun x => decide (x ∈ b))) = put v_ (asc ((a.take i).filter (fun x => decide (x ∈ b)))) := by rw [put_asc, List.take_add_one, show a[i]? = some v_ from hv_]; simp [h]
    refine Sat.nextR 305 64 (i + 1) rfl rfl rfl rfl ?_ (by exact arA) (by exact arA)
    refine les_of ?_ ?_ rfl
    iterate 2 (focus repeat' (first | exact trivial | refine And.intro ?_ ?_ | exact levA | refine lev_cons ?_ ?_ | refine LeV.agg rfl ?_ | exact Nat.le_of_ble_eq_true rfl | exact Or.inl ⟨_, rfl, .row rfl⟩ | refine Or.inl ⟨_, rfl, .row ?_⟩ | refine Or.inl ⟨_, rfl, .lit rfl ?_⟩ | exact Or.inr ⟨rfl, rfl⟩ | (first | exact .ref (fun h => nomatch h) (fun h => nomatch h) rfl (by (try dsimp only); rw [hs]) | (show put v_ (asc ((a.take i).filter (fun x => decide (x ∈ b)))) = asc ((a.take (i + 1)).filter (fun x => decide (x ∈ b))); rw [hs]))))
  · have hs : asc ((a.take (i + 1)).filter (fun x => decide (x ∈ b))) = asc ((a.take i).filter (fun x => decide (x ∈ b))) := by rw [List.take_add_one, show a[i]? = some v_ from hv_]; simp [h]
    refine Sat.next (i + 1) ?_ (by exact arA) (by exact arA)
    refine les_of ?_ ?_ rfl
    iterate 2 (focus repeat' (first | exact trivial | refine And.intro ?_ ?_ | exact levA | refine lev_cons ?_ ?_ | refine LeV.agg rfl ?_ | exact Nat.le_of_ble_eq_true rfl | exact Or.inl ⟨_, rfl, .row rfl⟩ | refine Or.inl ⟨_, rfl, .row ?_⟩ | refine Or.inl ⟨_, rfl, .lit rfl ?_⟩ | exact Or.inr ⟨rfl, rfl⟩ | (first | exact .ref (fun h => nomatch h) (fun h => nomatch h) rfl (by (try dsimp only); rw [hs]) | (show asc ((a.take i).filter (fun x => decide (x ∈ b))) = asc ((a.take (i + 1)).filter (fun x => decide (x ∈ b))); rw [hs]))))
  · refine .sl ?_
    have e : i = a.length := by exact arA
    subst e
    simp [common]

theorem keep_asc {a b : List Int} : keep (fun x => decide (x ∈ b)) (asc a) = without a b := sasc_eq (filter_sasc (asc_strict a)) (asc_strict _) (fun y => by simp [keep, without, asc_mem])
theorem common_without {a b : List Int} : without a (without a b) = common a b := asc_eq (fun y => by
  by_cases h1 : y ∈ a <;> by_cases h2 : y ∈ b <;> simp [List.mem_filter, without_mem, h1, h2])

theorem w_impl_WithoutServers_c1 (b : List Int) (hb : bIntS b) (x : Int) : Fn Pr n_impl_WithoutServers_c1 [.int .i64 (fun _ => x), .rptr [.sl 1 (encI .i64) (fun _ => b)]] (.bo (decide (x ∈ b))) := by
  refine k_impl_WithoutServers_c1.fn (by kernel_rfl) ?_
  conv => arg 4; cbv
  repeat' first
    | (refine Sat.cmp (fun h => ?_) (fun h => ?_) <;> simp only [Cmp.holds] at h <;> (conv => arg 4; cbv))
    | (refine Sat.callb (w_impl_HasServer b x hb) rfl ledA (fun h => ?_) (fun h => ?_) <;> (try simp only [decide_eq_true_eq, decide_eq_false_iff_not] at h) <;> (conv => arg 4; cbv))
    | (refine Sat.need ndA ?_; conv => arg 4; cbv)
    | (refine Sat.idxk (by assumption) ?_; conv => arg 4; cbv) | (refine Sat.idx ndA (fun v_ hv_ => ?_); conv => arg 4; cbv)
    | (refine Sat.ari64 ndA ndA ?_; conv => arg 4; cbv)
    | (refine Sat.pop ?_; conv => arg 4; cbv)
    | refine Sat.done ?_
  all_goals refine led_bo ?_
  all_goals simp_all

theorem w_impl_WithoutServers (a b : List Int) (ha : a.length ≤ 12) (hb : bIntS b) : Fn Pr n_impl_WithoutServers [.sl 1 (encI .i64) (fun _ => a), .sl 1 (encI .i64) (fun _ => b)] (.sl 1 (encI .i64) (fun _ => without a b)) := by
  have hl := asc_len a
  refine k_impl_WithoutServers.fn (by kernel_rfl) ?_
  conv => arg 4; cbv
  repeat' first
    | (refine Sat.cmp (fun h => ?_) (fun h => ?_) <;> simp only [Cmp.holds] at h <;> (conv => arg 4; cbv))
    | (refine Sat.call (w_impl_ascending a ha) rfl ledA ?_; conv => arg 4; cbv)
    | (refine Sat.callm (w_slices_DeleteFunc_intint (asc a) b n_impl_WithoutServers_c1 (fun x => decide (x ∈ b)) (w_impl_WithoutServers_c1 b hb) (by omega)) rfl ledA rfl ledA ?_; conv => arg 4; cbv)
    | (refine Sat.need ndA ?_; conv => arg 4; cbv)
    | (refine Sat.need (by (repeat' (first | exact trivial | refine And.intro ?_ ?_ | rfl | (dsimp only; simp [genL_length]; done))); (first | done | fail)) ?_; conv => arg 4; cbv)
    | (refine Sat.idxk (by assumption) ?_; conv => arg 4; cbv) | (refine Sat.idx ndA (fun v_ hv_ => ?_); conv => arg 4; cbv)
    | (refine Sat.ari64 ndA ndA ?_; conv => arg 4; cbv)
    | (refine Sat.pop ?_; conv => arg 4; cbv)
    | refine Sat.done ?_
  all_goals refine .sl ?_
  all_goals simp [keepZ, keep_asc]

theorem w_impl_CommonServers (a b : List Int) (ha : a.length ≤ 12) (hb : bIntS b) : Fn Pr n_impl_CommonServers [.sl 1 (encI .i64) (fun _ => a), .sl 1 (encI .i64) (fun _ => b)] (.sl 1 (encI .i64) (fun _ => common a b)) := by
  have hw : bIntS (without a b) := by have := without_len (a := a) (b := b); show (without a b).length * 8 ≤ _; omega
  refine k_impl_CommonServers.fn (by kernel_rfl) ?_
  conv => arg 4; cbv
  repeat' first
    | (refine Sat.cmp (fun h => ?_) (fun h => ?_) <;> simp only [Cmp.holds] at h <;> (conv => arg 4; cbv))
    | (refine Sat.call (w_impl_WithoutServers a b ha hb) rfl ledA ?_; conv => arg 4; cbv)
    | (refine Sat.call (w_impl_WithoutServers a (without a b) ha hw) rfl ledA ?_; conv => arg 4; cbv)
    | (refine Sat.need ndA ?_; conv => arg 4; cbv)
    | (refine Sat.idxk (by assumption) ?_; conv => arg 4; cbv) | (refine Sat.idx ndA (fun v_ hv_ => ?_); conv => arg 4; cbv)
    | (refine Sat.ari64 ndA ndA ?_; conv => arg 4; cbv)
    | (refine Sat.pop ?_; conv => arg 4; cbv)
    | refine Sat.done ?_
  all_goals refine .sl ?_
  all_goals simp [common_without]

def validC (c : GConfig) : Bool := decide (1 ≤ c.Epoch ∧ c.Epoch ≤ 20) && areServers c.Replicas && areServers c.Witnesses && decide (c.Primary ∈ c.Replicas) && decide (((common c.Replicas c.Witnesses).length : Int) = 0)
theorem validC_spec {c : GConfig} (h : validC c = true) : (1 ≤ c.Epoch ∧ c.Epoch ≤ 20) ∧ areServers c.Replicas = true ∧ areServers c.Witnesses = true ∧ c.Primary ∈ c.Replicas ∧ ∀ x ∈ c.Replicas, x ∉ c.Witnesses := by
  simp only [validC, Bool.and_eq_true, decide_eq_true_eq] at h
  obtain ⟨⟨⟨⟨h1, h2⟩, h3⟩, h4⟩, h5⟩ := h
  refine ⟨h1, h2, h3, h4, fun x hx hw => ?_⟩
  have e : common c.Replicas c.Witnesses = [] := List.eq_nil_of_length_eq_zero (by omega)
  have := common_mem.2 ⟨hx, hw⟩
  rw [e] at this
  cases this

theorem w_impl_IsValidConfig (c : GConfig) (hb : bConfig c) : Fn Pr n_impl_IsValidConfig [aGConfig c] (.bo (validC c)) := by
  refine k_impl_IsValidConfig.fn (by kernel_rfl) ?_
  conv => arg 4; cbv
  repeat' first
    | (refine Sat.cmp (fun h => ?_) (fun h => ?_) <;> simp only [Cmp.holds] at h <;> (conv => arg 4; cbv))
    | (refine Sat.callb (w_impl_within _ _ _) rfl ledA (fun h => ?_) (fun h => ?_) <;> (try simp only [decide_eq_true_eq, decide_eq_false_iff_not] at h) <;> (conv => arg 4; cbv))
    | (refine Sat.callb (w_impl_AreServers c.Replicas hb.1) rfl ledA (fun h => ?_) (fun h => ?_) <;> (try simp only [decide_eq_true_eq, decide_eq_false_iff_not] at h) <;> (conv => arg 4; cbv))
    | (refine Sat.callb (w_impl_AreServers c.Witnesses hb.2) rfl ledA (fun h => ?_) (fun h => ?_) <;> (try simp only [decide_eq_true_eq, decide_eq_false_iff_not] at h) <;> (conv => arg 4; cbv))
    | (refine Sat.callb (w_impl_HasServer c.Replicas _ hb.1) rfl ledA (fun h => ?_) (fun h => ?_) <;> (try simp only [decide_eq_true_eq, decide_eq_false_iff_not] at h) <;> (conv => arg 4; cbv))
    | (refine Sat.call (w_impl_CommonServers c.Replicas c.Witnesses (by have := areServers_len (l := c.Replicas) (by assumption); omega) hb.2) rfl ledA ?_; conv => arg 4; cbv)
    | (refine Sat.need ndA ?_; conv => arg 4; cbv)
    | (refine Sat.idxk (by assumption) ?_; conv => arg 4; cbv) | (refine Sat.idx ndA (fun v_ hv_ => ?_); conv => arg 4; cbv)
    | (refine Sat.ari64 ndA ndA ?_; conv => arg 4; cbv)
    | (refine Sat.pop ?_; conv => arg 4; cbv)
    | refine Sat.done ?_
  all_goals refine led_bo ?_
  all_goals (try simp only [ncast] at *)
  all_goals first | (simp_all [validC]; done) | (simp_all [validC]; intros; omega)

theorem w_spec_IsValidConfig (c : GConfig) (hb : bConfig c) : Fn Pr n_spec_IsValidConfig [aGConfig c] (.bo (validC c)) := by
  refine k_spec_IsValidConfig.fn (by kernel_rfl) ?_
  conv => arg 4; cbv
  repeat' first
    | (refine Sat.cmp (fun h => ?_) (fun h => ?_) <;> simp only [Cmp.holds] at h <;> (conv => arg 4; cbv))
    | (refine Sat.callb (w_spec_l1In _ _ _) rfl ledA (fun h => ?_) (fun h => ?_) <;> (try simp only [decide_eq_true_eq, decide_eq_false_iff_not] at h) <;> (conv => arg 4; cbv))
    | (refine Sat.callb (w_spec_AreServers c.Replicas hb.1) rfl ledA (fun h => ?_) (fun h => ?_) <;> (try simp only [decide_eq_true_eq, decide_eq_false_iff_not] at h) <;> (conv => arg 4; cbv))
    | (refine Sat.callb (w_spec_AreServers c.Witnesses hb.2) rfl ledA (fun h => ?_) (fun h => ?_) <;> (try simp only [decide_eq_true_eq, decide_eq_false_iff_not] at h) <;> (conv => arg 4; cbv))
    | (refine Sat.callb (w_spec_HasServer c.Replicas _ hb.1) rfl ledA (fun h => ?_) (fun h => ?_) <;> (try simp only [decide_eq_true_eq, decide_eq_false_iff_not] at h) <;> (conv => arg 4; cbv))
    | (refine Sat.call (w_spec_CommonServers c.Replicas c.Witnesses (by have := areServers_len (l := c.Replicas) (by assumption); omega) hb.2) rfl ledA ?_; conv => arg 4; cbv)
    | (refine Sat.need ndA ?_; conv => arg 4; cbv)
    | (refine Sat.idxk (by assumption) ?_; conv => arg 4; cbv) | (refine Sat.idx ndA (fun v_ hv_ => ?_); conv => arg 4; cbv)
    | (refine Sat.ari64 ndA ndA ?_; conv => arg 4; cbv)
    | (refine Sat.pop ?_; conv => arg 4; cbv)
    | refine Sat.done ?_
  all_goals refine led_bo ?_
  all_goals (try simp only [ncast] at *)
  all_goals first | (simp_all [validC]; done) | (simp_all [validC]; intros; omega)

def noConfig : GConfig := ⟨0, 0, [], []⟩
theorem no_b : bConfig noConfig := by simp [noConfig, bConfig, bIntS]
def validA (a : GAcceptor) : Bool := decide (0 ≤ a.Promised ∧ a.Promised ≤ 99) && decide (0 ≤ a.Ballot ∧ a.Ballot ≤ a.Promised) && (if a.Ballot = 0 then decide (a.Value = noConfig) else validC a.Value)

theorem w_impl_IsValidAcceptor (a : GAcceptor) (hb : bAcceptor a) : Fn Pr n_impl_IsValidAcceptor [aGAcceptor a] (.bo (validA a)) := by
  refine k_impl_IsValidAcceptor.fn (by kernel_rfl) ?_
  conv => arg 4; cbv
  repeat' first
    | (refine Sat.cmp (fun h => ?_) (fun h => ?_) <;> simp only [Cmp.holds] at h <;> (conv => arg 4; cbv))
    | (refine Sat.callb (w_impl_within _ _ _) rfl ledA (fun h => ?_) (fun h => ?_) <;> (try simp only [decide_eq_true_eq, decide_eq_false_iff_not] at h) <;> (conv => arg 4; cbv))
    | (refine Sat.callb (w_impl_EqualConfigs a.Value noConfig hb) rfl ledA (fun h => ?_) (fun h => ?_) <;> (try simp only [decide_eq_true_eq, decide_eq_false_iff_not] at h) <;> (conv => arg 4; cbv))
    | (refine Sat.callb (w_impl_IsValidConfig a.Value hb) rfl ledA (fun h => ?_) (fun h => ?_) <;> (try simp only [decide_eq_true_eq, decide_eq_false_iff_not] at h) <;> (conv => arg 4; cbv))
    | (refine Sat.need ndA ?_; conv => arg 4; cbv)
    | (refine Sat.idxk (by assumption) ?_; conv => arg 4; cbv) | (refine Sat.idx ndA (fun v_ hv_ => ?_); conv => arg 4; cbv)
    | (refine Sat.ari64 ndA ndA ?_; conv => arg 4; cbv)
    | (refine Sat.pop ?_; conv => arg 4; cbv)
    | refine Sat.done ?_
  all_goals refine led_bo ?_
  all_goals first | (simp_all [validA]; done) | (simp_all [validA]; omega)

theorem w_spec_IsValidAcceptor (a : GAcceptor) (hb : bAcceptor a) : Fn Pr n_spec_IsValidAcceptor [aGAcceptor a] (.bo (validA a)) := by
  refine k_spec_IsValidAcceptor.fn (by kernel_rfl) ?_
  conv => arg 4; cbv
  repeat' first
    | (refine Sat.cmp (fun h => ?_) (fun h => ?_) <;> simp only [Cmp.holds] at h <;> (conv => arg 4; cbv))
    | (refine Sat.callb (w_spec_l1In _ _ _) rfl ledA (fun h => ?_) (fun h => ?_) <;> (try simp only [decide_eq_true_eq, decide_eq_false_iff_not] at h) <;> (conv => arg 4; cbv))
    | (refine Sat.callb (w_spec_EqualConfigs a.Value noConfig hb) rfl ledA (fun h => ?_) (fun h => ?_) <;> (try simp only [decide_eq_true_eq, decide_eq_false_iff_not] at h) <;> (conv => arg 4; cbv))
    | (refine Sat.callb (w_spec_IsValidConfig a.Value hb) rfl ledA (fun h => ?_) (fun h => ?_) <;> (try simp only [decide_eq_true_eq, decide_eq_false_iff_not] at h) <;> (conv => arg 4; cbv))
    | (refine Sat.need ndA ?_; conv => arg 4; cbv)
    | (refine Sat.idxk (by assumption) ?_; conv => arg 4; cbv) | (refine Sat.idx ndA (fun v_ hv_ => ?_); conv => arg 4; cbv)
    | (refine Sat.ari64 ndA ndA ?_; conv => arg 4; cbv)
    | (refine Sat.pop ?_; conv => arg 4; cbv)
    | refine Sat.done ?_
  all_goals refine led_bo ?_
  all_goals first | (simp_all [validA]; done) | (simp_all [validA]; omega)

theorem w_impl_configCopy (c : GConfig) (hb : bConfig c) : Fn Pr n_impl_configCopy [aGConfig c] (aGConfig c) := by
  have h0 : c.Replicas.length * 8 ≤ 140737488351232 := hb.1
  have h1 : c.Witnesses.length * 8 ≤ 140737488351232 := hb.2
  refine k_impl_configCopy.fn (by kernel_rfl) ?_
  conv => arg 4; cbv
  repeat' first
    | (refine Sat.cmp (fun h => ?_) (fun h => ?_) <;> simp only [Cmp.holds] at h <;> (conv => arg 4; cbv))
    | (refine Sat.need ⟨fun y _ => flat_encI .i64 y, by exact arA⟩ ?_; conv => arg 4; cbv)
    | (refine Sat.may (fun h => ?_) ?_ <;> (conv => arg 4; cbv))
    | (refine Sat.need ndA ?_; conv => arg 4; cbv)
    | (refine Sat.idxk (by assumption) ?_; conv => arg 4; cbv) | (refine Sat.idx ndA (fun v_ hv_ => ?_); conv => arg 4; cbv)
    | (refine Sat.ari64 ndA ndA ?_; conv => arg 4; cbv)
    | (refine Sat.pop ?_; conv => arg 4; cbv)
    | refine Sat.done ?_
  all_goals refine .agg rfl ?_
  all_goals (repeat' first | exact led_nil | refine led_cons ?_ ?_ | exact .same _ | exact .nil (by assumption) | exact .emp (by assumption) | exact .sl (by simp))

theorem w_spec_l8Copy (c : GConfig) (hb : bConfig c) : Fn Pr n_spec_l8Copy [aGConfig c] (aGConfig c) := by
  have h0 : c.Replicas.length * 8 ≤ 140737488351232 := hb.1
  have h1 : c.Witnesses.length * 8 ≤ 140737488351232 := hb.2
  refine k_spec_l8Copy.fn (by kernel_rfl) ?_
  conv => arg 4; cbv
  repeat' first
    | (refine Sat.cmp (fun h => ?_) (fun h => ?_) <;> simp only [Cmp.holds] at h <;> (conv => arg 4; cbv))
    | (refine Sat.need ⟨fun y _ => flat_encI .i64 y, by exact arA⟩ ?_; conv => arg 4; cbv)
    | (refine Sat.may (fun h => ?_) ?_ <;> (conv => arg 4; cbv))
    | (refine Sat.need ndA ?_; conv => arg 4; cbv)
    | (refine Sat.idxk (by assumption) ?_; conv => arg 4; cbv) | (refine Sat.idx ndA (fun v_ hv_ => ?_); conv => arg 4; cbv)
    | (refine Sat.ari64 ndA ndA ?_; conv => arg 4; cbv)
    | (refine Sat.pop ?_; conv => arg 4; cbv)
    | refine Sat.done ?_
  all_goals refine .agg rfl ?_
  all_goals (repeat' first | exact led_nil | refine led_cons ?_ ?_ | exact .same _ | exact .nil (by assumption) | exact .emp (by assumption) | exact .sl (by simp))

theorem w_impl_acceptorCopy (a : GAcceptor) (hb : bAcceptor a) : Fn Pr n_impl_acceptorCopy [aGAcceptor a] (aGAcceptor a) := by
  refine k_impl_acceptorCopy.fn (by kernel_rfl) ?_
  conv => arg 4; cbv
  repeat' first
    | (refine Sat.cmp (fun h => ?_) (fun h => ?_) <;> simp only [Cmp.holds] at h <;> (conv => arg 4; cbv))
    | (refine Sat.call (w_impl_configCopy a.Value hb) rfl ledA ?_; conv => arg 4; cbv)
    | (refine Sat.need ndA ?_; conv => arg 4; cbv)
    | (refine Sat.idxk (by assumption) ?_; conv => arg 4; cbv) | (refine Sat.idx ndA (fun v_ hv_ => ?_); conv => arg 4; cbv)
    | (refine Sat.ari64 ndA ndA ?_; conv => arg 4; cbv)
    | (refine Sat.pop ?_; conv => arg 4; cbv)
    | refine Sat.done ?_
  all_goals exact ledA

theorem w_spec_l10Copy (a : GAcceptor) (hb : bAcceptor a) : Fn Pr n_spec_l10Copy [aGAcceptor a] (aGAcceptor a) := by
  refine k_spec_l10Copy.fn (by kernel_rfl) ?_
  conv => arg 4; cbv
  repeat' first
    | (refine Sat.cmp (fun h => ?_) (fun h => ?_) <;> simp only [Cmp.holds] at h <;> (conv => arg 4; cbv))
    | (refine Sat.call (w_spec_l8Copy a.Value hb) rfl ledA ?_; conv => arg 4; cbv)
    | (refine Sat.need ndA ?_; conv => arg 4; cbv)
    | (refine Sat.idxk (by assumption) ?_; conv => arg 4; cbv) | (refine Sat.idx ndA (fun v_ hv_ => ?_); conv => arg 4; cbv)
    | (refine Sat.ari64 ndA ndA ?_; conv => arg 4; cbv)
    | (refine Sat.pop ?_; conv => arg 4; cbv)
    | refine Sat.done ?_
  all_goals exact ledA

def acceptOk (a : GAcceptor) (n : Int) (c : GConfig) : Bool := validA a && validC c && decide (1 ≤ n ∧ n ≤ 99) && decide (a.Promised ≤ n)
def acceptA (a : GAcceptor) (n : Int) (c : GConfig) : GAcceptor := if acceptOk a n c = true then ⟨n, n, c⟩ else a
theorem acceptA_b {a : GAcceptor} {n : Int} {c : GConfig} (ha : bAcceptor a) (hc : bConfig c) : bAcceptor (acceptA a n c) := by
  unfold acceptA
  split
  · exact hc
  · exact ha
def prepareOk (a : GAcceptor) (n : Int) : Bool := validA a && decide (1 ≤ n ∧ n ≤ 99) && decide (a.Promised < n)
def prepareA (a : GAcceptor) (n : Int) : GAcceptor := if prepareOk a n = true then { a with Promised := n } else a
theorem prepareA_b {a : GAcceptor} {n : Int} (ha : bAcceptor a) : bAcceptor (prepareA a n) := by
  unfold prepareA
  split
  · exact ha
  · exact ha

theorem w_impl_Accept (a : GAcceptor) (n : Int) (c : GConfig) (ha : bAcceptor a) (hc : bConfig c) : Fn Pr n_impl_Accept [aGAcceptor a, .int .i64 (fun _ => n), aGConfig c] (.tup [aGAcceptor (acceptA a n c), .bo (acceptOk a n c)]) := by
  cases hv : acceptOk a n c
  · rw [acceptA, if_neg (by simp [hv])]
    refine k_impl_Accept.fn (by kernel_rfl) ?_
    conv => arg 4; cbv
    repeat' first
      | (refine Sat.cmp (fun h => ?_) (fun h => ?_) <;> simp only [Cmp.holds] at h <;> (conv => arg 4; cbv))
      | (refine Sat.callb (w_impl_IsValidAcceptor a ha) rfl ledA (fun h => ?_) (fun h => ?_) <;> (try simp only [decide_eq_true_eq, decide_eq_false_iff_not] at h) <;> (conv => arg 4; cbv))
      | (refine Sat.callb (w_impl_IsValidConfig c hc) rfl ledA (fun h => ?_) (fun h => ?_) <;> (try simp only [decide_eq_true_eq, decide_eq_false_iff_not] at h) <;> (conv => arg 4; cbv))
      | (refine Sat.callb (w_impl_within _ _ _) rfl ledA (fun h => ?_) (fun h => ?_) <;> (try simp only [decide_eq_true_eq, decide_eq_false_iff_not] at h) <;> (conv => arg 4; cbv))
      | (refine Sat.call (w_impl_acceptorCopy a ha) rfl ledA ?_; conv => arg 4; cbv)
      | (refine Sat.call (w_impl_configCopy c hc) rfl ledA ?_; conv => arg 4; cbv)
      | (refine Sat.need ndA ?_; conv => arg 4; cbv)
      | (refine Sat.idxk (by assumption) ?_; conv => arg 4; cbv) | (refine Sat.idx ndA (fun v_ hv_ => ?_); conv => arg 4; cbv)
      | (refine Sat.ari64 ndA ndA ?_; conv => arg 4; cbv)
      | (refine Sat.pop ?_; conv => arg 4; cbv)
      | refine Sat.done ?_
    all_goals first | exact ledA | (exfalso; simp_all [acceptOk]; done) | (exfalso; simp_all [acceptOk]; omega)
  · rw [acceptA, if_pos hv]
    refine k_impl_Accept.fn (by kernel_rfl) ?_
    conv => arg 4; cbv
    repeat' first
      | (refine Sat.cmp (fun h => ?_) (fun h => ?_) <;> simp only [Cmp.holds] at h <;> (conv => arg 4; cbv))
      | (refine Sat.callb (w_impl_IsValidAcceptor a ha) rfl ledA (fun h => ?_) (fun h => ?_) <;> (try simp only [decide_eq_true_eq, decide_eq_false_iff_not] at h) <;> (conv => arg 4; cbv))
      | (refine Sat.callb (w_impl_IsValidConfig c hc) rfl ledA (fun h => ?_) (fun h => ?_) <;> (try simp only [decide_eq_true_eq, decide_eq_false_iff_not] at h) <;> (conv => arg 4; cbv))
      | (refine Sat.callb (w_impl_within _ _ _) rfl ledA (fun h => ?_) (fun h => ?_) <;> (try simp only [decide_eq_true_eq, decide_eq_false_iff_not] at h) <;> (conv => arg 4; cbv))
      | (refine Sat.call (w_impl_acceptorCopy a ha) rfl ledA ?_; conv => arg 4; cbv)
      | (refine Sat.call (w_impl_configCopy c hc) rfl ledA ?_; conv => arg 4; cbv)
      | (refine Sat.need ndA ?_; conv => arg 4; cbv)
      | (refine Sat.idxk (by assumption) ?_; conv => arg 4; cbv) | (refine Sat.idx ndA (fun v_ hv_ => ?_); conv => arg 4; cbv)
      | (refine Sat.ari64 ndA ndA ?_; conv => arg 4; cbv)
      | (refine Sat.pop ?_; conv => arg 4; cbv)
      | refine Sat.done ?_
    all_goals first | exact ledA | (exfalso; simp_all [acceptOk]; done) | (exfalso; simp_all [acceptOk]; omega)

theorem w_spec_Accept (a : GAcceptor) (n : Int) (c : GConfig) (ha : bAcceptor a) (hc : bConfig c) : Fn Pr n_spec_Accept [aGAcceptor a, .int .i64 (fun _ => n), aGConfig c] (.tup [aGAcceptor (acceptA a n c), .bo (acceptOk a n c)]) := by
  cases hv : acceptOk a n c
  · rw [acceptA, if_neg (by simp [hv])]
    refine k_spec_Accept.fn (by kernel_rfl) ?_
    conv => arg 4; cbv
    repeat' first
      | (refine Sat.cmp (fun h => ?_) (fun h => ?_) <;> simp only [Cmp.holds] at h <;> (conv => arg 4; cbv))
      | (refine Sat.callb (w_spec_IsValidAcceptor a ha) rfl ledA (fun h => ?_) (fun h => ?_) <;> (try simp only [decide_eq_true_eq, decide_eq_false_iff_not] at h) <;> (conv => arg 4; cbv))
      | (refine Sat.callb (w_spec_IsValidConfig c hc) rfl ledA (fun h => ?_) (fun h => ?_) <;> (try simp only [decide_eq_true_eq, decide_eq_false_iff_not] at h) <;> (conv => arg 4; cbv))
      | (refine Sat.callb (w_spec_l1In _ _ _) rfl ledA (fun h => ?_) (fun h => ?_) <;> (try simp only [decide_eq_true_eq, decide_eq_false_iff_not] at h) <;> (conv => arg 4; cbv))
      | (refine Sat.call (w_spec_l10Copy a ha) rfl ledA ?_; conv => arg 4; cbv)
      | (refine Sat.call (w_spec_l8Copy c hc) rfl ledA ?_; conv => arg 4; cbv)
      | (refine Sat.need ndA ?_; conv => arg 4; cbv)
      | (refine Sat.idxk (by assumption) ?_; conv => arg 4; cbv) | (refine Sat.idx ndA (fun v_ hv_ => ?_); conv => arg 4; cbv)
      | (refine Sat.ari64 ndA ndA ?_; conv => arg 4; cbv)
      | (refine Sat.pop ?_; conv => arg 4; cbv)
      | refine Sat.done ?_
    all_goals first | exact ledA | (exfalso; simp_all [acceptOk]; done) | (exfalso; simp_all [acceptOk]; omega)
  · rw [acceptA, if_pos hv]
    refine k_spec_Accept.fn (by kernel_rfl) ?_
    conv => arg 4; cbv
    repeat' first
      | (refine Sat.cmp (fun h => ?_) (fun h => ?_) <;> simp only [Cmp.holds] at h <;> (conv => arg 4; cbv))
      | (refine Sat.callb (w_spec_IsValidAcceptor a ha) rfl ledA (fun h => ?_) (fun h => ?_) <;> (try simp only [decide_eq_true_eq, decide_eq_false_iff_not] at h) <;> (conv => arg 4; cbv))
      | (refine Sat.callb (w_spec_IsValidConfig c hc) rfl ledA (fun h => ?_) (fun h => ?_) <;> (try simp only [decide_eq_true_eq, decide_eq_false_iff_not] at h) <;> (conv => arg 4; cbv))
      | (refine Sat.callb (w_spec_l1In _ _ _) rfl ledA (fun h => ?_) (fun h => ?_) <;> (try simp only [decide_eq_true_eq, decide_eq_false_iff_not] at h) <;> (conv => arg 4; cbv))
      | (refine Sat.call (w_spec_l10Copy a ha) rfl ledA ?_; conv => arg 4; cbv)
      | (refine Sat.call (w_spec_l8Copy c hc) rfl ledA ?_; conv => arg 4; cbv)
      | (refine Sat.need ndA ?_; conv => arg 4; cbv)
      | (refine Sat.idxk (by assumption) ?_; conv => arg 4; cbv) | (refine Sat.idx ndA (fun v_ hv_ => ?_); conv => arg 4; cbv)
      | (refine Sat.ari64 ndA ndA ?_; conv => arg 4; cbv)
      | (refine Sat.pop ?_; conv => arg 4; cbv)
      | refine Sat.done ?_
    all_goals first | exact ledA | (exfalso; simp_all [acceptOk]; done) | (exfalso; simp_all [acceptOk]; omega)

theorem w_impl_Prepare (a : GAcceptor) (n : Int) (ha : bAcceptor a) : Fn Pr n_impl_Prepare [aGAcceptor a, .int .i64 (fun _ => n)] (.tup [aGAcceptor (prepareA a n), .bo (prepareOk a n)]) := by
  cases hv : prepareOk a n
  · rw [prepareA, if_neg (by simp [hv])]
    refine k_impl_Prepare.fn (by kernel_rfl) ?_
    conv => arg 4; cbv
    repeat' first
      | (refine Sat.cmp (fun h => ?_) (fun h => ?_) <;> simp only [Cmp.holds] at h <;> (conv => arg 4; cbv))
      | (refine Sat.callb (w_impl_IsValidAcceptor a ha) rfl ledA (fun h => ?_) (fun h => ?_) <;> (try simp only [decide_eq_true_eq, decide_eq_false_iff_not] at h) <;> (conv => arg 4; cbv))
      | (refine Sat.callb (w_impl_within _ _ _) rfl ledA (fun h => ?_) (fun h => ?_) <;> (try simp only [decide_eq_true_eq, decide_eq_false_iff_not] at h) <;> (conv => arg 4; cbv))
      | (refine Sat.call (w_impl_acceptorCopy a ha) rfl ledA ?_; conv => arg 4; cbv)
      | (refine Sat.need ndA ?_; conv => arg 4; cbv)
      | (refine Sat.idxk (by assumption) ?_; conv => arg 4; cbv) | (refine Sat.idx ndA (fun v_ hv_ => ?_); conv => arg 4; cbv)
      | (refine Sat.ari64 ndA ndA ?_; conv => arg 4; cbv)
      | (refine Sat.pop ?_; conv => arg 4; cbv)
      | refine Sat.done ?_
    all_goals first | exact ledA | (exfalso; simp_all [prepareOk]; done) | (exfalso; simp_all [prepareOk]; omega)
  · rw [prepareA, if_pos hv]
    refine k_impl_Prepare.fn (by kernel_rfl) ?_
    conv => arg 4; cbv
    repeat' first
      | (refine Sat.cmp (fun h => ?_) (fun h => ?_) <;> simp only [Cmp.holds] at h <;> (conv => arg 4; cbv))
      | (refine Sat.callb (w_impl_IsValidAcceptor a ha) rfl ledA (fun h => ?_) (fun h => ?_) <;> (try simp only [decide_eq_true_eq, decide_eq_false_iff_not] at h) <;> (conv => arg 4; cbv))
      | (refine Sat.callb (w_impl_within _ _ _) rfl ledA (fun h => ?_) (fun h => ?_) <;> (try simp only [decide_eq_true_eq, decide_eq_false_iff_not] at h) <;> (conv => arg 4; cbv))
      | (refine Sat.call (w_impl_acceptorCopy a ha) rfl ledA ?_; conv => arg 4; cbv)
      | (refine Sat.need ndA ?_; conv => arg 4; cbv)
      | (refine Sat.idxk (by assumption) ?_; conv => arg 4; cbv) | (refine Sat.idx ndA (fun v_ hv_ => ?_); conv => arg 4; cbv)
      | (refine Sat.ari64 ndA ndA ?_; conv => arg 4; cbv)
      | (refine Sat.pop ?_; conv => arg 4; cbv)
      | refine Sat.done ?_
    all_goals first | exact ledA | (exfalso; simp_all [prepareOk]; done) | (exfalso; simp_all [prepareOk]; omega)

theorem w_spec_Prepare (a : GAcceptor) (n : Int) (ha : bAcceptor a) : Fn Pr n_spec_Prepare [aGAcceptor a, .int .i64 (fun _ => n)] (.tup [aGAcceptor (prepareA a n), .bo (prepareOk a n)]) := by
  cases hv : prepareOk a n
  · rw [prepareA, if_neg (by simp [hv])]
    refine k_spec_Prepare.fn (by kernel_rfl) ?_
    conv => arg 4; cbv
    repeat' first
      | (refine Sat.cmp (fun h => ?_) (fun h => ?_) <;> simp only [Cmp.holds] at h <;> (conv => arg 4; cbv))
      | (refine Sat.callb (w_spec_IsValidAcceptor a ha) rfl ledA (fun h => ?_) (fun h => ?_) <;> (try simp only [decide_eq_true_eq, decide_eq_false_iff_not] at h) <;> (conv => arg 4; cbv))
      | (refine Sat.callb (w_spec_l1In _ _ _) rfl ledA (fun h => ?_) (fun h => ?_) <;> (try simp only [decide_eq_true_eq, decide_eq_false_iff_not] at h) <;> (conv => arg 4; cbv))
      | (refine Sat.call (w_spec_l10Copy a ha) rfl ledA ?_; conv => arg 4; cbv)
      | (refine Sat.need ndA ?_; conv => arg 4; cbv)
      | (refine Sat.idxk (by assumption) ?_; conv => arg 4; cbv) | (refine Sat.idx ndA (fun v_ hv_ => ?_); conv => arg 4; cbv)
      | (refine Sat.ari64 ndA ndA ?_; conv => arg 4; cbv)
      | (refine Sat.pop ?_; conv => arg 4; cbv)
      | refine Sat.done ?_
    all_goals first | exact ledA | (exfalso; simp_all [prepareOk]; done) | (exfalso; simp_all [prepareOk]; omega)
  · rw [prepareA, if_pos hv]
    refine k_spec_Prepare.fn (by kernel_rfl) ?_
    conv => arg 4; cbv
    repeat' first
      | (refine Sat.cmp (fun h => ?_) (fun h => ?_) <;> simp only [Cmp.holds] at h <;> (conv => arg 4; cbv))
      | (refine Sat.callb (w_spec_IsValidAcceptor a ha) rfl ledA (fun h => ?_) (fun h => ?_) <;> (try simp only [decide_eq_true_eq, decide_eq_false_iff_not] at h) <;> (conv => arg 4; cbv))
      | (refine Sat.callb (w_spec_l1In _ _ _) rfl ledA (fun h => ?_) (fun h => ?_) <;> (try simp only [decide_eq_true_eq, decide_eq_false_iff_not] at h) <;> (conv => arg 4; cbv))
      | (refine Sat.call (w_spec_l10Copy a ha) rfl ledA ?_; conv => arg 4; cbv)
      | (refine Sat.need ndA ?_; conv => arg 4; cbv)
      | (refine Sat.idxk (by assumption) ?_; conv => arg 4; cbv) | (refine Sat.idx ndA (fun v_ hv_ => ?_); conv => arg 4; cbv)
      | (refine Sat.ari64 ndA ndA ?_; conv => arg 4; cbv)
      | (refine Sat.pop ?_; conv => arg 4; cbv)
      | refine Sat.done ?_
    all_goals first | exact ledA | (exfalso; simp_all [prepareOk]; done) | (exfalso; simp_all [prepareOk]; omega)

theorem w_slices_IndexFunc_implAcceptorimplAcceptor (l : List GAcceptor) (f : Nat) (p : GAcceptor → Bool) (hf : ∀ x, bAcceptor x → Fn Pr f [aGAcceptor x] (.bo (p x))) (hb : bAcceptorS l) : Fn Pr n_slices_IndexFunc_implAcceptorimplAcceptor [.sl 6 eGAcceptor (fun _ => l), .clo f []] (.int .i64 (fun _ => idxF p l)) := by
  refine k_slices_IndexFunc_implAcceptorimplAcceptor.fn (by kernel_rfl) ?_
  have h0 : l.length * 80 ≤ 140737488351232 := hb.1
  conv => arg 4; cbv
  refine Sat.loopP (ι := Nat) (fun i => [(8, .int .i64 (fun _ => (i : Int)))]) (fun i => []) (fun i => i ≤ l.length ∧ idxF p l = if idxF p (l.drop i) < 0 then -1 else idxF p (l.drop i) + i) (fun i => l.length - i) 0 ?_ ⟨by omega, by have := (idxF_any (p := p) (l := l)).2; simp; omega⟩ (fun i hi => ?_)
  · exact lesA
  conv => arg 4; cbv
  repeat' first
    | (refine Sat.cmp (fun h => ?_) (fun h => ?_) <;> simp only [Cmp.holds] at h <;> (conv => arg 4; cbv))
    | (refine Sat.need ndA ?_; conv => arg 4; cbv)
    | (refine Sat.idxk (by assumption) ?_; conv => arg 4; cbv) | (refine Sat.idx ndA (fun v_ hv_ => ?_); conv => arg 4; cbv)
    | (refine Sat.callb (hf _ (hb.2 _ (List.mem_of_getElem? (by assumption)))) rfl ledA (fun h => ?_) (fun h => ?_) <;> (conv => arg 4; cbv))
    | (refine Sat.ari64 ndA ndA ?_; conv => arg 4; cbv)
    | (refine Sat.pop ?_; conv => arg 4; cbv)
    | refine Sat.next (i + 1) ?_ ?_ (by (try dsimp only); exact arA)
    | refine Sat.done ?_
  · refine .int ?_
    exact idxF_hit (by assumption) hi.2 h
  · exact lesA
  · exact ⟨by exact arA, idxF_step (by assumption) hi.2 h⟩
  · refine .int ?_
    have e1 : i = l.length := by exact arA
    rw [hi.2, e1, List.drop_length, idxF]
    simp

theorem w_slices_ContainsFunc_implAcceptorimplAcceptor (l : List GAcceptor) (f : Nat) (p : GAcceptor → Bool) (hf : ∀ x, bAcceptor x → Fn Pr f [aGAcceptor x] (.bo (p x))) (hb : bAcceptorS l) : Fn Pr n_slices_ContainsFunc_implAcceptorimplAcceptor [.sl 6 eGAcceptor (fun _ => l), .clo f []] (.bo (l.any p)) := by
  refine k_slices_ContainsFunc_implAcceptorimplAcceptor.fn (by kernel_rfl) ?_
  conv => arg 4; cbv
  repeat' first
    | (refine Sat.cmp (fun h => ?_) (fun h => ?_) <;> simp only [Cmp.holds] at h <;> (conv => arg 4; cbv))
    | (refine Sat.call (w_slices_IndexFunc_implAcceptorimplAcceptor l f p hf hb) rfl ledA ?_; conv => arg 4; cbv)
    | (refine Sat.need ndA ?_; conv => arg 4; cbv)
    | (refine Sat.idxk (by assumption) ?_; conv => arg 4; cbv) | (refine Sat.idx ndA (fun v_ hv_ => ?_); conv => arg 4; cbv)
    | (refine Sat.ari64 ndA ndA ?_; conv => arg 4; cbv)
    | (refine Sat.pop ?_; conv => arg 4; cbv)
    | refine Sat.done ?_
  all_goals refine led_bo ?_
  all_goals have := (idxF_any (p := p) (l := l)).1
  · exact (this.1 h).symm
  · cases e : l.any p with
    | false => rfl
    | true => exact absurd (this.2 e) h

def areAcc (l : List GAcceptor) : Bool := decide (l.length = 3) && l.all validA

theorem w_impl_AreAcceptors_c1 (x : GAcceptor) (hb : bAcceptor x) : Fn Pr n_impl_AreAcceptors_c1 [aGAcceptor x] (.bo (!validA x)) := by
  refine k_impl_AreAcceptors_c1.fn (by kernel_rfl) ?_
  conv => arg 4; cbv
  repeat' first
    | (refine Sat.cmp (fun h => ?_) (fun h => ?_) <;> simp only [Cmp.holds] at h <;> (conv => arg 4; cbv))
    | (refine Sat.callb (w_impl_IsValidAcceptor x hb) rfl ledA (fun h => ?_) (fun h => ?_) <;> (try simp only [decide_eq_true_eq, decide_eq_false_iff_not] at h) <;> (conv => arg 4; cbv))
    | (refine Sat.need ndA ?_; conv => arg 4; cbv)
    | (refine Sat.idxk (by assumption) ?_; conv => arg 4; cbv) | (refine Sat.idx ndA (fun v_ hv_ => ?_); conv => arg 4; cbv)
    | (refine Sat.ari64 ndA ndA ?_; conv => arg 4; cbv)
    | (refine Sat.pop ?_; conv => arg 4; cbv)
    | refine Sat.done ?_
  all_goals refine led_bo ?_ <;> simp_all

theorem w_impl_AreAcceptors (l : List GAcceptor) (hb : bAcceptorS l) : Fn Pr n_impl_AreAcceptors [.sl 6 eGAcceptor (fun _ => l)] (.bo (areAcc l)) := by
  refine k_impl_AreAcceptors.fn (by kernel_rfl) ?_
  conv => arg 4; cbv
  repeat' first
    | (refine Sat.cmp (fun h => ?_) (fun h => ?_) <;> simp only [Cmp.holds] at h <;> (conv => arg 4; cbv))
    | (refine Sat.callb (w_slices_ContainsFunc_implAcceptorimplAcceptor l n_impl_AreAcceptors_c1 _ w_impl_AreAcceptors_c1 hb) rfl ledA (fun h => ?_) (fun h => ?_) <;> (try simp only [decide_eq_true_eq, decide_eq_false_iff_not] at h) <;> (conv => arg 4; cbv))
    | (refine Sat.need ndA ?_; conv => arg 4; cbv)
    | (refine Sat.idxk (by assumption) ?_; conv => arg 4; cbv) | (refine Sat.idx ndA (fun v_ hv_ => ?_); conv => arg 4; cbv)
    | (refine Sat.ari64 ndA ndA ?_; conv => arg 4; cbv)
    | (refine Sat.pop ?_; conv => arg 4; cbv)
    | refine Sat.done ?_
  all_goals refine led_bo ?_
  all_goals simp only [ncast] at *
  all_goals simp_all [areAcc]
  all_goals omega

theorem w_spec_AreAcceptors (l : List GAcceptor) (hb : bAcceptorS l) : Fn Pr n_spec_AreAcceptors [.sl 6 eGAcceptor (fun _ => l)] (.bo (areAcc l)) := by
  refine k_spec_AreAcceptors.fn (by kernel_rfl) ?_
  have h0 : l.length * 80 ≤ 140737488351232 := hb.1
  conv => arg 4; cbv
  refine Sat.loopP (ι := Nat) (fun i => [(3, .int .i64 (fun _ => (i : Int)))]) (fun i => []) (fun i => i ≤ l.length ∧ l.all validA = (l.drop i).all validA) (fun i => l.length - i) 0 ?_ ⟨by omega, by simp⟩ (fun i hi => ?_)
  · exact lesA
  conv => arg 4; cbv
  repeat' first
    | (refine Sat.cmp (fun h => ?_) (fun h => ?_) <;> simp only [Cmp.holds] at h <;> (conv => arg 4; cbv))
    | (refine Sat.need ndA ?_; conv => arg 4; cbv)
    | (refine Sat.idxk (by assumption) ?_; conv => arg 4; cbv) | (refine Sat.idx ndA (fun v_ hv_ => ?_); conv => arg 4; cbv)
    | (refine Sat.callb (w_spec_IsValidAcceptor _ (hb.2 _ (List.mem_of_getElem? (by assumption)))) rfl ledA (fun h => ?_) (fun h => ?_) <;> (conv => arg 4; cbv))
    | (refine Sat.ari64 ndA ndA ?_; conv => arg 4; cbv)
    | (refine Sat.pop ?_; conv => arg 4; cbv)
    | refine Sat.next (i + 1) ?_ ?_ (by (try dsimp only); exact arA)
    | refine Sat.done ?_
  all_goals first
    | exact lesA
    | exact ⟨by exact arA, by rw [hi.2, drop_get (i := i) hv_, List.all_cons, h, Bool.true_and]⟩
    | (refine led_bo ?_; rw [areAcc, hi.2, drop_get (i := i) hv_, List.all_cons, h]; simp; done)
    | (refine led_bo ?_; have e1 : i = l.length := by exact arA
       rw [areAcc, hi.2, e1, List.drop_length]; simp only [ncast] at *; simp; omega)
    | (refine led_bo ?_; rw [areAcc]; simp only [ncast] at *; simp; omega)

def fProposal (x : GProposal) : Prop := (Lit.int .i64 x.Ballot).wf = true ∧ fIntS x.First ∧ fIntS x.Second ∧ fConfig x.Value
theorem fProposal_b {x : GProposal} (h : fProposal x) : bProposal x := ⟨h.2.1.2.1, h.2.2.1.2.1, fConfig_b h.2.2.2⟩

def fProposalS (l : List GProposal) : Prop := l.length ≤ maxLen ∧ l.length * 120 ≤ 140737488351232 ∧ ∀ y ∈ l, fProposal y
theorem fProposalS_b {l : List GProposal} (h : fProposalS l) : bProposalS l := ⟨h.2.1, fun y hy => fProposal_b (h.2.2 y hy)⟩

def newAcc : List GAcceptor := List.replicate 3 ⟨0, 0, ⟨0, 0, [], []⟩⟩
theorem newAcc_b : bAcceptorS newAcc := by
  refine ⟨by simp [newAcc], fun y hy => ?_⟩
  rw [List.eq_of_mem_replicate hy]
  simp [bAcceptor, bConfig, bIntS]
theorem newAcc_n : nG n1Acceptor newAcc = 12 := rfl

theorem w_impl_NewAcceptors : Fn Pr n_impl_NewAcceptors [] (.sl 6 eGAcceptor (fun _ => newAcc)) := by
  refine k_impl_NewAcceptors.fn (by kernel_rfl) ?_
  conv => arg 4; cbv
  repeat' first
    | (refine Sat.cmp (fun h => ?_) (fun h => ?_) <;> simp only [Cmp.holds] at h <;> (conv => arg 4; cbv))
    | (refine Sat.typ eGAcceptor ⟨0, 0, ⟨0, 0, [], []⟩⟩ tcA ?_; conv => arg 4; cbv)
    | (refine Sat.need ndA ?_; conv => arg 4; cbv)
    | (refine Sat.idxk (by assumption) ?_; conv => arg 4; cbv) | (refine Sat.idx ndA (fun v_ hv_ => ?_); conv => arg 4; cbv)
    | (refine Sat.ari64 ndA ndA ?_; conv => arg 4; cbv)
    | (refine Sat.pop ?_; conv => arg 4; cbv)
    | refine Sat.done ?_
  all_goals exact .sl rfl

theorem w_spec_NewAcceptors : Fn Pr n_spec_NewAcceptors [] (.sl 6 eGAcceptor (fun _ => newAcc)) := by
  refine k_spec_NewAcceptors.fn (by kernel_rfl) ?_
  conv => arg 4; cbv
  repeat' first
    | (refine Sat.cmp (fun h => ?_) (fun h => ?_) <;> simp only [Cmp.holds] at h <;> (conv => arg 4; cbv))
    | (refine Sat.typ eGAcceptor ⟨0, 0, ⟨0, 0, [], []⟩⟩ tcA ?_; conv => arg 4; cbv)
    | (refine Sat.need ndA ?_; conv => arg 4; cbv)
    | (refine Sat.idxk (by assumption) ?_; conv => arg 4; cbv) | (refine Sat.idx ndA (fun v_ hv_ => ?_); conv => arg 4; cbv)
    | (refine Sat.ari64 ndA ndA ?_; conv => arg 4; cbv)
    | (refine Sat.pop ?_; conv => arg 4; cbv)
    | refine Sat.done ?_
  all_goals exact .sl rfl

/-- How many hold what a holds. -/
def votes (l : List GAcceptor) (a : GAcceptor) : Nat := l.countP (fun b => decide (0 < a.Ballot ∧ b.Ballot = a.Ballot ∧ b.Value = a.Value))
def chosenIn (l : List GAcceptor) : List GAcceptor → Option GConfig
  | [] => none
  | a :: r => if 3 < 2 * votes l a then some a.Value else chosenIn l r
def chosen (l : List GAcceptor) : Option GConfig := if areAcc l = true then chosenIn l l else none
def chosenC (l : List GAcceptor) : GConfig := match chosen l with | some c => c | none => noConfig
def chosenOk (l : List GAcceptor) : Bool := (chosen l).isSome
theorem chosenIn_mem {l : List GAcceptor} {c : GConfig} : ∀ {r : List GAcceptor}, chosenIn l r = some c → ∃ a ∈ r, c = a.Value
  | [], h => by cases h
  | a :: r, h => by
    rw [chosenIn] at h
    split at h
    · cases h; exact ⟨a, List.mem_cons_self .., rfl⟩
    · obtain ⟨b, hb, e⟩ := chosenIn_mem h; exact ⟨b, List.mem_cons_of_mem _ hb, e⟩
theorem chosenC_b {l : List GAcceptor} (hb : bAcceptorS l) : bConfig (chosenC l) := by
  unfold chosenC
  split
  · rename_i c h
    unfold chosen at h
    split at h
    · obtain ⟨a, ha, rfl⟩ := chosenIn_mem h
      exact hb.2 a ha
    · cases h
  · exact no_b
theorem chosen_hit {l : List GAcceptor} {i : Nat} {a : GAcceptor} (h : chosen l = chosenIn l (l.drop i)) (ha : l[i]? = some a) (hv : 3 < 2 * votes l a) : chosenC l = a.Value ∧ chosenOk l = true := by
  have e : chosen l = some a.Value := by rw [h, drop_get (i := i) ha, chosenIn, if_pos hv]
  exact ⟨by rw [chosenC, e], by rw [chosenOk, e]; rfl⟩
theorem chosen_next {l : List GAcceptor} {i : Nat} {a : GAcceptor} (h : chosen l = chosenIn l (l.drop i)) (ha : l[i]? = some a) (hv : ¬ 3 < 2 * votes l a) : chosen l = chosenIn l (l.drop (i + 1)) := by
  rw [h, drop_get (i := i) ha, chosenIn, if_neg hv]
theorem chosen_end {l : List GAcceptor} (h : chosen l = chosenIn l (l.drop l.length)) : chosenC l = noConfig ∧ chosenOk l = false := by
  have e : chosen l = none := by rw [h, List.drop_length, chosenIn]
  exact ⟨by rw [chosenC, e], by rw [chosenOk, e]; rfl⟩
theorem chosen_bad {l : List GAcceptor} (h : areAcc l = false) : chosenC l = noConfig ∧ chosenOk l = false := by
  have e : chosen l = none := by rw [chosen, if_neg (by rw [h]; simp)]
  exact ⟨by rw [chosenC, e], by rw [chosenOk, e]; rfl⟩
theorem areAcc_len {l : List GAcceptor} (h : areAcc l = true) : l.length = 3 := by
  simp only [areAcc, Bool.and_eq_true, decide_eq_true_eq] at h
  exact h.1
/-- Those among the first k. -/
def votesTo (l : List GAcceptor) (a : GAcceptor) (k : Nat) : Nat := votes (l.take k) a
theorem votesTo_hit {l : List GAcceptor} {a b : GAcceptor} {k : Nat} (hb : l[k]? = some b) (h1 : 0 < a.Ballot) (h2 : b.Ballot = a.Ballot) (h3 : b.Value = a.Value) : votesTo l a (k + 1) = votesTo l a k + 1 := by
  unfold votesTo votes
  rw [List.take_add_one, hb, List.countP_append]
  simp [h1, h2, h3]
theorem votesTo_miss {l : List GAcceptor} {a b : GAcceptor} {k : Nat} (hb : l[k]? = some b) (h : ¬ (0 < a.Ballot ∧ b.Ballot = a.Ballot ∧ b.Value = a.Value)) : votesTo l a (k + 1) = votesTo l a k := by
  unfold votesTo votes
  rw [List.take_add_one, hb, List.countP_append]
  simp only [Option.toList_some, List.countP_cons, List.countP_nil, decide_eq_true_eq, if_neg h, Nat.add_zero]
theorem votesTo_le {l : List GAcceptor} {a : GAcceptor} {k : Nat} : votesTo l a k ≤ k := by
  unfold votesTo votes
  exact Nat.le_trans List.countP_le_length (by rw [List.length_take]; omega)
theorem votesTo_all {l : List GAcceptor} {a : GAcceptor} : votesTo l a l.length = votes l a := by
  unfold votesTo; rw [List.take_length]

set_option maxHeartbeats 1000000 in
theorem w_impl_acceptorsCopy (l : List GAcceptor) (hb : bAcceptorS l) (hn : l.length ≤ 2000000) : Fn Pr n_impl_acceptorsCopy [.sl 6 eGAcceptor (fun _ => l)] (.sl 6 eGAcceptor (fun _ => l)) := by
  refine k_impl_acceptorsCopy.fn (by kernel_rfl) ?_
  conv => arg 4; cbv
  refine Sat.loopP (ι := Nat) (fun i => [(3, .ref 96 (fun _ => 0) (fun _ => (l.take i).length)), (9, .int .i64 (fun _ => (i : Int)))]) (fun i => [(96, .row 6 eGAcceptor (fun _ => l.take i) false)]) (fun i => i ≤ l.length) (fun i => l.length - i) 0 ?_ (by omega) (fun i hi => ?_)
  · refine les_of ?_ ?_ rfl
    iterate 2 (focus repeat' (first | exact trivial | refine And.intro ?_ ?_ | exact levA | refine lev_cons ?_ ?_ | refine LeV.agg rfl ?_ | exact Nat.le_of_ble_eq_true rfl | exact Or.inl ⟨_, rfl, .row rfl⟩ | refine Or.inl ⟨_, rfl, .row ?_⟩ | refine Or.inl ⟨_, rfl, .lit rfl ?_⟩ | exact Or.inr ⟨rfl, rfl⟩ | (first | exact .empref (fun h => nomatch h) rfl rfl rfl | rfl)))
  conv => arg 4; cbv
  repeat' first
    | (refine Sat.cmp (fun h => ?_) (fun h => ?_) <;> simp only [Cmp.holds] at h <;> (conv => arg 4; cbv))
    | (refine Sat.need ⟨rfl, rfl, rfl, by (try dsimp only); simp only [List.length_take]; exact arA⟩ ?_; conv => arg 4; cbv)
    | (refine Sat.need ndA ?_; conv => arg 4; cbv)
    | (refine Sat.idxk (by assumption) ?_; conv => arg 4; cbv) | (refine Sat.idx ndA (fun v_ hv_ => ?_); conv => arg 4; cbv)
    | (refine Sat.call (w_impl_acceptorCopy v_ (hb.2 _ (List.mem_of_getElem? hv_))) rfl ledA ?_; conv => arg 4; cbv)
    | (refine Sat.typed v_ tcA ?_; conv => arg 4; cbv)
    | (refine Sat.ari64 ndA ndA ?_; conv => arg 4; cbv)
    | (refine Sat.pop ?_; conv => arg 4; cbv)
    | refine Sat.next (i + 1) ?_ (by exact arA) (by exact arA)
    | refine Sat.done ?_
  · have hs : l.take (i + 1) = l.take i ++ [v_] := by rw [List.take_add_one, show l[i]? = some v_ from hv_]; simp
    refine les_of ?_ ?_ rfl
    iterate 2 (focus repeat' (first | exact trivial | refine And.intro ?_ ?_ | exact levA | refine lev_cons ?_ ?_ | refine LeV.agg rfl ?_ | exact Nat.le_of_ble_eq_true rfl | exact Or.inl ⟨_, rfl, .row rfl⟩ | refine Or.inl ⟨_, rfl, .row ?_⟩ | refine Or.inl ⟨_, rfl, .lit rfl ?_⟩ | exact Or.inr ⟨rfl, rfl⟩ | (first | exact .ref (fun h => nomatch h) (fun h => nomatch h) rfl (by (try dsimp only); rw [hs]; simp) | (rw [hs]; simp; done))))
  · have e : i = l.length := by exact arA
    subst e
    exact .sl (by simp)

set_option maxHeartbeats 1000000 in
theorem w_spec_l11Copy (l : List GAcceptor) (hb : bAcceptorS l) (hn : l.length ≤ 2000000) : Fn Pr n_spec_l11Copy [.sl 6 eGAcceptor (fun _ => l)] (.sl 6 eGAcceptor (fun _ => l)) := by
  refine k_spec_l11Copy.fn (by kernel_rfl) ?_
  conv => arg 4; cbv
  refine Sat.loopP (ι := Nat) (fun i => [(3, .ref 64 (fun _ => 0) (fun _ => (l.take i).length)), (4, .int .i64 (fun _ => (i : Int)))]) (fun i => [(64, .row 6 eGAcceptor (fun _ => l.take i) false)]) (fun i => i ≤ l.length) (fun i => l.length - i) 0 ?_ (by omega) (fun i hi => ?_)
  · refine les_of ?_ ?_ rfl
    iterate 2 (focus repeat' (first | exact trivial | refine And.intro ?_ ?_ | exact levA | refine lev_cons ?_ ?_ | refine LeV.agg rfl ?_ | exact Nat.le_of_ble_eq_true rfl | exact Or.inl ⟨_, rfl, .row rfl⟩ | refine Or.inl ⟨_, rfl, .row ?_⟩ | refine Or.inl ⟨_, rfl, .lit rfl ?_⟩ | exact Or.inr ⟨rfl, rfl⟩ | (first | exact .empref (fun h => nomatch h) rfl rfl rfl | rfl)))
  conv => arg 4; cbv
  repeat' first
    | (refine Sat.cmp (fun h => ?_) (fun h => ?_) <;> simp only [Cmp.holds] at h <;> (conv => arg 4; cbv))
    | (refine Sat.need ⟨rfl, rfl, rfl, by (try dsimp only); simp only [List.length_take]; exact arA⟩ ?_; conv => arg 4; cbv)
    | (refine Sat.need ndA ?_; conv => arg 4; cbv)
    | (refine Sat.idxk (by assumption) ?_; conv => arg 4; cbv) | (refine Sat.idx ndA (fun v_ hv_ => ?_); conv => arg 4; cbv)
    | (refine Sat.call (w_spec_l10Copy v_ (hb.2 _ (List.mem_of_getElem? hv_))) rfl ledA ?_; conv => arg 4; cbv)
    | (refine Sat.typed v_ tcA ?_; conv => arg 4; cbv)
    | (refine Sat.ari64 ndA ndA ?_; conv => arg 4; cbv)
    | (refine Sat.pop ?_; conv => arg 4; cbv)
    | refine Sat.next (i + 1) ?_ (by exact arA) (by exact arA)
    | refine Sat.done ?_
  · have hs : l.take (i + 1) = l.take i ++ [v_] := by rw [List.take_add_one, show l[i]? = some v_ from hv_]; simp
    refine les_of ?_ ?_ rfl
    iterate 2 (focus repeat' (first | exact trivial | refine And.intro ?_ ?_ | exact levA | refine lev_cons ?_ ?_ | refine LeV.agg rfl ?_ | exact Nat.le_of_ble_eq_true rfl | exact Or.inl ⟨_, rfl, .row rfl⟩ | refine Or.inl ⟨_, rfl, .row ?_⟩ | refine Or.inl ⟨_, rfl, .lit rfl ?_⟩ | exact Or.inr ⟨rfl, rfl⟩ | (first | exact .ref (fun h => nomatch h) (fun h => nomatch h) rfl (by (try dsimp only); rw [hs]; simp) | (rw [hs]; simp; done))))
  · have e : i = l.length := by exact arA
    subst e
    exact .sl (by simp)

/-- The first phase: does acceptor i, which holds a, promise. -/
def hit1 (p : GProposal) (i : Nat) (a : GAcceptor) : Bool := prepareOk a p.Ballot && decide ((i : Int) ∈ p.First)
/-- The second phase. -/
def hit2 (p : GProposal) (v : GConfig) (i : Nat) (a : GAcceptor) : Bool := acceptOk a p.Ballot v && decide ((i : Int) ∈ p.Second)
/-- A row of which the first k that are hit are put over. -/
def putTo (h : Nat → GAcceptor → Bool) (f : GAcceptor → GAcceptor) (l : List GAcceptor) (k : Nat) : List GAcceptor := l.mapIdx (fun i a => if i < k ∧ h i a = true then f a else a)
def cntTo (h : Nat → GAcceptor → Bool) (l : List GAcceptor) : Nat → Nat
  | 0 => 0
  | k + 1 => match l[k]? with | some a => if h k a = true then cntTo h l k + 1 else cntTo h l k | none => cntTo h l k
/-- The greatest ballot among those that promised, and its value. -/
def bestTo (p : GProposal) (l : List GAcceptor) : Nat → Int × GConfig
  | 0 => (0, p.Value)
  | k + 1 => match l[k]? with | some a => if hit1 p k a = true ∧ (bestTo p l k).1 < a.Ballot then (a.Ballot, a.Value) else bestTo p l k | none => bestTo p l k
theorem putTo_len {h : Nat → GAcceptor → Bool} {f : GAcceptor → GAcceptor} {l : List GAcceptor} {k : Nat} : (putTo h f l k).length = l.length := by simp [putTo]
theorem putTo_zero {h : Nat → GAcceptor → Bool} {f : GAcceptor → GAcceptor} {l : List GAcceptor} : putTo h f l 0 = l := by
  apply List.ext_getElem?
  intro i
  simp [putTo]
theorem putTo_get {h : Nat → GAcceptor → Bool} {f : GAcceptor → GAcceptor} {l : List GAcceptor} {k i : Nat} (hk : k ≤ i) : (putTo h f l k)[i]? = l[i]? := by
  rw [putTo, List.getElem?_mapIdx]
  cases l[i]? with
  | none => rfl
  | some a => exact congrArg some (if_neg (fun q => by omega))
theorem putTo_hit {h : Nat → GAcceptor → Bool} {f : GAcceptor → GAcceptor} {l : List GAcceptor} {k : Nat} {a : GAcceptor} (ha : l[k]? = some a) (hh : h k a = true) : putTo h f l (k + 1) = (putTo h f l k).set k (f a) := by
  apply List.ext_getElem?
  intro i
  rw [List.getElem?_set, putTo_len]
  by_cases e : k = i
  · subst e
    rw [if_pos rfl, putTo, List.getElem?_mapIdx, ha]
    have : k < l.length := by
      rw [List.getElem?_eq_some_iff] at ha; exact ha.1
    simp [hh, this]
  · rw [if_neg e, putTo, putTo, List.getElem?_mapIdx, List.getElem?_mapIdx]
    congr 1
    funext a
    have : (i < k + 1 ∧ h i a = true) ↔ (i < k ∧ h i a = true) := by constructor <;> (intro q; exact ⟨by omega, q.2⟩)
    simp only [this]
theorem putTo_miss {h : Nat → GAcceptor → Bool} {f : GAcceptor → GAcceptor} {l : List GAcceptor} {k : Nat} {a : GAcceptor} (ha : l[k]? = some a) (hh : h k a = false) : putTo h f l (k + 1) = putTo h f l k := by
  apply List.ext_getElem?
  intro i
  rw [putTo, putTo, List.getElem?_mapIdx, List.getElem?_mapIdx]
  by_cases e : k = i
  · subst e
    rw [ha]
    simp [hh]
  · congr 1
    funext a
    have : (i < k + 1 ∧ h i a = true) ↔ (i < k ∧ h i a = true) := by constructor <;> (intro q; exact ⟨by omega, q.2⟩)
    simp only [this]
theorem set_same {l : List GAcceptor} {k : Nat} {a : GAcceptor} (ha : l[k]? = some a) : l.set k a = l := by
  apply List.ext_getElem?
  intro i
  rw [List.getElem?_set]
  by_cases e : k = i
  · subst e
    have : k < l.length := by
      rw [List.getElem?_eq_some_iff] at ha; exact ha.1
    rw [if_pos rfl, ha, if_pos this]
  · rw [if_neg e]
theorem putTo_b {h : Nat → GAcceptor → Bool} {f : GAcceptor → GAcceptor} {l : List GAcceptor} {k : Nat} (hf : ∀ a, bAcceptor a → bAcceptor (f a)) (hb : bAcceptorS l) : bAcceptorS (putTo h f l k) := by
  refine ⟨by rw [putTo_len]; exact hb.1, fun x hx => ?_⟩
  rw [putTo, List.mem_mapIdx] at hx
  obtain ⟨i, hi, rfl⟩ := hx
  have := hb.2 _ (List.getElem_mem hi)
  split
  · exact hf _ this
  · exact this
theorem cntTo_hit {h : Nat → GAcceptor → Bool} {l : List GAcceptor} {k : Nat} {a : GAcceptor} (ha : l[k]? = some a) (hh : h k a = true) : cntTo h l (k + 1) = cntTo h l k + 1 := by
  rw [cntTo, ha]; exact if_pos hh
theorem cntTo_miss {h : Nat → GAcceptor → Bool} {l : List GAcceptor} {k : Nat} {a : GAcceptor} (ha : l[k]? = some a) (hh : h k a = false) : cntTo h l (k + 1) = cntTo h l k := by
  rw [cntTo, ha]; exact if_neg (by rw [hh]; exact fun q => by cases q)
theorem cntTo_le {h : Nat → GAcceptor → Bool} {l : List GAcceptor} : ∀ {k : Nat}, cntTo h l k ≤ k
  | 0 => Nat.le_refl _
  | k + 1 => by
    have := cntTo_le (h := h) (l := l) (k := k)
    rw [cntTo]
    split
    · split <;> omega
    · omega
theorem bestTo_hit {p : GProposal} {l : List GAcceptor} {k : Nat} {a : GAcceptor} (ha : l[k]? = some a) (hh : hit1 p k a = true) (hl : (bestTo p l k).1 < a.Ballot) : bestTo p l (k + 1) = (a.Ballot, a.Value) := by
  rw [bestTo, ha]; exact if_pos ⟨hh, hl⟩
theorem bestTo_low {p : GProposal} {l : List GAcceptor} {k : Nat} {a : GAcceptor} (ha : l[k]? = some a) (hl : ¬ (bestTo p l k).1 < a.Ballot) : bestTo p l (k + 1) = bestTo p l k := by
  rw [bestTo, ha]; exact if_neg (fun q => hl q.2)
theorem bestTo_miss {p : GProposal} {l : List GAcceptor} {k : Nat} {a : GAcceptor} (ha : l[k]? = some a) (hh : hit1 p k a = false) : bestTo p l (k + 1) = bestTo p l k := by
  rw [bestTo, ha]; exact if_neg (fun q => by rw [hh] at q; cases q.1)
theorem bestTo_b {p : GProposal} {l : List GAcceptor} (hb : bAcceptorS l) (hp : bConfig p.Value) : ∀ {k : Nat}, bConfig (bestTo p l k).2
  | 0 => hp
  | k + 1 => by
    have := bestTo_b (p := p) (l := l) hb hp (k := k)
    rw [bestTo]
    split
    · rename_i a ha
      split
      · exact hb.2 a (List.mem_of_getElem? ha)
      · exact this
    · exact this
def runIn (l : List GAcceptor) (p : GProposal) : Bool := areAcc l && validC p.Value && decide (1 ≤ p.Ballot ∧ p.Ballot ≤ 99)
/-- What the first phase leaves. -/
def run1 (l : List GAcceptor) (p : GProposal) : List GAcceptor := putTo (hit1 p) (fun a => prepareA a p.Ballot) l 3
def run1Ok (l : List GAcceptor) (p : GProposal) : Bool := decide (3 < 2 * cntTo (hit1 p) l 3)
def runV (l : List GAcceptor) (p : GProposal) : GConfig := (bestTo p l 3).2
def run2 (l : List GAcceptor) (p : GProposal) (v : GConfig) : List GAcceptor := putTo (hit2 p v) (fun a => acceptA a p.Ballot v) l 3
def run2Ok (l : List GAcceptor) (p : GProposal) (v : GConfig) : Bool := decide (3 < 2 * cntTo (hit2 p v) l 3)
def runA (l : List GAcceptor) (p : GProposal) : List GAcceptor := if runIn l p = true then (if run1Ok l p = true then run2 (run1 l p) p (runV l p) else run1 l p) else l
def runOk (l : List GAcceptor) (p : GProposal) : Bool := runIn l p && run1Ok l p && run2Ok (run1 l p) p (runV l p)
def runC (l : List GAcceptor) (p : GProposal) : GConfig := if runOk l p = true then runV l p else noConfig
theorem prepareA_no {a : GAcceptor} {n : Int} (h : prepareOk a n = false) : prepareA a n = a := by rw [prepareA, if_neg (by rw [h]; exact fun q => by cases q)]
theorem acceptA_no {a : GAcceptor} {n : Int} {c : GConfig} (h : acceptOk a n c = false) : acceptA a n c = a := by rw [acceptA, if_neg (by rw [h]; exact fun q => by cases q)]
theorem runA_b {l : List GAcceptor} {p : GProposal} (hb : bAcceptorS l) (hp : bConfig p.Value) : bAcceptorS (runA l p) := by
  have h1 : bAcceptorS (run1 l p) := putTo_b (fun a => prepareA_b) hb
  have hv : bConfig (runV l p) := bestTo_b hb hp
  unfold runA
  split
  · split
    · exact putTo_b (fun a ha => acceptA_b ha hv) h1
    · exact h1
  · exact hb
theorem runC_b {l : List GAcceptor} {p : GProposal} (hb : bAcceptorS l) (hp : bConfig p.Value) : bConfig (runC l p) := by
  unfold runC
  split
  · exact bestTo_b hb hp
  · exact no_b

theorem nG_bound {α : Type} {n1 : α → Int} {C : Int} : ∀ {l : List α}, (∀ x ∈ l, n1 x ≤ C) → nG n1 l ≤ C * (l.length : Int)
  | [], _ => by simp [nG]
  | x :: r, h => by
    have h1 := h x (List.mem_cons_self ..)
    have h2 := nG_bound (l := r) (fun y hy => h y (List.mem_cons_of_mem _ hy))
    rw [nG, List.length_cons, Int.natCast_add, Int.mul_add]
    omega
theorem run_len {l : List GAcceptor} {p : GProposal} : (runA l p).length = l.length := by
  unfold runA run2 run1
  split
  · split <;> simp [putTo_len]
  · rfl
theorem run_nG {l : List GAcceptor} {p : GProposal} (hb : bAcceptorS l) (hp : bConfig p.Value) (h0 : 0 ≤ nG n1Acceptor l) (h1 : nG n1Acceptor l ≤ 4 * 1048576) : 0 ≤ nG n1Acceptor (runA l p) ∧ nG n1Acceptor (runA l p) ≤ 200000000000000 := by
  refine ⟨nG_pos (fun x => by unfold n1Acceptor; omega), ?_⟩
  cases hv : runIn l p
  · rw [runA, if_neg (by rw [hv]; simp)]; omega
  · have hv' := hv
    simp only [runIn, Bool.and_eq_true, decide_eq_true_eq] at hv'
    have hl := areAcc_len hv'.1.1
    have h := nG_bound (n1 := n1Acceptor) (C := 60000000000000) (l := runA l p) (fun x hx => by
      have h2 := (runA_b hb hp).2 x hx
      obtain ⟨h3, h4⟩ := h2
      unfold bIntS at h3 h4
      unfold n1Acceptor
      omega)
    rw [run_len, hl] at h
    omega

set_option maxHeartbeats 1000000 in
theorem w_impl_RunProposal (l : List GAcceptor) (p : GProposal) (hb : bAcceptorS l) (hp : bProposal p) (hn : l.length ≤ 2000000) : Fn Pr n_impl_RunProposal [.sl 6 eGAcceptor (fun _ => l), aGProposal p] (.tup [.sl 6 eGAcceptor (fun _ => runA l p), aGConfig (runC l p), .bo (runOk l p)]) := by
  cases hv : runIn l p
  · rw [runA, if_neg (by rw [hv]; simp), runC, runOk, hv]
    refine k_impl_RunProposal.fn (by kernel_rfl) ?_
    conv => arg 4; cbv
    repeat' first
      | (refine Sat.cmp (fun h => ?_) (fun h => ?_) <;> simp only [Cmp.holds] at h <;> (conv => arg 4; cbv))
      | (refine Sat.call (w_impl_acceptorsCopy l hb hn) rfl ledA ?_; conv => arg 4; cbv)
      | (refine Sat.callb (w_impl_AreAcceptors l hb) rfl ledA (fun h => ?_) (fun h => ?_) <;> (try simp only [decide_eq_true_eq, decide_eq_false_iff_not] at h) <;> (conv => arg 4; cbv))
      | (refine Sat.callb (w_impl_IsValidConfig p.Value hp.2.2) rfl ledA (fun h => ?_) (fun h => ?_) <;> (try simp only [decide_eq_true_eq, decide_eq_false_iff_not] at h) <;> (conv => arg 4; cbv))
      | (refine Sat.callb (w_impl_within _ _ _) rfl ledA (fun h => ?_) (fun h => ?_) <;> (try simp only [decide_eq_true_eq, decide_eq_false_iff_not] at h) <;> (conv => arg 4; cbv))
      | (exfalso; (try simp only [ncast] at *); simp_all [runIn]; done)
      | (refine Sat.need ndA ?_; conv => arg 4; cbv)
      | (refine Sat.idxk (by assumption) ?_; conv => arg 4; cbv) | (refine Sat.idx ndA (fun v_ hv_ => ?_); conv => arg 4; cbv)
      | (refine Sat.ari64 ndA ndA ?_; conv => arg 4; cbv)
      | (refine Sat.pop ?_; conv => arg 4; cbv)
      | refine Sat.done ?_
    all_goals exact .tup rfl (led_cons (.sl (by simp)) (led_cons ledA (led_cons (.same _) led_nil)))
  have hv' := hv
  simp only [runIn, Bool.and_eq_true, decide_eq_true_eq] at hv'
  have hl3 := areAcc_len hv'.1.1
  refine k_impl_RunProposal.fn (by kernel_rfl) ?_
  conv => arg 4; cbv
  repeat' first
    | (refine Sat.call (w_impl_acceptorsCopy l hb hn) rfl ledA ?_; conv => arg 4; cbv)
    | (refine Sat.callb (w_impl_AreAcceptors l hb) rfl ledA (fun h => ?_) (fun h => ?_) <;> (conv => arg 4; cbv))
    | (refine Sat.callb (w_impl_IsValidConfig p.Value hp.2.2) rfl ledA (fun h => ?_) (fun h => ?_) <;> (conv => arg 4; cbv))
    | (refine Sat.callb (w_impl_within _ _ _) rfl ledA (fun h => ?_) (fun h => ?_) <;> (conv => arg 4; cbv))
    | (exfalso; simp_all; done)
  refine Sat.loopP (ι := Nat) (fun i => [(8, .int .i64 (fun _ => (cntTo (hit1 p) l i : Int))), (10, .int .i64 (fun _ => (bestTo p l i).1)), (43, .int .i64 (fun _ => (i : Int)))]) (fun i => [(416, .lit 0 [.int .i64 (fun _ => (bestTo p l i).2.Epoch), .int .i64 (fun _ => (bestTo p l i).2.Primary), .sl 1 (encI .i64) (fun _ => (bestTo p l i).2.Replicas), .sl 1 (encI .i64) (fun _ => (bestTo p l i).2.Witnesses)]), (80, .row 6 eGAcceptor (fun _ => putTo (hit1 p) (fun a => prepareA a p.Ballot) l i) false)]) (fun i => i ≤ l.length) (fun i => l.length - i) 0 ?_ (by omega) (fun i hi => ?_)
  · refine les_of ?_ ?_ rfl
    iterate 2 (focus repeat' (first | exact trivial | refine And.intro ?_ ?_ | exact levA | refine lev_cons ?_ ?_ | refine LeV.agg rfl ?_ | exact Nat.le_of_ble_eq_true rfl | exact Or.inl ⟨_, rfl, .row rfl⟩ | refine Or.inl ⟨_, rfl, .row ?_⟩ | refine Or.inl ⟨_, rfl, .lit rfl ?_⟩ | exact Or.inr ⟨rfl, rfl⟩ | (exact putTo_zero.symm)))
  have hle := cntTo_le (h := hit1 p) (l := l) (k := i)
  have hpl : (putTo (hit1 p) (fun a => prepareA a p.Ballot) l i).length = l.length := putTo_len
  conv => arg 4; cbv
  repeat' first
    | (refine Sat.cmp (fun h => ?_) (fun h => ?_) <;> simp only [Cmp.holds] at h <;> (conv => arg 4; cbv))
    | (refine Sat.need ndA ?_; conv => arg 4; cbv)
    | (refine Sat.idxk (by assumption) ?_; conv => arg 4; cbv) | (refine Sat.idx ndA (fun v_ hv_ => ?_); conv => arg 4; cbv)
    | (refine Sat.ari64 ndA ndA ?_; conv => arg 4; cbv)
    | (refine Sat.pop ?_; conv => arg 4; cbv)
  · revert v_
    intro a ha
    have ha' : l[i]? = some a := by simpa using ha
    have H := w_impl_Prepare a p.Ballot (hb.2 _ (List.mem_of_getElem? ha'))
    cases hk : prepareOk a p.Ballot <;> rw [hk] at H <;> (refine Sat.call H rfl ledA ?_; conv => arg 4; cbv)
    · have hh : hit1 p i a = false := by rw [hit1, hk, Bool.false_and]
      have e1 := cntTo_miss (h := hit1 p) ha' hh
      have e2 := bestTo_miss ha' hh
      have e3 := putTo_miss (f := fun a => prepareA a p.Ballot) ha' hh
      repeat' first
        | (refine Sat.cmp (fun h => ?_) (fun h => ?_) <;> simp only [Cmp.holds] at h <;> (conv => arg 4; cbv))
        | (refine Sat.need ndA ?_; conv => arg 4; cbv)
        | (refine Sat.idxk (by assumption) ?_; conv => arg 4; cbv) | (refine Sat.idx ndA (fun v_ hv_ => ?_); conv => arg 4; cbv)
        | (refine Sat.ari64 ndA ndA ?_; conv => arg 4; cbv)
        | (refine Sat.pop ?_; conv => arg 4; cbv)
        | refine Sat.next (i + 1) ?_ (by exact arA) (by exact arA)
      refine les_of ?_ ?_ rfl
      iterate 2 (focus repeat' (first | exact trivial | refine And.intro ?_ ?_ | exact levA | refine lev_cons ?_ ?_ | refine LeV.agg rfl ?_ | exact Nat.le_of_ble_eq_true rfl | exact Or.inl ⟨_, rfl, .row rfl⟩ | refine Or.inl ⟨_, rfl, .row ?_⟩ | refine Or.inl ⟨_, rfl, .lit rfl ?_⟩ | exact Or.inr ⟨rfl, rfl⟩ | (first | exact .int ndA | (refine .int ?_; (try dsimp only); rw [e2]; done) | (refine .sl ?_; (try dsimp only); rw [e2]; done) | (rw [e3]; done))))
    · cases hh' : decide ((i : Int) ∈ p.First)
      · have hh : hit1 p i a = false := by rw [hit1, hk, hh']; rfl
        have e1 := cntTo_miss (h := hit1 p) ha' hh
        have e2 := bestTo_miss ha' hh
        have e3 := putTo_miss (f := fun a => prepareA a p.Ballot) ha' hh
        repeat' first
          | (refine Sat.cmp (fun h => ?_) (fun h => ?_) <;> simp only [Cmp.holds] at h <;> (conv => arg 4; cbv))
          | (refine Sat.need ndA ?_; conv => arg 4; cbv)
          | (refine Sat.idxk (by assumption) ?_; conv => arg 4; cbv) | (refine Sat.idx ndA (fun v_ hv_ => ?_); conv => arg 4; cbv)
          | (refine Sat.callb (w_impl_HasServer p.First (i : Int) hp.1) rfl ledA (fun h => ?_) (fun h => ?_) <;> (conv => arg 4; cbv))
          | (exfalso; rw [hh'] at *; contradiction)
          | (refine Sat.ari64 ndA ndA ?_; conv => arg 4; cbv)
          | (refine Sat.pop ?_; conv => arg 4; cbv)
          | refine Sat.next (i + 1) ?_ (by exact arA) (by exact arA)
        refine les_of ?_ ?_ rfl
        iterate 2 (focus repeat' (first | exact trivial | refine And.intro ?_ ?_ | exact levA | refine lev_cons ?_ ?_ | refine LeV.agg rfl ?_ | exact Nat.le_of_ble_eq_true rfl | exact Or.inl ⟨_, rfl, .row rfl⟩ | refine Or.inl ⟨_, rfl, .row ?_⟩ | refine Or.inl ⟨_, rfl, .lit rfl ?_⟩ | exact Or.inr ⟨rfl, rfl⟩ | (first | exact .int ndA | (refine .int ?_; (try dsimp only); rw [e2]; done) | (refine .sl ?_; (try dsimp only); rw [e2]; done) | (rw [e3]; done))))
      · have hh : hit1 p i a = true := by rw [hit1, hk, hh']; rfl
        have e1 := cntTo_hit (h := hit1 p) ha' hh
        have e3 := putTo_hit (f := fun a => prepareA a p.Ballot) ha' hh
        repeat' first
          | (refine Sat.cmp (fun h => ?_) (fun h => ?_) <;> simp only [Cmp.holds] at h <;> (conv => arg 4; cbv))
          | (refine Sat.need ndA ?_; conv => arg 4; cbv)
          | (refine Sat.idxk (by assumption) ?_; conv => arg 4; cbv) | (refine Sat.idx ndA (fun v_ hv_ => ?_); conv => arg 4; cbv)
          | (refine Sat.callb (w_impl_HasServer p.First (i : Int) hp.1) rfl ledA (fun h => ?_) (fun h => ?_) <;> (conv => arg 4; cbv))
          | (exfalso; rw [hh'] at *; contradiction)
          | (refine Sat.typed (prepareA a p.Ballot) tcA ?_; conv => arg 4; cbv)
          | (refine Sat.ari64 ndA ndA ?_; conv => arg 4; cbv)
          | (refine Sat.pop ?_; conv => arg 4; cbv)
          | refine Sat.next (i + 1) ?_ (by exact arA) (by exact arA)
        · have e2 := bestTo_hit ha' hh (by assumption)
          refine les_of ?_ ?_ rfl
          iterate 2 (focus repeat' (first | exact trivial | refine And.intro ?_ ?_ | exact levA | refine lev_cons ?_ ?_ | refine LeV.agg rfl ?_ | exact Nat.le_of_ble_eq_true rfl | exact Or.inl ⟨_, rfl, .row rfl⟩ | refine Or.inl ⟨_, rfl, .row ?_⟩ | refine Or.inl ⟨_, rfl, .lit rfl ?_⟩ | exact Or.inr ⟨rfl, rfl⟩ | (first | exact .int ndA | (refine .int ?_; (try dsimp only); rw [e2]; done) | (refine .sl ?_; (try dsimp only); rw [e2]; done) | (refine Eq.trans ?_ e3.symm; simp [setAt]; done))))
        · have e2 := bestTo_low (p := p) ha' (by assumption)
          refine les_of ?_ ?_ rfl
          iterate 2 (focus repeat' (first | exact trivial | refine And.intro ?_ ?_ | exact levA | refine lev_cons ?_ ?_ | refine LeV.agg rfl ?_ | exact Nat.le_of_ble_eq_true rfl | exact Or.inl ⟨_, rfl, .row rfl⟩ | refine Or.inl ⟨_, rfl, .row ?_⟩ | refine Or.inl ⟨_, rfl, .lit rfl ?_⟩ | exact Or.inr ⟨rfl, rfl⟩ | (first | exact .int ndA | (refine .int ?_; (try dsimp only); rw [e2]; done) | (refine .sl ?_; (try dsimp only); rw [e2]; done) | (refine Eq.trans ?_ e3.symm; simp [setAt]; done))))
  · have ei : i = 3 := by exact arA
    subst ei
    have hr1 : run1Ok l p = false := by rw [run1Ok]; simp; exact arA
    rw [runA, if_pos hv, hr1, if_neg (by simp), runC, runOk, hr1, Bool.and_false, Bool.false_and, if_neg (by simp)]
    exact Sat.done (.tup rfl (led_cons (.sl (by simp [run1, hpl, hl3])) (led_cons ledA (led_cons (.same _) led_nil))))
  have ei : i = 3 := by exact arA
  subst ei
  have hr1 : run1Ok l p = true := by rw [run1Ok]; simp; exact arA
  rw [runA, if_pos hv, if_pos hr1, runC, runOk, hv, hr1, Bool.true_and, Bool.true_and]
  have hb1 : bAcceptorS (run1 l p) := putTo_b (fun a => prepareA_b) hb
  have hbv : bConfig (runV l p) := bestTo_b hb hp.2.2
  have hl1 : (run1 l p).length = 3 := by rw [run1, putTo_len, hl3]
  clear hle hpl
  revert h hb1 hbv hl1
  rw [show runV l p = (bestTo p l 3).2 from rfl, show run1 l p = putTo (hit1 p) (fun a => prepareA a p.Ballot) l 3 from rfl]
  generalize (bestTo p l 3).2 = V
  generalize putTo (hit1 p) (fun a => prepareA a p.Ballot) l 3 = x1
  intro h hb1 hbv hl1
  refine Sat.loopP (ι := Nat) (fun i => [(9, .int .i64 (fun _ => (cntTo (hit2 p V) x1 i : Int))), (84, .int .i64 (fun _ => (i : Int)))]) (fun i => [(80, .row 6 eGAcceptor (fun _ => putTo (hit2 p V) (fun a => acceptA a p.Ballot V) x1 i) false)]) (fun i => i ≤ 3) (fun i => 3 - i) 0 ?_ (by omega) (fun i hi => ?_)
  · refine les_of ?_ ?_ rfl
    iterate 2 (focus repeat' (first | exact trivial | refine And.intro ?_ ?_ | exact levA | refine lev_cons ?_ ?_ | refine LeV.agg rfl ?_ | exact Nat.le_of_ble_eq_true rfl | exact Or.inl ⟨_, rfl, .row rfl⟩ | refine Or.inl ⟨_, rfl, .row ?_⟩ | refine Or.inl ⟨_, rfl, .lit rfl ?_⟩ | exact Or.inr ⟨rfl, rfl⟩ | (exact putTo_zero.symm)))
  have hle := cntTo_le (h := hit2 p V) (l := x1) (k := i)
  have hpl : (putTo (hit2 p V) (fun a => acceptA a p.Ballot V) x1 i).length = x1.length := putTo_len
  conv => arg 4; cbv
  repeat' first
    | (refine Sat.cmp (fun h => ?_) (fun h => ?_) <;> simp only [Cmp.holds] at h <;> (conv => arg 4; cbv))
    | (refine Sat.need ndA ?_; conv => arg 4; cbv)
    | (refine Sat.idxk (by assumption) ?_; conv => arg 4; cbv) | (refine Sat.idx ndA (fun v_ hv_ => ?_); conv => arg 4; cbv)
    | (refine Sat.call (w_impl_configCopy V hbv) rfl ledA ?_; conv => arg 4; cbv)
    | (refine Sat.ari64 ndA ndA ?_; conv => arg 4; cbv)
    | (refine Sat.pop ?_; conv => arg 4; cbv)
  · revert v_
    intro a ha
    have ha' : x1[i]? = some a := by rw [putTo_get (by simp)] at ha; simpa using ha
    have H := w_impl_Accept a p.Ballot V (hb1.2 _ (List.mem_of_getElem? ha')) hbv
    cases hk : acceptOk a p.Ballot V <;> rw [hk] at H <;> (refine Sat.call H rfl ledA ?_; conv => arg 4; cbv)
    · have hh : hit2 p V i a = false := by rw [hit2, hk, Bool.false_and]
      have e1 := cntTo_miss (h := hit2 p V) ha' hh
      have e3 := putTo_miss (f := fun a => acceptA a p.Ballot V) ha' hh
      repeat' first
        | (refine Sat.cmp (fun h => ?_) (fun h => ?_) <;> simp only [Cmp.holds] at h <;> (conv => arg 4; cbv))
        | (refine Sat.need ndA ?_; conv => arg 4; cbv)
        | (refine Sat.idxk (by assumption) ?_; conv => arg 4; cbv) | (refine Sat.idx ndA (fun v_ hv_ => ?_); conv => arg 4; cbv)
        | (refine Sat.ari64 ndA ndA ?_; conv => arg 4; cbv)
        | (refine Sat.pop ?_; conv => arg 4; cbv)
        | refine Sat.next (i + 1) ?_ (by exact arA) (by exact arA)
      refine les_of ?_ ?_ rfl
      iterate 2 (focus repeat' (first | exact trivial | refine And.intro ?_ ?_ | exact levA | refine lev_cons ?_ ?_ | refine LeV.agg rfl ?_ | exact Nat.le_of_ble_eq_true rfl | exact Or.inl ⟨_, rfl, .row rfl⟩ | refine Or.inl ⟨_, rfl, .row ?_⟩ | refine Or.inl ⟨_, rfl, .lit rfl ?_⟩ | exact Or.inr ⟨rfl, rfl⟩ | (first | exact .int ndA | (rw [e3]; done))))
    · cases hh' : decide ((i : Int) ∈ p.Second)
      · have hh : hit2 p V i a = false := by rw [hit2, hk, hh']; rfl
        have e1 := cntTo_miss (h := hit2 p V) ha' hh
        have e3 := putTo_miss (f := fun a => acceptA a p.Ballot V) ha' hh
        repeat' first
          | (refine Sat.cmp (fun h => ?_) (fun h => ?_) <;> simp only [Cmp.holds] at h <;> (conv => arg 4; cbv))
          | (refine Sat.need ndA ?_; conv => arg 4; cbv)
          | (refine Sat.idxk (by assumption) ?_; conv => arg 4; cbv) | (refine Sat.idx ndA (fun v_ hv_ => ?_); conv => arg 4; cbv)
          | (refine Sat.callb (w_impl_HasServer p.Second (i : Int) hp.2.1) rfl ledA (fun h => ?_) (fun h => ?_) <;> (conv => arg 4; cbv))
          | (exfalso; rw [hh'] at *; contradiction)
          | (refine Sat.ari64 ndA ndA ?_; conv => arg 4; cbv)
          | (refine Sat.pop ?_; conv => arg 4; cbv)
          | refine Sat.next (i + 1) ?_ (by exact arA) (by exact arA)
        refine les_of ?_ ?_ rfl
        iterate 2 (focus repeat' (first | exact trivial | refine And.intro ?_ ?_ | exact levA | refine lev_cons ?_ ?_ | refine LeV.agg rfl ?_ | exact Nat.le_of_ble_eq_true rfl | exact Or.inl ⟨_, rfl, .row rfl⟩ | refine Or.inl ⟨_, rfl, .row ?_⟩ | refine Or.inl ⟨_, rfl, .lit rfl ?_⟩ | exact Or.inr ⟨rfl, rfl⟩ | (first | exact .int ndA | (rw [e3]; done))))
      · have hh : hit2 p V i a = true := by rw [hit2, hk, hh']; rfl
        have e1 := cntTo_hit (h := hit2 p V) ha' hh
        have e3 := putTo_hit (f := fun a => acceptA a p.Ballot V) ha' hh
        repeat' first
          | (refine Sat.cmp (fun h => ?_) (fun h => ?_) <;> simp only [Cmp.holds] at h <;> (conv => arg 4; cbv))
          | (refine Sat.need ndA ?_; conv => arg 4; cbv)
          | (refine Sat.idxk (by assumption) ?_; conv => arg 4; cbv) | (refine Sat.idx ndA (fun v_ hv_ => ?_); conv => arg 4; cbv)
          | (refine Sat.callb (w_impl_HasServer p.Second (i : Int) hp.2.1) rfl ledA (fun h => ?_) (fun h => ?_) <;> (conv => arg 4; cbv))
          | (exfalso; rw [hh'] at *; contradiction)
          | (refine Sat.typed (acceptA a p.Ballot V) tcA ?_; conv => arg 4; cbv)
          | (refine Sat.ari64 ndA ndA ?_; conv => arg 4; cbv)
          | (refine Sat.pop ?_; conv => arg 4; cbv)
          | refine Sat.next (i + 1) ?_ (by exact arA) (by exact arA)
        refine les_of ?_ ?_ rfl
        iterate 2 (focus repeat' (first | exact trivial | refine And.intro ?_ ?_ | exact levA | refine lev_cons ?_ ?_ | refine LeV.agg rfl ?_ | exact Nat.le_of_ble_eq_true rfl | exact Or.inl ⟨_, rfl, .row rfl⟩ | refine Or.inl ⟨_, rfl, .row ?_⟩ | refine Or.inl ⟨_, rfl, .lit rfl ?_⟩ | exact Or.inr ⟨rfl, rfl⟩ | (first | exact .int ndA | (refine Eq.trans ?_ e3.symm; simp [setAt]; done))))
  · have ei : i = 3 := by exact arA
    subst ei
    have hr2 : run2Ok x1 p V = false := by rw [run2Ok]; simp; exact arA
    rw [hr2, if_neg (by simp)]
    exact Sat.done (.tup rfl (led_cons (.sl (by simp [run2, hpl, hl1, hl3])) (led_cons ledA (led_cons (.same _) led_nil))))
  · have ei : i = 3 := by exact arA
    subst ei
    have hr2 : run2Ok x1 p V = true := by rw [run2Ok]; simp; exact arA
    rw [hr2, if_pos rfl]
    exact Sat.done (.tup rfl (led_cons (.sl (by simp [run2, hpl, hl1, hl3])) (led_cons ledA (led_cons (.same _) led_nil))))

theorem Sat.nextR2 {ι : Type} {As : List (St → Prop)} {Q : AV → Prop} {s : St} {G : ι → Prop} {μ : ι → Nat} {S : ι → St} {x : ι} (b c b' c' : Nat) (y : ι) (hc : noFx c s.st = true) (hb : noFx b s.st = true) (hlt : Nat.blt c s.nx = true) (hlt2 : Nat.blt b s.nx = true) (hc' : noFx c' (renS b c s).st = true) (hb' : noFx b' (renS b c s).st = true) (hlt' : Nat.blt c' (renS b c s).nx = true) (hlt2' : Nat.blt b' (renS b c s).nx = true) (h : LeS (renS b' c' (renS b c s)) (S y)) (hg : G y) (hm : μ y < μ x) : Sat Pr Q ((fun s' => ∃ y, LeS s' (S y) ∧ G y ∧ μ y < μ x) :: As) (.again s) :=
  .again (.step b c hc hb hlt hlt2 (.step b' c' hc' hb' hlt' hlt2' (.refl _))) ⟨y, h, hg, hm⟩

set_option maxHeartbeats 1000000 in
theorem w_spec_RunProposal (l : List GAcceptor) (p : GProposal) (hb : bAcceptorS l) (hp : bProposal p) (hn : l.length ≤ 2000000) : Fn Pr n_spec_RunProposal [.sl 6 eGAcceptor (fun _ => l), aGProposal p] (.tup [.sl 6 eGAcceptor (fun _ => runA l p), aGConfig (runC l p), .bo (runOk l p)]) := by
  cases hv : runIn l p
  · rw [runA, if_neg (by rw [hv]; simp), runC, runOk, hv]
    refine k_spec_RunProposal.fn (by kernel_rfl) ?_
    conv => arg 4; cbv
    repeat' first
      | (refine Sat.cmp (fun h => ?_) (fun h => ?_) <;> simp only [Cmp.holds] at h <;> (conv => arg 4; cbv))
      | (refine Sat.call (w_spec_l11Copy l hb hn) rfl ledA ?_; conv => arg 4; cbv)
      | (refine Sat.callb (w_spec_AreAcceptors l hb) rfl ledA (fun h => ?_) (fun h => ?_) <;> (try simp only [decide_eq_true_eq, decide_eq_false_iff_not] at h) <;> (conv => arg 4; cbv))
      | (refine Sat.callb (w_spec_IsValidConfig p.Value hp.2.2) rfl ledA (fun h => ?_) (fun h => ?_) <;> (try simp only [decide_eq_true_eq, decide_eq_false_iff_not] at h) <;> (conv => arg 4; cbv))
      | (refine Sat.callb (w_spec_l1In _ _ _) rfl ledA (fun h => ?_) (fun h => ?_) <;> (try simp only [decide_eq_true_eq, decide_eq_false_iff_not] at h) <;> (conv => arg 4; cbv))
      | (exfalso; (try simp only [ncast] at *); simp_all [runIn]; done)
      | (refine Sat.need ndA ?_; conv => arg 4; cbv)
      | (refine Sat.idxk (by assumption) ?_; conv => arg 4; cbv) | (refine Sat.idx ndA (fun v_ hv_ => ?_); conv => arg 4; cbv)
      | (refine Sat.ari64 ndA ndA ?_; conv => arg 4; cbv)
      | (refine Sat.pop ?_; conv => arg 4; cbv)
      | refine Sat.done ?_
    all_goals exact .tup rfl (led_cons (.sl (by simp)) (led_cons ledA (led_cons (.same _) led_nil)))
  have hv' := hv
  simp only [runIn, Bool.and_eq_true, decide_eq_true_eq] at hv'
  have hl3 := areAcc_len hv'.1.1
  refine k_spec_RunProposal.fn (by kernel_rfl) ?_
  conv => arg 4; cbv
  repeat' first
    | (refine Sat.call (w_spec_l11Copy l hb hn) rfl ledA ?_; conv => arg 4; cbv)
    | (refine Sat.callb (w_spec_AreAcceptors l hb) rfl ledA (fun h => ?_) (fun h => ?_) <;> (conv => arg 4; cbv))
    | (refine Sat.callb (w_spec_IsValidConfig p.Value hp.2.2) rfl ledA (fun h => ?_) (fun h => ?_) <;> (conv => arg 4; cbv))
    | (refine Sat.callb (w_spec_l1In _ _ _) rfl ledA (fun h => ?_) (fun h => ?_) <;> (conv => arg 4; cbv))
    | (refine Sat.call (w_spec_l8Copy p.Value hp.2.2) rfl ledA ?_; conv => arg 4; cbv)
    | (exfalso; simp_all; done)
  refine Sat.loopP (ι := Nat) (fun i => [(8, .int .i64 (fun _ => (cntTo (hit1 p) l i : Int))), (9, .int .i64 (fun _ => (bestTo p l i).1)), (11, .int .i64 (fun _ => (i : Int)))]) (fun i => [(432, .lit 0 [.int .i64 (fun _ => (bestTo p l i).2.Epoch), .int .i64 (fun _ => (bestTo p l i).2.Primary), .ref 416 (fun _ => 0) (fun _ => (bestTo p l i).2.Replicas.length), .ref 417 (fun _ => 0) (fun _ => (bestTo p l i).2.Witnesses.length)]), (416, .row 1 (encI .i64) (fun _ => (bestTo p l i).2.Replicas) false), (417, .row 1 (encI .i64) (fun _ => (bestTo p l i).2.Witnesses) false), (80, .row 6 eGAcceptor (fun _ => putTo (hit1 p) (fun a => prepareA a p.Ballot) l i) false)]) (fun i => i ≤ l.length) (fun i => l.length - i) 0 ?_ (by omega) (fun i hi => ?_)
  · refine les_of ?_ ?_ rfl
    iterate 2 (focus repeat' (first | exact trivial | refine And.intro ?_ ?_ | exact levA | refine lev_cons ?_ ?_ | refine LeV.agg rfl ?_ | exact Nat.le_of_ble_eq_true rfl | exact Or.inl ⟨_, rfl, .row rfl⟩ | refine Or.inl ⟨_, rfl, .row ?_⟩ | refine Or.inl ⟨_, rfl, .lit rfl ?_⟩ | exact Or.inr ⟨rfl, rfl⟩ | (exact putTo_zero.symm)))
  have hle := cntTo_le (h := hit1 p) (l := l) (k := i)
  have hpl : (putTo (hit1 p) (fun a => prepareA a p.Ballot) l i).length = l.length := putTo_len
  conv => arg 4; cbv
  repeat' first
    | (refine Sat.cmp (fun h => ?_) (fun h => ?_) <;> simp only [Cmp.holds] at h <;> (conv => arg 4; cbv))
    | (refine Sat.need ndA ?_; conv => arg 4; cbv)
    | (refine Sat.callb (w_spec_HasServer p.First (i : Int) hp.1) rfl ledA (fun h => ?_) (fun h => ?_) <;> (conv => arg 4; cbv))
    | (refine Sat.idxk (by assumption) ?_; conv => arg 4; cbv) | (refine Sat.idx ndA (fun v_ hv_ => ?_); conv => arg 4; cbv)
    | (refine Sat.ari64 ndA ndA ?_; conv => arg 4; cbv)
    | (refine Sat.pop ?_; conv => arg 4; cbv)
  · revert v_
    intro a ha
    have ha2 : (putTo (hit1 p) (fun a => prepareA a p.Ballot) l i)[i]? = some a := by simpa using ha
    have ha' : l[i]? = some a := by rw [putTo_get (Nat.le_refl _)] at ha2; exact ha2
    have hf : decide ((i : Int) ∈ p.First) = true := by assumption
    have H := w_spec_Prepare a p.Ballot (hb.2 _ (List.mem_of_getElem? ha'))
    have hB : (prepareA a p.Ballot).Ballot = a.Ballot := by unfold prepareA; split <;> rfl
    have hV : (prepareA a p.Ballot).Value = a.Value := by unfold prepareA; split <;> rfl
    cases hk : prepareOk a p.Ballot <;> rw [hk] at H
    · have hh : hit1 p i a = false := by rw [hit1, hk, Bool.false_and]
      have e1 := cntTo_miss (h := hit1 p) ha' hh
      have e2 := bestTo_miss ha' hh
      have e3 := (putTo_miss (f := fun a => prepareA a p.Ballot) ha' hh).trans (set_same ha2).symm
      rw [prepareA_no hk] at H
      refine Sat.call H rfl ledA ?_
      conv => arg 4; cbv
      repeat' first
        | (refine Sat.cmp (fun h => ?_) (fun h => ?_) <;> simp only [Cmp.holds] at h <;> (conv => arg 4; cbv))
        | (refine Sat.need ndA ?_; conv => arg 4; cbv)
        | (refine Sat.idxk (by assumption) ?_; conv => arg 4; cbv) | (refine Sat.idx ndA (fun v_ hv_ => ?_); conv => arg 4; cbv)
        | (refine Sat.typed a tcA ?_; conv => arg 4; cbv)
        | (refine Sat.ari64 ndA ndA ?_; conv => arg 4; cbv)
        | (refine Sat.pop ?_; conv => arg 4; cbv)
        | refine Sat.next (i + 1) ?_ (by exact arA) (by exact arA)
      refine les_of ?_ ?_ rfl
      iterate 2 (focus repeat' (first | exact trivial | refine And.intro ?_ ?_ | exact levA | refine lev_cons ?_ ?_ | refine LeV.agg rfl ?_ | exact Nat.le_of_ble_eq_true rfl | exact Or.inl ⟨_, rfl, .row rfl⟩ | refine Or.inl ⟨_, rfl, .row ?_⟩ | refine Or.inl ⟨_, rfl, .lit rfl ?_⟩ | exact Or.inr ⟨rfl, rfl⟩ | (first | exact .int ndA | (refine .int ?_; (try dsimp only); rw [e2]; done) | (exact .ref (fun h => nomatch h) (fun h => nomatch h) rfl (by (try dsimp only); rw [e2])) | (rw [e2]; done) | (refine Eq.trans ?_ e3.symm; simp [setAt]; done))))
    · have hh : hit1 p i a = true := by rw [hit1, hk, hf]; rfl
      have e1 := cntTo_hit (h := hit1 p) ha' hh
      have e3 := putTo_hit (f := fun a => prepareA a p.Ballot) ha' hh
      have hbv : bConfig (prepareA a p.Ballot).Value := by rw [hV]; exact hb.2 _ (List.mem_of_getElem? ha')
      generalize prepareA a p.Ballot = pa at *
      refine Sat.call H rfl ledA ?_
      conv => arg 4; cbv
      repeat' first
        | (refine Sat.cmp (fun h => ?_) (fun h => ?_) <;> simp only [Cmp.holds] at h <;> (conv => arg 4; cbv))
        | (refine Sat.need ndA ?_; conv => arg 4; cbv)
        | (refine Sat.idxk (by assumption) ?_; conv => arg 4; cbv) | (refine Sat.idx ndA (fun v_ hv_ => ?_); conv => arg 4; cbv)
        | (refine Sat.typed pa tcA ?_; conv => arg 4; cbv)
        | (refine Sat.call (w_spec_l8Copy pa.Value hbv) rfl ledA ?_; conv => arg 4; cbv)
        | (refine Sat.ari64 ndA ndA ?_; conv => arg 4; cbv)
        | (refine Sat.pop ?_; conv => arg 4; cbv)
      · have e2 : bestTo p l (i + 1) = (pa.Ballot, pa.Value) := by rw [hB, hV]; exact bestTo_hit ha' hh (by rw [← hB]; assumption)
        refine Sat.nextR2 1140 416 1141 417 (i + 1) rfl rfl rfl rfl rfl rfl rfl rfl ?_ (by exact arA) (by exact arA)
        refine les_of ?_ ?_ rfl
        iterate 2 (focus repeat' (first | exact trivial | refine And.intro ?_ ?_ | exact levA | refine lev_cons ?_ ?_ | refine LeV.agg rfl ?_ | exact Nat.le_of_ble_eq_true rfl | exact Or.inl ⟨_, rfl, .row rfl⟩ | refine Or.inl ⟨_, rfl, .row ?_⟩ | refine Or.inl ⟨_, rfl, .lit rfl ?_⟩ | exact Or.inr ⟨rfl, rfl⟩ | (first | exact .int ndA | (refine .int ?_; (try dsimp only); rw [e2]; done) | (exact .ref (fun h => nomatch h) (fun h => nomatch h) rfl (by (try dsimp only); rw [e2])) | (rw [e2]; done) | (refine Eq.trans ?_ e3.symm; simp [setAt]; done))))
      · have e2 := bestTo_low (p := p) ha' (by rw [← hB]; assumption)
        refine Sat.next (i + 1) ?_ (by exact arA) (by exact arA)
        refine les_of ?_ ?_ rfl
        iterate 2 (focus repeat' (first | exact trivial | refine And.intro ?_ ?_ | exact levA | refine lev_cons ?_ ?_ | refine LeV.agg rfl ?_ | exact Nat.le_of_ble_eq_true rfl | exact Or.inl ⟨_, rfl, .row rfl⟩ | refine Or.inl ⟨_, rfl, .row ?_⟩ | refine Or.inl ⟨_, rfl, .lit rfl ?_⟩ | exact Or.inr ⟨rfl, rfl⟩ | (first | exact .int ndA | (refine .int ?_; (try dsimp only); rw [e2]; done) | (exact .ref (fun h => nomatch h) (fun h => nomatch h) rfl (by (try dsimp only); rw [e2])) | (rw [e2]; done) | (refine Eq.trans ?_ e3.symm; simp [setAt]; done))))
  · have hf : decide ((i : Int) ∈ p.First) = false := by assumption
    obtain ⟨a, ha'⟩ : ∃ a, l[i]? = some a := ⟨_, List.getElem?_eq_getElem (by exact arA)⟩
    have hh : hit1 p i a = false := by rw [hit1, hf, Bool.and_false]
    have e1 := cntTo_miss (h := hit1 p) ha' hh
    have e2 := bestTo_miss ha' hh
    have e3 := putTo_miss (f := fun a => prepareA a p.Ballot) ha' hh
    refine Sat.next (i + 1) ?_ (by exact arA) (by exact arA)
    refine les_of ?_ ?_ rfl
    iterate 2 (focus repeat' (first | exact trivial | refine And.intro ?_ ?_ | exact levA | refine lev_cons ?_ ?_ | refine LeV.agg rfl ?_ | exact Nat.le_of_ble_eq_true rfl | exact Or.inl ⟨_, rfl, .row rfl⟩ | refine Or.inl ⟨_, rfl, .row ?_⟩ | refine Or.inl ⟨_, rfl, .lit rfl ?_⟩ | exact Or.inr ⟨rfl, rfl⟩ | (first | exact .int ndA | (refine .int ?_; (try dsimp only); rw [e2]; done) | (exact .ref (fun h => nomatch h) (fun h => nomatch h) rfl (by (try dsimp only); rw [e2])) | (rw [e2]; done) | (rw [e3]; done) | (refine Eq.trans ?_ e3.symm; simp [setAt]; done))))
  · have ei : i = 3 := by exact arA
    subst ei
    have hr1 : run1Ok l p = false := by rw [run1Ok]; simp; exact arA
    rw [runA, if_pos hv, hr1, if_neg (by simp), runC, runOk, hr1, Bool.and_false, Bool.false_and, if_neg (by simp)]
    exact Sat.done (.tup rfl (led_cons (.sl (by simp [run1, hpl, hl3])) (led_cons ledA (led_cons (.same _) led_nil))))
  have ei : i = 3 := by exact arA
  subst ei
  have hr1 : run1Ok l p = true := by rw [run1Ok]; simp; exact arA
  rw [runA, if_pos hv, if_pos hr1, runC, runOk, hv, hr1, Bool.true_and, Bool.true_and]
  have hb1 : bAcceptorS (run1 l p) := putTo_b (fun a => prepareA_b) hb
  have hbv : bConfig (runV l p) := bestTo_b hb hp.2.2
  have hl1 : (run1 l p).length = 3 := by rw [run1, putTo_len, hl3]
  clear hle hpl
  revert h hb1 hbv hl1
  rw [show runV l p = (bestTo p l 3).2 from rfl, show run1 l p = putTo (hit1 p) (fun a => prepareA a p.Ballot) l 3 from rfl]
  generalize (bestTo p l 3).2 = V
  generalize putTo (hit1 p) (fun a => prepareA a p.Ballot) l 3 = x1
  intro h hb1 hbv hl1
  refine Sat.loopP (ι := Nat) (fun i => [(14, .int .i64 (fun _ => (cntTo (hit2 p V) x1 i : Int))), (15, .int .i64 (fun _ => (i : Int)))]) (fun i => [(80, .row 6 eGAcceptor (fun _ => putTo (hit2 p V) (fun a => acceptA a p.Ballot V) x1 i) false)]) (fun i => i ≤ 3) (fun i => 3 - i) 0 ?_ (by omega) (fun i hi => ?_)
  · refine les_of ?_ ?_ rfl
    iterate 2 (focus repeat' (first | exact trivial | refine And.intro ?_ ?_ | exact levA | refine lev_cons ?_ ?_ | refine LeV.agg rfl ?_ | exact Nat.le_of_ble_eq_true rfl | exact Or.inl ⟨_, rfl, .row rfl⟩ | refine Or.inl ⟨_, rfl, .row ?_⟩ | refine Or.inl ⟨_, rfl, .lit rfl ?_⟩ | exact Or.inr ⟨rfl, rfl⟩ | (exact putTo_zero.symm)))
  have hle := cntTo_le (h := hit2 p V) (l := x1) (k := i)
  have hpl : (putTo (hit2 p V) (fun a => acceptA a p.Ballot V) x1 i).length = x1.length := putTo_len
  conv => arg 4; cbv
  repeat' first
    | (refine Sat.cmp (fun h => ?_) (fun h => ?_) <;> simp only [Cmp.holds] at h <;> (conv => arg 4; cbv))
    | (refine Sat.need ndA ?_; conv => arg 4; cbv)
    | (refine Sat.callb (w_spec_HasServer p.Second (i : Int) hp.2.1) rfl ledA (fun h => ?_) (fun h => ?_) <;> (conv => arg 4; cbv))
    | (refine Sat.idxk (by assumption) ?_; conv => arg 4; cbv) | (refine Sat.idx ndA (fun v_ hv_ => ?_); conv => arg 4; cbv)
    | (refine Sat.ari64 ndA ndA ?_; conv => arg 4; cbv)
    | (refine Sat.pop ?_; conv => arg 4; cbv)
  · revert v_
    intro a ha
    have ha2 : (putTo (hit2 p V) (fun a => acceptA a p.Ballot V) x1 i)[i]? = some a := by simpa using ha
    have ha' : x1[i]? = some a := by rw [putTo_get (Nat.le_refl _)] at ha2; exact ha2
    have hf : decide ((i : Int) ∈ p.Second) = true := by assumption
    have H := w_spec_Accept a p.Ballot V (hb1.2 _ (List.mem_of_getElem? ha')) hbv
    cases hk : acceptOk a p.Ballot V <;> rw [hk] at H
    · have hh : hit2 p V i a = false := by rw [hit2, hk, Bool.false_and]
      have e1 := cntTo_miss (h := hit2 p V) ha' hh
      have e3 := (putTo_miss (f := fun a => acceptA a p.Ballot V) ha' hh).trans (set_same ha2).symm
      rw [acceptA_no hk] at H
      refine Sat.call H rfl ledA ?_
      conv => arg 4; cbv
      repeat' first
        | (refine Sat.cmp (fun h => ?_) (fun h => ?_) <;> simp only [Cmp.holds] at h <;> (conv => arg 4; cbv))
        | (refine Sat.need ndA ?_; conv => arg 4; cbv)
        | (refine Sat.idxk (by assumption) ?_; conv => arg 4; cbv) | (refine Sat.idx ndA (fun v_ hv_ => ?_); conv => arg 4; cbv)
        | (refine Sat.typed a tcA ?_; conv => arg 4; cbv)
        | (refine Sat.ari64 ndA ndA ?_; conv => arg 4; cbv)
        | (refine Sat.pop ?_; conv => arg 4; cbv)
        | refine Sat.next (i + 1) ?_ (by exact arA) (by exact arA)
      refine les_of ?_ ?_ rfl
      iterate 2 (focus repeat' (first | exact trivial | refine And.intro ?_ ?_ | exact levA | refine lev_cons ?_ ?_ | refine LeV.agg rfl ?_ | exact Nat.le_of_ble_eq_true rfl | exact Or.inl ⟨_, rfl, .row rfl⟩ | refine Or.inl ⟨_, rfl, .row ?_⟩ | refine Or.inl ⟨_, rfl, .lit rfl ?_⟩ | exact Or.inr ⟨rfl, rfl⟩ | (first | exact .int ndA | (rw [e3]; done) | (refine Eq.trans ?_ e3.symm; simp [setAt]; done))))
    · have hh : hit2 p V i a = true := by rw [hit2, hk, hf]; rfl
      have e1 := cntTo_hit (h := hit2 p V) ha' hh
      have e3 := putTo_hit (f := fun a => acceptA a p.Ballot V) ha' hh
      generalize acceptA a p.Ballot V = pa at *
      refine Sat.call H rfl ledA ?_
      conv => arg 4; cbv
      repeat' first
        | (refine Sat.cmp (fun h => ?_) (fun h => ?_) <;> simp only [Cmp.holds] at h <;> (conv => arg 4; cbv))
        | (refine Sat.need ndA ?_; conv => arg 4; cbv)
        | (refine Sat.idxk (by assumption) ?_; conv => arg 4; cbv) | (refine Sat.idx ndA (fun v_ hv_ => ?_); conv => arg 4; cbv)
        | (refine Sat.typed pa tcA ?_; conv => arg 4; cbv)
        | (refine Sat.ari64 ndA ndA ?_; conv => arg 4; cbv)
        | (refine Sat.pop ?_; conv => arg 4; cbv)
        | refine Sat.next (i + 1) ?_ (by exact arA) (by exact arA)
      refine les_of ?_ ?_ rfl
      iterate 2 (focus repeat' (first | exact trivial | refine And.intro ?_ ?_ | exact levA | refine lev_cons ?_ ?_ | refine LeV.agg rfl ?_ | exact Nat.le_of_ble_eq_true rfl | exact Or.inl ⟨_, rfl, .row rfl⟩ | refine Or.inl ⟨_, rfl, .row ?_⟩ | refine Or.inl ⟨_, rfl, .lit rfl ?_⟩ | exact Or.inr ⟨rfl, rfl⟩ | (first | exact .int ndA | (rw [e3]; done) | (refine Eq.trans ?_ e3.symm; simp [setAt]; done))))
  · have hf : decide ((i : Int) ∈ p.Second) = false := by assumption
    obtain ⟨a, ha'⟩ : ∃ a, x1[i]? = some a := ⟨_, List.getElem?_eq_getElem (by exact arA)⟩
    have hh : hit2 p V i a = false := by rw [hit2, hf, Bool.and_false]
    have e1 := cntTo_miss (h := hit2 p V) ha' hh
    have e3 := putTo_miss (f := fun a => acceptA a p.Ballot V) ha' hh
    refine Sat.next (i + 1) ?_ (by exact arA) (by exact arA)
    refine les_of ?_ ?_ rfl
    iterate 2 (focus repeat' (first | exact trivial | refine And.intro ?_ ?_ | exact levA | refine lev_cons ?_ ?_ | refine LeV.agg rfl ?_ | exact Nat.le_of_ble_eq_true rfl | exact Or.inl ⟨_, rfl, .row rfl⟩ | refine Or.inl ⟨_, rfl, .row ?_⟩ | refine Or.inl ⟨_, rfl, .lit rfl ?_⟩ | exact Or.inr ⟨rfl, rfl⟩ | (first | exact .int ndA | (rw [e3]; done) | (refine Eq.trans ?_ e3.symm; simp [setAt]; done))))
  · have ei : i = 3 := by exact arA
    subst ei
    have hr2 : run2Ok x1 p V = false := by rw [run2Ok]; simp; exact arA
    rw [hr2, if_neg (by simp)]
    exact Sat.done (.tup rfl (led_cons (.sl (by simp [run2, hpl, hl1, hl3])) (led_cons ledA (led_cons (.same _) led_nil))))
  · have ei : i = 3 := by exact arA
    subst ei
    have hr2 : run2Ok x1 p V = true := by rw [run2Ok]; simp; exact arA
    rw [hr2, if_pos rfl]
    exact Sat.done (.tup rfl (led_cons (.sl (by simp [run2, hpl, hl1, hl3])) (led_cons ledA (led_cons (.same _) led_nil))))

def runsTo (l : List GProposal) : Nat → List GAcceptor × List Bool
  | 0 => (newAcc, [])
  | k + 1 => match l[k]? with | some p => (runA (runsTo l k).1 p, (runsTo l k).2 ++ [runOk (runsTo l k).1 p]) | none => runsTo l k
theorem runsTo_step {l : List GProposal} {k : Nat} {p : GProposal} (h : l[k]? = some p) : runsTo l (k + 1) = (runA (runsTo l k).1 p, (runsTo l k).2 ++ [runOk (runsTo l k).1 p]) := by
  rw [runsTo, h]
theorem runsTo_b {l : List GProposal} (hb : bProposalS l) : ∀ {k : Nat}, bAcceptorS (runsTo l k).1
  | 0 => newAcc_b
  | k + 1 => by
    have h := runsTo_b hb (k := k)
    rw [runsTo]
    split
    · rename_i p hp
      exact runA_b h (hb.2 p (List.mem_of_getElem? hp)).2.2
    · exact h
theorem runsTo_len {l : List GProposal} : ∀ {k : Nat}, (runsTo l k).1.length = 3 ∧ (runsTo l k).2.length ≤ k
  | 0 => ⟨rfl, Nat.le_refl _⟩
  | k + 1 => by
    have h := runsTo_len (l := l) (k := k)
    rw [runsTo]
    split
    · exact ⟨by rw [run_len]; exact h.1, by simp; exact h.2⟩
    · exact ⟨h.1, by omega⟩
def runsN (l : List GProposal) : Nat := min l.length 20
def runsA (l : List GProposal) : List GAcceptor := (runsTo l (runsN l)).1
def runsOk (l : List GProposal) : List Bool := (runsTo l (runsN l)).2
theorem runsA_b {l : List GProposal} (hb : bProposalS l) : bAcceptorS (runsA l) := runsTo_b hb
theorem runsOk_b {l : List GProposal} : bBoolS (runsOk l) := by
  have h := (runsTo_len (l := l) (k := runsN l)).2
  have : runsN l ≤ 20 := Nat.min_le_right ..
  unfold bBoolS runsOk
  omega
theorem runs_nG {l : List GProposal} (hb : bProposalS l) : 0 ≤ nG n1Acceptor (runsA l) ∧ nG n1Acceptor (runsA l) ≤ 200000000000000 := by
  refine ⟨nG_pos (fun x => by unfold n1Acceptor; omega), ?_⟩
  have h := nG_bound (n1 := n1Acceptor) (C := 60000000000000) (l := runsA l) (fun x hx => by
    have h2 := (runsA_b hb).2 x hx
    obtain ⟨h3, h4⟩ := h2
    unfold bIntS at h3 h4
    unfold n1Acceptor
    omega)
  have h3 : (runsA l).length = 3 := runsTo_len.1
  rw [h3] at h
  omega

def mkBool (k : Int) : Bool := decide (Int.tmod k 3 = 0)

def mkBoolS (k : Int) (n : Nat) : List Bool := genL (fun i => mkBool (k + 1 * i)) n
@[simp] theorem mkBoolS_length {k : Int} {n : Nat} : (mkBoolS k n).length = n := genL_length

theorem w_laws_markBoolS (x : List Bool) (k : Int) (hb : bBoolS x) (hk : 0 ≤ k ∧ k ≤ 1152921504606846976) : FnM Pr n_laws_markBoolS [.ptr 0 0, .int .i64 (fun _ => k)] [.sl 1 encB (fun _ => x)] (.agg [.int .i64 (fun _ => k + 1 * (x.length : Int))]) [.sl 1 encB (fun _ => mkBoolS k x.length)] := by
  refine k_laws_markBoolS.fnm (by kernel_rfl) ⟨.mk (by simp [mkBoolS]), trivial⟩ ?_
  have h0 : x.length * 1 ≤ 140737488351232 := hb
  conv => arg 4; cbv
  refine Sat.loopP (ι := Nat) (fun i => [(5, .int .i64 (fun _ => (i : Int))), (1, .int .i64 (fun _ => k + 1 * (i : Int)))]) (fun i => [(0, .row 1 encB (fun _ => mkBoolS k i ++ x.drop i) true)]) (fun i => i ≤ x.length) (fun i => x.length - i) 0 ?_ (by omega) (fun i hi => ?_)
  · refine les_of ?_ ?_ rfl
    iterate 2 (focus repeat' (first | exact trivial | refine And.intro ?_ ?_ | exact levA | refine lev_cons ?_ ?_ | refine LeV.agg rfl ?_ | exact Nat.le_of_ble_eq_true rfl | exact Or.inl ⟨_, rfl, .row rfl⟩ | refine Or.inl ⟨_, rfl, .row ?_⟩ | refine Or.inl ⟨_, rfl, .lit rfl ?_⟩ | exact Or.inr ⟨rfl, rfl⟩ | (first | exact .int (by (try dsimp only); exact arA) | (simp [mkBoolS, genL]; done))))
  have hl0 : (mkBoolS k i ++ x.drop i).length = x.length := by simp [mkBoolS]; omega
  conv => arg 4; cbv
  repeat' first
    | (refine Sat.cmp (fun h => ?_) (fun h => ?_) <;> simp only [Cmp.holds] at h <;> (conv => arg 4; cbv))
    | (refine Sat.need ndA ?_; conv => arg 4; cbv)
    | (refine Sat.idxk (set_self (by (try dsimp only); (try simp only [setAt, List.length_set]); first | omega | (simp only [ncast] at *; omega))) ?_; conv => arg 4; cbv)
    | (refine Sat.idxk (by assumption) ?_; conv => arg 4; cbv) | (refine Sat.idx ndA (fun v_ hv_ => ?_); conv => arg 4; cbv)
    | (refine Sat.ari64 ndA ndA ?_; conv => arg 4; cbv)
    | (refine Sat.pop ?_; conv => arg 4; cbv)
    | refine Sat.done ?_
  · have e : mkBool (k + 1 * (i : Int)) = true := by unfold mkBool; exact decide_eq_true (by assumption)
    have eg := gen_set (f := fun i => mkBool (k + 1 * (i : Int))) (l := x) (i := i) (by exact arA)
    rw [e] at eg
    refine Sat.typedG true (by (repeat' (first | exact tnil | refine tcons ?_ ?_ | exact .same _)); (first | done | fail)) (fun v_ hz_ => ?_)
    conv => arg 4; cbv
    repeat' first
      | (refine Sat.ari64 ndA ndA ?_; conv => arg 4; cbv)
      | refine Sat.next (i + 1) ?_ (by (try dsimp only); exact arA) (by exact arA)
    subst_vars
    refine les_of ?_ ?_ rfl
    iterate 2 (focus repeat' (first | exact trivial | refine And.intro ?_ ?_ | exact levA | refine lev_cons ?_ ?_ | refine LeV.agg rfl ?_ | exact Nat.le_of_ble_eq_true rfl | exact Or.inl ⟨_, rfl, .row rfl⟩ | refine Or.inl ⟨_, rfl, .row ?_⟩ | refine Or.inl ⟨_, rfl, .lit rfl ?_⟩ | exact Or.inr ⟨rfl, rfl⟩ | (first | exact .int (by (try dsimp only); exact arA) | (simp only [Int.toNat_natCast, Nat.zero_add, set_set]; exact eg))))
  · have e : mkBool (k + 1 * (i : Int)) = false := by unfold mkBool; exact decide_eq_false (by assumption)
    have eg := gen_set (f := fun i => mkBool (k + 1 * (i : Int))) (l := x) (i := i) (by exact arA)
    rw [e] at eg
    refine Sat.typedG false (by (repeat' (first | exact tnil | refine tcons ?_ ?_ | exact .same _)); (first | done | fail)) (fun v_ hz_ => ?_)
    conv => arg 4; cbv
    repeat' first
      | (refine Sat.ari64 ndA ndA ?_; conv => arg 4; cbv)
      | refine Sat.next (i + 1) ?_ (by (try dsimp only); exact arA) (by exact arA)
    subst_vars
    refine les_of ?_ ?_ rfl
    iterate 2 (focus repeat' (first | exact trivial | refine And.intro ?_ ?_ | exact levA | refine lev_cons ?_ ?_ | refine LeV.agg rfl ?_ | exact Nat.le_of_ble_eq_true rfl | exact Or.inl ⟨_, rfl, .row rfl⟩ | refine Or.inl ⟨_, rfl, .row ?_⟩ | refine Or.inl ⟨_, rfl, .lit rfl ?_⟩ | exact Or.inr ⟨rfl, rfl⟩ | (first | exact .int (by (try dsimp only); exact arA) | (simp only [Int.toNat_natCast, Nat.zero_add, set_set]; exact eg))))
  · refine .tup rfl (led_cons ?_ (led_cons ?_ led_nil))
    · refine .agg rfl (led_cons (.int ?_) led_nil)
      exact arA
    · refine .sl ?_
      have e : i = x.length := by exact arA
      subst e
      simp

end Go.V.T
