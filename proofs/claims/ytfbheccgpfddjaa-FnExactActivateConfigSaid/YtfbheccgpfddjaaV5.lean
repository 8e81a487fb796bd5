/- A theory of its own: Go code in short, evaluated, with proof that the machine does what the evaluation tells. Conditions: those that each theorem states. Part 5. -/
import Derived.Test.YtfbheccgpfddjaaV4
import Derived.Carry
import Derived.ChangeArms
import Derived.ChangeMaps5
import Derived.ChangeOld
import Derived.ChangeSame
import Derived.ChangeShapes
import Derived.ChangeSlices
import Derived.IntWalk
import Derived.KernelRfl
import Derived.OpenShut
import Derived.SizedLaws
import Derived.WideShapes
set_option linter.unusedVariables false
set_option linter.unusedSimpArgs false
namespace Go.V
open Go Go.RowKit

/-! ### A function that writes into slices that are lent to it -/

/-- Where a slice that is lent lies. -/
inductive PlaceR (w : World) {α : Type} (sz : Nat) (enc : α → Nat → AV) (xs : List α) : Value → List Nat → Option (Nat × Nat) → List Nat → Prop
  | none (A : Option Addr) (fp : List Nat) (hx : xs = []) (hd : ∀ w' : World, (∀ g ∈ fp, SameShape w w' g) → Deep w' (.sl sz enc (fun _ => [])) (.slice A 0 0) fp) : PlaceR w sz enc xs (.slice A 0 0) fp none []
  | some (g off cap : Nat) (cs : Array Value) (t : TypeId) (F : Nat → Nat → List Nat) (hc : 0 < cap) (hn : xs.length ≤ cap) (hg : w.heap[g]? = some (.cells cs t (0, 0))) (hr : off + cap * sz ≤ cs.size)
      (hd : ∀ i x, xs[i]? = some x → ∀ j, j < sz → ∃ u, cs[off + i * sz + j]? = some u ∧ Deep w (enc x j) u (F i j)) :
      PlaceR w sz enc xs (.slice (some ⟨g, off, none⟩) xs.length cap) (g :: (List.range xs.length).flatMap fun i => (List.range sz).flatMap (F i)) (some (g, off)) ((List.range xs.length).flatMap fun i => (List.range sz).flatMap (F i))

theorem place_of {w : World} {α : Type} {sz : Nat} {enc : α → Nat → AV} {xs : Unit → List α} {v : Value} {fp : List Nat} (h : Deep w (.sl sz enc xs) v fp) (hf : ∀ g ∈ fp, Fresh w g) : ∃ p fi, PlaceR w sz enc (xs ()) v fp p fi := by
  cases h with
  | sl0 A he => exact ⟨_, _, .none A [] he (fun w' _ => .sl0 A rfl)⟩
  | @sl _ _ _ _ g off cap cs t fr u F hn hg hr hu hd =>
    obtain ⟨cs', t', hg'⟩ := hf g (List.mem_cons_self ..)
    rw [hg] at hg'
    cases hg'
    by_cases hc : cap = 0
    · have hx : xs () = [] := List.eq_nil_of_length_eq_zero (by omega)
      have e : (xs ()).length = 0 := by rw [hx]; rfl
      rw [e]
      subst hc
      refine ⟨_, _, .none _ _ hx (fun w' hfr => ?_)⟩
      obtain ⟨cs1, t2, cs2, hg1, hg2, hs⟩ := hfr g (List.mem_cons_self ..)
      rw [hg] at hg1
      cases hg1
      exact Deep.sl (w := w') (sz := sz) (enc := enc) (xs := fun _ => ([] : List α)) (g := g) (off := off) (cap := 0) (cs := cs2) (t := t) (fr := (0, 0)) (fun _ _ => Go.undef) F (Nat.le_refl _) hg2 (by omega) (fun i x hx => by simp at hx) (fun i x hx => by simp at hx)
    · exact ⟨_, _, .some g off cap cs t F (by omega) hn hg hr (fun i x hx j hj => ⟨u i j, hu i x hx j hj, hd i x hx j hj⟩)⟩

theorem PlaceR.own {w : World} {α : Type} {sz : Nat} {enc : α → Nat → AV} {xs : List α} {v : Value} {fp fi : List Nat} {p : Option (Nat × Nat)} (h : PlaceR w sz enc xs v fp p fi) : ∀ g ∈ ownOf p fi, g ∈ fp := by
  cases h with
  | none => intro g hg; cases hg
  | some => exact fun g hg => hg
theorem PlaceR.nodup {w : World} {α : Type} {sz : Nat} {enc : α → Nat → AV} {xs : List α} {v : Value} {fp fi : List Nat} {p : Option (Nat × Nat)} (h : PlaceR w sz enc xs v fp p fi) (hn : fp.Nodup) : (ownOf p fi).Nodup := by
  cases h with
  | none => exact List.nodup_nil
  | some => exact hn
theorem PlaceR.rep {E : Env} {b : Nat} {α : Type} {sz : Nat} {enc : α → Nat → AV} {xs : Unit → List α} {v : Value} {fp fi : List Nat} {p : Option (Nat × Nat)} (h : PlaceR E.w sz enc (xs ()) v fp p fi) (ha : E.at_ b = p) : BlkRep E b (.row sz enc xs true) fi := by
  cases h with
  | none A fp hx hd => exact .row0 ha hx
  | some g off cap cs t F hc hn hg hr hd => exact .row F ha hg (by have := Nat.mul_le_mul_right sz hn; omega) hd
theorem PlaceR.loc {E : Env} {b : Nat} {α : Type} {sz : Nat} {enc : α → Nat → AV} {xs : Unit → List α} {v : Value} {fp fi : List Nat} {p : Option (Nat × Nat)} (h : PlaceR E.w sz enc (xs ()) v fp p fi) (ha : E.at_ b = p) (hb : E.st b = Option.some (.row sz enc xs true)) : Loc E (.ref b (fun _ => 0) (fun _ => (xs ()).length)) v := by
  refine .ref hb ?_
  generalize hxs : xs () = l at h ⊢
  cases h with
  | none A fp hx hd =>
    rw [hx]
    exact .ofNone ha (by simp)
  | some g off cap cs t F hc hn hg hr hd => exact .ofSome ha (by simp) hn hg (.inr ⟨by simp, by simpa using hr⟩)
/-- Behind the call. -/
theorem PlaceR.back {w : World} {E : Env} {b : Nat} {α β : Type} {sz : Nat} {enc : α → Nat → AV} {enc' : β → Nat → AV} {xs : List α} {ys : Unit → List β} {v : Value} {fp fi : List Nat} {p : Option (Nat × Nat)} (h : PlaceR w sz enc xs v fp p fi)
    (hs : ∀ g ∈ fp, SameShape w E.w g) (ha : E.at_ b = p) (hr : BlkRep E b (.row sz enc' ys true) fi) (hl : (ys ()).length = xs.length) : Deep E.w (.sl sz enc' ys) v fp := by
  cases h with
  | none A fp hx hd =>
    have hy : ys () = [] := List.eq_nil_of_length_eq_zero (by rw [hl, hx]; rfl)
    have d := hd E.w hs
    generalize hv : Value.slice A 0 0 = v at d ⊢
    cases d with
    | sl0 A' _ => exact .sl0 A' hy
    | @sl _ _ _ _ g off cap cs t fr u F hn hg hr hu hd =>
      have e : ([] : List α).length = (ys ()).length := by rw [hy]; rfl
      have d2 := Deep.sl (w := E.w) (sz := sz) (enc := enc') (xs := ys) (g := g) (off := off) (cap := cap) (cs := cs) (t := t) (fr := fr) u F (by rw [hy]; exact Nat.zero_le _) hg hr (fun i x hx => by rw [hy] at hx; simp at hx) (fun i x hx => by rw [hy] at hx; simp at hx)
      rw [← e] at d2
      exact d2
  | some g off cap cs t F hc hn hg hrr hd =>
    generalize hfi : ((List.range xs.length).flatMap fun i => (List.range sz).flatMap (F i)) = fi at hr ⊢
    cases hr with
    | row0 ha' _ => rw [ha] at ha'; cases ha'
    | @row _ _ _ _ _ g' base' cells ty F' ha' hg' hr' hc' =>
      rw [ha] at ha'
      cases ha'
      obtain ⟨cs1, t1, cs2, s1, s2, s3⟩ := hs g (List.mem_cons_self ..)
      rw [hg] at s1
      cases s1
      rw [hg'] at s2
      cases s2
      have d := Deep.sl (w := E.w) (sz := sz) (enc := enc') (xs := ys) (g := g) (off := off) (cap := cap) (cs := cells) (t := t) (fr := (0, 0)) (fun i j => cells.getD (off + i * sz + j) Go.undef) F' (by omega) hg' (by omega)
        (fun i x hx j hj => by
          obtain ⟨u, hu, _⟩ := hc' i x hx j hj
          rw [Array.getD_eq_getD_getElem?, hu]
          rfl)
        (fun i x hx j hj => by
          obtain ⟨u, hu, hdd⟩ := hc' i x hx j hj
          rw [Array.getD_eq_getD_getElem?, hu]
          exact hdd)
      rw [hl] at d
      rw [hl]
      exact d

theorem look_rowsOfB : ∀ {bs : List AV} {k i : Nat}, (∀ B ∈ bs, ∃ (α : Type) (sz : Nat) (enc : α → Nat → AV) (xs : Unit → List α), B = .sl sz enc xs) → k ≤ i → ∀ blk, look i (rowsOfB bs k) = some blk → ∃ (α : Type) (sz : Nat) (enc : α → Nat → AV) (xs : Unit → List α), bs[i - k]? = some (.sl sz enc xs) ∧ blk = .row sz enc xs true
  | [], k, i, _, _, blk, h => by cases h
  | B :: r, k, i, hb, hk, blk, h => by
    obtain ⟨α, sz, enc, xs, rfl⟩ := hb B (List.mem_cons_self ..)
    rw [rowsOfB, look] at h
    cases e : Nat.beq k i with
    | true =>
      have := Nat.eq_of_beq_eq_true e
      subst this
      rw [e, cond_true] at h
      cases h
      exact ⟨α, sz, enc, xs, by simp, rfl⟩
    | false =>
      rw [e, cond_false] at h
      have hne : k ≠ i := fun h => by subst h; rw [Nat.beq_refl] at e; cases e
      obtain ⟨α, sz, enc, xs, h1, h2⟩ := look_rowsOfB (bs := r) (k := k + 1) (fun B hB => hb B (List.mem_cons_of_mem _ hB)) (by omega) blk h
      refine ⟨α, sz, enc, xs, ?_, h2⟩
      rw [show i - k = (i - (k + 1)) + 1 by omega]
      simpa using h1
theorem look_rowsOfB' : ∀ {bs : List AV} {k i : Nat}, (∀ B ∈ bs, ∃ (α : Type) (sz : Nat) (enc : α → Nat → AV) (xs : Unit → List α), B = .sl sz enc xs) → ∀ {α : Type} {sz : Nat} {enc : α → Nat → AV} {xs : Unit → List α}, bs[i]? = some (.sl sz enc xs) → look (k + i) (rowsOfB bs k) = some (.row sz enc xs true)
  | [], k, i, _, α, sz, enc, xs, h => by simp at h
  | B :: r, k, i, hb, α, sz, enc, xs, h => by
    obtain ⟨α', sz', enc', xs', rfl⟩ := hb B (List.mem_cons_self ..)
    rw [rowsOfB, look]
    cases i with
    | zero =>
      simp at h
      obtain ⟨rfl, rfl, h1, h2⟩ := h
      cases h1
      cases h2
      rw [Nat.add_zero, Nat.beq_refl]
      rfl
    | succ i =>
      have : Nat.beq k (k + (i + 1)) = false := by
        cases e : Nat.beq k (k + (i + 1)) with
        | false => rfl
        | true => have := Nat.eq_of_beq_eq_true e; omega
      rw [this, cond_false, show k + (i + 1) = (k + 1) + i by omega]
      exact look_rowsOfB' (bs := r) (fun B hB => hb B (List.mem_cons_of_mem _ hB)) (by simpa using h)

theorem led_tup_inv {l l' : List AV} (h : LeD (.tup l) (.tup l')) : l'.length = l.length ∧ ∀ (i : Nat) (x y : AV), l[i]? = some x → l'[i]? = some y → LeD x y := by
  cases h with
  | same => exact ⟨rfl, fun i x y hx hy => by rw [hx] at hy; cases hy; exact .same _⟩
  | tup hl h => exact ⟨hl, h⟩

theorem outsOf_at {st : List (Nat × Blk)} : ∀ {k i : Nat} {l : List AV}, outsOf st k i = some l → l.length = k ∧ ∀ j x, l[j]? = some x → ∃ (α : Type) (sz : Nat) (enc : α → Nat → AV) (ys : Unit → List α), x = .sl sz enc ys ∧ look (i + j) st = some (.row sz enc ys true)
  | 0, i, l, h => by
    simp only [outsOf, Option.some.injEq] at h
    subst h
    exact ⟨rfl, fun j x hx => by simp at hx⟩
  | k + 1, i, l, h => by
    rw [outsOf] at h
    split at h
    · rename_i α sz enc ys hb
      split at h
      · rename_i l' hl
        cases h
        obtain ⟨h1, h2⟩ := outsOf_at hl
        refine ⟨by simp [h1], fun j x hx => ?_⟩
        cases j with
        | zero => simp at hx; subst hx; exact ⟨α, sz, enc, ys, rfl, hb⟩
        | succ j =>
          obtain ⟨α', sz', enc', ys', h3, h4⟩ := h2 j x (by simpa using hx)
          exact ⟨α', sz', enc', ys', h3, by rw [show i + (j + 1) = i + 1 + j by omega]; exact h4⟩
      · cases h
    · cases h

/-- The contract, off the code. -/
theorem fn_of_m {P : Program} {mu : Nat → Bool} {f : Nat} {fn : Func} {c : Code} {H : Hints} {m : MCode} {rs : List RV} {args bs outs : List AV} {ret : AV} (hm : P.follows .mixedOrders = true) (hf : P.funcs[f]? = some fn) (hn : fn.name ≠ "runtime.NumGoroutine") (hb : fn.body = some c)
    (hc : compC P mu fn.ntmps H c = some m) (hrs : fn.results.toList.mapM (compR P) = some rs) (hl : args.length ≤ fn.ntmps) (hbs : ∀ B ∈ bs, ∃ (α : Type) (sz : Nat) (enc : α → Nat → AV) (xs : Unit → List α), B = .sl sz enc xs)
    (hsame : outs.length = bs.length ∧ ∀ (i : Nat) (B B' : AV), bs[i]? = some B → outs[i]? = some B' → SameRow B B') (h : Sat P (fun q => LeD q (.tup (ret :: outs))) [] (runM m rs args bs)) : FnM P f args bs ret outs := by
  refine ⟨⟨fn, hf, hn, by rw [hb]; rfl⟩, hsame, fun w vs sv fp hbk hap hsz hargs => ?_⟩
  refine calls_of_wp hf hb ?_
  have hpl : ∀ i, ∃ q : Option (Nat × Nat) × List Nat, ∀ (α : Type) (sz : Nat) (enc : α → Nat → AV) (xs : Unit → List α), bs[i]? = some (.sl sz enc xs) → PlaceR w sz enc (xs ()) (sv i) (fp i) q.1 q.2 := by
    intro i
    cases e : bs[i]? with
    | none => exact ⟨(none, []), fun α sz enc xs h => by cases h⟩
    | some B =>
      obtain ⟨α, sz, enc, xs, rfl⟩ := hbs B (List.mem_of_getElem? e)
      obtain ⟨hd, _, hfr⟩ := hbk i _ e
      obtain ⟨p, fi, hp⟩ := place_of hd hfr
      refine ⟨(p, fi), fun α' sz' enc' xs' h => ?_⟩
      cases h
      exact hp
  obtain ⟨q, hq⟩ := Classical.axiomOfChoice hpl
  let B : Base := ⟨w, fun g => ∃ i, i < bs.length ∧ g ∈ ownOf (q i).1 (q i).2, fun i => match bs[i]? with
    | some (.sl sz _ xs) => some ⟨(q i).1, (q i).2, sz, (xs ()).length⟩
    | _ => none⟩
  let at0 : Nat → Option (Nat × Nat) := fun i => if i < bs.length then (q i).1 else none
  let FP0 : Nat → List Nat := fun i => if i < bs.length then (q i).2 else []
  have at_lt : ∀ i, i < bs.length → at0 i = (q i).1 := fun i hi => if_pos hi
  have fp_lt : ∀ i, i < bs.length → FP0 i = (q i).2 := fun i hi => if_pos hi
  have row0 : ∀ i blk, look i (rowsOfB bs 0) = some blk → ∃ (α : Type) (sz : Nat) (enc : α → Nat → AV) (xs : Unit → List α), bs[i]? = some (.sl sz enc xs) ∧ blk = .row sz enc xs true ∧ i < bs.length := fun i blk hi => by
    obtain ⟨α, sz, enc, xs, h1, h2⟩ := look_rowsOfB hbs (Nat.zero_le i) blk hi
    rw [Nat.sub_zero] at h1
    exact ⟨α, sz, enc, xs, h1, h2, lt_of_get h1⟩
  have own0 : ∀ i, i < bs.length → (⟨B, w, at0, fun b => look b (rowsOfB bs 0)⟩ : Env).own FP0 i = ownOf (q i).1 (q i).2 := fun i hi => by
    show ownOf (at0 i) (FP0 i) = _
    rw [at_lt i hi, fp_lt i hi]
  have own_sub : ∀ i, i < bs.length → ∀ g ∈ ownOf (q i).1 (q i).2, g ∈ fp i := fun i hi g hg => by
    obtain ⟨α, sz, enc, xs, he⟩ := hbs bs[i] (List.getElem_mem _)
    have hi' : bs[i]? = some (.sl sz enc xs) := by rw [List.getElem?_eq_getElem hi, he]
    exact (hq i α sz enc xs hi').own g hg
  have good : Good ⟨B, w, at0, fun b => look b (rowsOfB bs 0)⟩ FP0 := by
    refine ⟨Kept.refl w _ _ (fun g hg => ?_), fun b blk hb => ?_, fun b blk hb => ?_, fun b blk hb => ?_, fun b b' blk blk' hb hb' hne => ?_, fun b blk hb => ?_, fun b p hp => ?_, fun b β sz' enc' xs' hb => ?_⟩
    · obtain ⟨i, hi, hg⟩ := hg
      exact (hbk i _ (List.getElem?_eq_getElem hi)).2.2 g (own_sub i hi g hg)
    · obtain ⟨α, sz, enc, xs, h1, rfl, h3⟩ := row0 b blk hb
      rw [fp_lt b h3]
      exact (hq b α sz enc xs h1).rep (at_lt b h3)
    · obtain ⟨α, sz, enc, xs, h1, rfl, h3⟩ := row0 b blk hb
      rw [own0 b h3]
      exact (hq b α sz enc xs h1).nodup (hbk b _ h1).2.1
    · obtain ⟨α, sz, enc, xs, h1, rfl, h3⟩ := row0 b blk hb
      rw [own0 b h3]
      exact fun g hg => .inr ⟨b, h3, hg⟩
    · obtain ⟨α, sz, enc, xs, h1, rfl, h3⟩ := row0 b blk hb
      obtain ⟨α', sz', enc', xs', h1', rfl, h3'⟩ := row0 b' blk' hb'
      rw [own0 b h3, own0 b' h3']
      exact fun g hg hg' => hap b b' h3 h3' hne g ((hq b α sz enc xs h1).own g hg) ((hq b' α' sz' enc' xs' h1').own g hg')
    · obtain ⟨α, sz, enc, xs, h1, rfl, h3⟩ := row0 b blk hb
      rw [own0 b h3]
      exact fun g hg => (hbk b _ h1).2.2 g ((hq b α sz enc xs h1).own g hg)
    · have hp' : (match bs[b]? with
        | some (.sl sz _ xs) => some (⟨(q b).1, (q b).2, sz, (xs ()).length⟩ : Pin)
        | _ => none) = some p := hp
      split at hp'
      · rename_i α sz enc xs hbb
        cases hp'
        have hlt := lt_of_get hbb
        exact ⟨at_lt b hlt, fp_lt b hlt, fun _ g _ _ => Heads.refl w g, α, enc, xs, by have := look_rowsOfB' (k := 0) hbs hbb; rw [Nat.zero_add] at this; exact this, rfl⟩
      · cases hp'
    · obtain ⟨α, sz, enc, xs, h1, h2, h3⟩ := row0 b _ hb
      refine ⟨⟨(q b).1, (q b).2, sz, (xs ()).length⟩, ?_⟩
      show (match bs[b]? with
        | some (.sl sz _ xs) => some (⟨(q b).1, (q b).2, sz, (xs ()).length⟩ : Pin)
        | _ => none) = _
      rw [h1]
  have argLoc : ∀ d x v, ArgRep w sv bs.length (fun g => ∃ i, i < bs.length ∧ g ∈ fp i) x v → Loc ⟨B, w, at0, fun b => look b (rowsOfB bs 0)⟩ (unptr bs d x) v := by
    intro d
    induction d with
    | zero => exact fun x v _ => .any v
    | succ d ih =>
      intro x v hx
      cases hx with
      | deep hd ho =>
        cases x with
        | ptr => cases hd
        | agg cs =>
          cases hd with
          | agg F hl hdd =>
            refine .agg (by simpa using hl) (fun i y hy => ?_)
            rw [List.getElem?_map, Option.map_eq_some_iff] at hy
            obtain ⟨z, hz, rfl⟩ := hy
            exact ih z _ (.deep (hdd i z hz) (fun g hg => ho g (mem_flat (lt_of_get hz) hg)))
        | _ => exact deep_loc hd (fun g hg ⟨i, hi, hm⟩ => ho g hg ⟨i, hi, own_sub i hi g hm⟩)
      | lent i hi =>
        obtain ⟨α, sz, enc, xs, he⟩ := hbs bs[i] (List.getElem_mem _)
        have hi' : bs[i]? = some (.sl sz enc xs) := by rw [List.getElem?_eq_getElem hi, he]
        have hu : unptr bs (d + 1) (.ptr i 0) = .ref i (fun _ => 0) (fun _ => (xs ()).length) := by
          rw [unptr, hi']
        rw [hu]
        exact (hq i α sz enc xs hi').loc (at_lt i hi) (by have := look_rowsOfB' (k := 0) hbs hi'; rw [Nat.zero_add] at this; exact this)
      | agg hl hd =>
        refine .agg (by simpa using hl) (fun i y hy => ?_)
        rw [List.getElem?_map, Option.map_eq_some_iff] at hy
        obtain ⟨z, hz, rfl⟩ := hy
        exact ih z _ (hd i z hz)
  have h0 : RelS B fn.ntmps (startM args bs).tm (startM args bs).st (startM args bs).nx { tmps := vs ++ Array.replicate (fn.ntmps - vs.size) undef, defers := [] } w := by
    refine ⟨⟨at0, FP0, good, rfl, (by simp; omega), fun t => ?_⟩, fun b k hb => ?_⟩
    · show Loc _ (slot t (number 0 (args.map (unptr bs 3)))) _
      rw [slot_number]
      split
      · rename_i ht
        have ht' : t < args.length := by have := ht.2; rw [List.length_map] at this; omega
        have hx : (args.map (unptr bs 3)).getD (t - 0) .any = unptr bs 3 args[t] := by
          rw [Nat.sub_zero, List.getD_eq_getElem?_getD, List.getElem?_map, List.getElem?_eq_getElem ht']
          rfl
        rw [hx]
        have hv : (vs ++ Array.replicate (fn.ntmps - vs.size) undef).getD t undef = vs.getD t undef := by
          rw [Array.getD_eq_getD_getElem?, Array.getElem?_append_left (by omega), ← Array.getD_eq_getD_getElem?]
        rw [hv]
        exact argLoc 3 _ _ (hargs t _ (List.getElem?_eq_getElem ht'))
      · exact .any _
    · obtain ⟨_, _, _, _, _, _, h3⟩ := row0 b k hb
      exact h3
  have fin : ∀ (s' : St) (a' : Act) (w' : World), Sat P (fun q => LeD q (.tup (ret :: outs))) [] (endM rs bs.length s') → RelS B fn.ntmps s'.tm s'.st s'.nx a' w' →
      a'.defers = [] ∧ ∃ v, (results fn a'.tmps).run P w' = .ok v w' ∧ ∃ v_1, Ending.returned v = .returned v_1 ∧ (∀ (i : Nat) (B : AV), outs[i]? = some B → Deep w' B (sv i) (fp i)) ∧ RetRep w w' sv bs ret v_1 ∧ Kept ⟨w, fun g => ∃ i, i < bs.length ∧ g ∈ fp i, fun _ => none⟩ w' ∧ ∀ (i g o n cap : Nat), i < bs.length → sv i = .slice (some ⟨g, o, none⟩) n cap → 0 < n → Heads w w' g := by
    intro s' a' w' hs hr
    obtain ⟨⟨at_, FP, hh⟩, _⟩ := hr
    have hk := hh.good.below
    have shape : ∀ i, i < bs.length → ∀ g ∈ fp i, SameShape w w' g := fun i hi g hg => by
      by_cases hm : B.mine g
      · exact hk.shape g hm
      · obtain ⟨cs, t, hcs⟩ := (hbk i _ (List.getElem?_eq_getElem hi)).2.2 g hg
        exact ⟨cs, t, cs, hcs, (hk.block g (heap_lt hcs) hm).trans hcs, rfl⟩
    have kept : Kept ⟨w, fun g => ∃ i, i < bs.length ∧ g ∈ fp i, fun _ => none⟩ w' := ⟨hk.os, hk.tape, hk.output, hk.size, fun k h1 h2 => hk.block k h1 (fun ⟨i, hi, hm⟩ => h2 ⟨i, hi, own_sub i hi k hm⟩), fun g ⟨i, hi, hg⟩ => shape i hi g hg⟩
    have pinAt : ∀ i (α : Type) (sz : Nat) (enc : α → Nat → AV) (xs : Unit → List α), bs[i]? = some (.sl sz enc xs) → at_ i = (q i).1 ∧ FP i = (q i).2 ∧ ∃ (β : Type) (enc' : β → Nat → AV) (ys : Unit → List β), look i s'.st = some (.row sz enc' ys true) ∧ (ys ()).length = (xs ()).length := fun i α sz enc xs hi => by
      have hp : B.pin i = some ⟨(q i).1, (q i).2, sz, (xs ()).length⟩ := by
        show (match bs[i]? with
          | some (.sl sz _ xs) => some (⟨(q i).1, (q i).2, sz, (xs ()).length⟩ : Pin)
          | _ => none) = _
        rw [hi]
      obtain ⟨p1, p2, _, p3⟩ := hh.good.pins i _ hp
      exact ⟨p1, p2, p3⟩
    have heads : ∀ (i g o n cap : Nat), i < bs.length → sv i = .slice (some ⟨g, o, none⟩) n cap → 0 < n → Heads w w' g := fun i g o n cap hi hsi hn => by
      obtain ⟨α, sz, enc, xs, he⟩ := hbs bs[i] (List.getElem_mem _)
      have hi' : bs[i]? = some (.sl sz enc xs) := by rw [List.getElem?_eq_getElem hi, he]
      have hp : B.pin i = some ⟨(q i).1, (q i).2, sz, (xs ()).length⟩ := by
        show (match bs[i]? with
          | some (.sl sz _ xs) => some (⟨(q i).1, (q i).2, sz, (xs ()).length⟩ : Pin)
          | _ => none) = _
        rw [hi']
      obtain ⟨_, _, ph, _⟩ := hh.good.pins i _ hp
      have pr := hq i α sz enc xs hi'
      dsimp only at ph
      rw [hsi] at pr
      generalize (q i).1 = qa at pr ph
      generalize (q i).2 = qb at pr
      generalize fp i = fpi at pr
      generalize xs () = xl at pr ph
      cases pr with
      | none => omega
      | some => exact ph hn g _ rfl
    -- what the lent slices hold
    have backs : ∀ outs', outsOf s'.st bs.length 0 = some outs' → ∀ i x, outs'[i]? = some x → Deep w' x (sv i) (fp i) := fun outs' ho i x hx => by
      obtain ⟨h1, h2⟩ := outsOf_at ho
      obtain ⟨β, sz, enc', ys, rfl, hlk⟩ := h2 i x hx
      rw [Nat.zero_add] at hlk
      have hi : i < bs.length := by have := lt_of_get hx; omega
      obtain ⟨α, sz0, enc, xs, he⟩ := hbs bs[i] (List.getElem_mem _)
      have hi' : bs[i]? = some (.sl sz0 enc xs) := by rw [List.getElem?_eq_getElem hi, he]
      obtain ⟨p1, p2, β', enc2, ys2, p3, p4⟩ := pinAt i α sz0 enc xs hi'
      rw [hlk] at p3
      cases p3
      have r := hh.good.rep i _ hlk
      rw [p2] at r
      exact (hq i α sz enc xs hi').back (shape i hi) p1 r p4
    have fromOuts : ∀ outs', outsOf s'.st bs.length 0 = some outs' → (∀ (i : Nat) (x y : AV), outs'[i]? = some x → outs[i]? = some y → LeD x y) → ∀ (i : Nat) (B : AV), outs[i]? = some B → Deep w' B (sv i) (fp i) := fun outs' ho hle i Y hY => by
      obtain ⟨h1, _⟩ := outsOf_at ho
      have : i < outs'.length := by have := lt_of_get hY; rw [h1, ← hsame.1]; exact this
      exact (hle i _ Y (List.getElem?_eq_getElem this) hY).deep (backs outs' ho i _ (List.getElem?_eq_getElem this))
    have key : ∀ (x y : AV) (st' outs' : _) (v : Value), exp 3 s'.st x = some (y, st') → outsOf s'.st bs.length 0 = some outs' → LeD (.tup (.agg [y] :: outs')) (.tup (ret :: outs)) → Loc ⟨B, w', at_, fun b => look b s'.st⟩ x v →
        ∃ v_1, Ending.returned v = .returned v_1 ∧ (∀ (i : Nat) (B : AV), outs[i]? = some B → Deep w' B (sv i) (fp i)) ∧ RetRep w w' sv bs ret v_1 ∧ Kept ⟨w, fun g => ∃ i, i < bs.length ∧ g ∈ fp i, fun _ => none⟩ w' ∧ ∀ (i g o n cap : Nat), i < bs.length → sv i = .slice (some ⟨g, o, none⟩) n cap → 0 < n → Heads w w' g := by
      intro x y st' outs' v hx ho hle hl
      obtain ⟨l1, l2⟩ := led_tup_inv hle
      obtain ⟨fpv, hd, hout⟩ := exp_ok 3 _ FP s'.st st' x y v hh.good (fun b k hb => hb) hx hl
      refine ⟨v, rfl, fromOuts outs' ho (fun i x y hx hy => l2 (i + 1) x y (by simpa using hx) (by simpa using hy)), ?_, kept, heads⟩
      have hle0 := l2 0 _ _ rfl rfl
      have fresh : ∀ g ∈ fpv, w.heap.size ≤ g ∧ ∃ cs t, w'.heap[g]? = some (.cells cs t (0, 0)) := fun g hg => by
        obtain ⟨b, b1, b2, b3⟩ := hout.from_ g hg
        cases e : look b s'.st with
        | none => exact absurd e b1
        | some k =>
          refine ⟨?_, hh.good.fresh b k e g b3⟩
          rcases hh.good.base b k e g b3 with h | ⟨i, hi, hgi⟩
          · exact h
          · exfalso
            obtain ⟨α, sz0, enc, xs, he⟩ := hbs bs[i] (List.getElem_mem _)
            have hi' : bs[i]? = some (.sl sz0 enc xs) := by rw [List.getElem?_eq_getElem hi, he]
            obtain ⟨p1, p2, β', enc2, ys2, p3, p4⟩ := pinAt i α sz0 enc xs hi'
            have hne : b ≠ i := fun e => by
              subst e
              have := exp_fx 3 _ _ _ _ hx b ⟨β', sz0, enc2, ys2, p3⟩
              rw [b2, p3] at this
              cases this
            refine hh.good.apart b i _ _ e p3 hne g b3 ?_
            show g ∈ ownOf (at_ i) (FP i)
            rw [p1, p2]
            exact hgi
      have d : ∀ x', LeD (.agg [y]) x' → RetRep w w' sv bs x' v := fun x' hx' => by
        cases hx' with
        | same => exact .val hd hout.nodup fresh
        | agg hl2 hh2 =>
          rename_i ds
          match ds, hl2, hh2 with
          | [z], _, hh2 => exact .val ((hh2 0 y z rfl rfl).deep hd) hout.nodup fresh
      exact d ret hle0
    unfold endM at hs
    split at hs
    · rename_i vs1 hvs
      split at hs
      · rename_i outs' ho
        obtain ⟨v, hrun, hloc⟩ := results_run hh hrs hvs
        generalize one vs1 = x at hs hloc
        split at hs
        · rename_i b off n
          cases hlt : Nat.blt b bs.length with
          | false => rw [hlt, cond_false] at hs; exact (no_bad hs).elim
          | true =>
            rw [hlt, cond_true] at hs
            rw [Nat.blt_eq] at hlt
            cases hs with
            | done hle =>
              obtain ⟨l1, l2⟩ := led_tup_inv hle
              refine ⟨hh.defers, v, hrun, v, rfl, fromOuts outs' ho (fun i x y hx hy => l2 (i + 1) x y (by simpa using hx) (by simpa using hy)), ?_, kept, heads⟩
              have hle0 := l2 0 _ _ rfl rfl
              obtain ⟨α, sz0, enc, xs, he⟩ := hbs bs[b] (List.getElem_mem _)
              have hi' : bs[b]? = some (.sl sz0 enc xs) := by rw [List.getElem?_eq_getElem hlt, he]
              obtain ⟨p1, p2, β', enc2, ys2, p3, p4⟩ := pinAt b α sz0 enc xs hi'
              have hview : ViewOf w' (sv b) sz0 (off ()) (n ()) v := by
                cases hloc with
                | refl hb2 _ => have hb2 : look b s'.st = _ := hb2; rw [p3] at hb2; cases hb2
                | ref hb2 hr2 =>
                  have hb2 : look b s'.st = _ := hb2
                  rw [p3] at hb2
                  cases hb2
                  obtain ⟨hle2, hr2⟩ := hr2
                  have pr := hq b α sz0 enc xs hi'
                  have hat : (⟨B, w', at_, fun b => look b s'.st⟩ : Env).at_ b = (q b).1 := p1
                  rw [hat] at hr2
                  rw [p4] at hle2
                  generalize (q b).1 = qa at pr hr2
                  generalize (q b).2 = qb at pr
                  generalize sv b = svb at pr
                  generalize fp b = fpb at pr
                  generalize xs () = xl at pr hle2
                  cases pr with
                  | none A fp hx hd =>
                    obtain ⟨A', rfl⟩ := hr2
                    rw [hx] at hle2
                    simp only [List.length_nil] at hle2
                    have h1 : n () = 0 := by omega
                    exact ⟨A, 0, 0, rfl, by omega, A', 0, by rw [h1], by omega, .inl rfl⟩
                  | some g0 off0 cap0 cs0 t0 F hc hn hg hr hd =>
                    obtain ⟨A', cap', cs', t', rfl, hcap, hg', hA⟩ := hr2
                    refine ⟨_, _, cap0, rfl, hle2, A', cap', rfl, hcap, ?_⟩
                    rcases hA with h0 | ⟨hA, hrr⟩
                    · exact .inl h0
                    · exact .inr ⟨hc, g0, off0, cs', t', rfl, hA, hg', hrr⟩
              have d : ∀ x', LeD (.clo b [.int .i64 (fun _ => (off () : Int)), .int .i64 (fun _ => (n () : Int))]) x' → RetRep w w' sv bs x' v := fun x' hx' => by
                cases hx' with
                | same => exact .view hi' rfl rfl hview
                | clo hl2 hh2 =>
                  rename_i ds
                  match ds, hl2, hh2 with
                  | [z1, z2], _, hh2 =>
                    have c1 := hh2 0 _ _ rfl rfl
                    have c2 := hh2 1 _ _ rfl rfl
                    have k1 : ∃ k m, z1 = .int k m ∧ m () = (off () : Int) := by
                      cases c1 with
                      | same => exact ⟨_, _, rfl, rfl⟩
                      | int h => exact ⟨_, _, rfl, h.symm⟩
                    have k2 : ∃ k m, z2 = .int k m ∧ m () = (n () : Int) := by
                      cases c2 with
                      | same => exact ⟨_, _, rfl, rfl⟩
                      | int h => exact ⟨_, _, rfl, h.symm⟩
                    obtain ⟨_, m1, rfl, e1⟩ := k1
                    obtain ⟨_, m2, rfl, e2⟩ := k2
                    exact .view hi' e1 e2 hview
              exact d ret hle0
        · split at hs
          · rename_i a ha
            cases hs with
            | done hle => exact ⟨hh.defers, v, hrun, key _ _ _ _ v ha ho hle hloc⟩
          · exact (no_bad hs).elim
      · exact (no_bad hs).elim
    · exact (no_bad hs).elim
  refine code_ok hm c m hc [] _ _ (startM args bs) _ w h h0 (fun e s' a' w' hs hr => ?_)
  cases e with
  | normal => exact fin s' a' w' hs hr
  | ret => exact fin s' a' w' hs hr
  | exit i => exact (no_bad hs).elim
end Go.V

namespace Go.V
open Go Go.RowKit Go.ChangeShapes Go.WideShapes

/-! ### What the form reads -/
/-- Whatever is read at type t reads, cell by cell, as ea, and meets F where its parts weigh no more than the reach. -/
structure Opens {H : Type} (enc : TypeId × Value → H) (P : Program) (t : TypeId) {α : Type} (sz : Nat) (ea : α → Nat → AV) (F : α → Prop) : Prop where
  cells : P.cellsOf t = sz
  run : ∀ {W : World} {fuel : Nat} {cs : List Value} {y : DataW H × List MemPlace}, DataW.trod enc P W 0 (fun _ => true) true fuel t cs = some y →
    ∃ x, cs.length = sz ∧ (∀ j, j < sz → ∃ fp, Deep W (ea x j) (cs.getD j undef) fp) ∧ ((DataW.weights P t y.1).all (· ≤ reachBytes) = true → F x)

def encB (b : Bool) : Nat → AV := fun _ => .bo b
def encL {α : Type} (sz : Nat) (ea : α → Nat → AV) (l : List α) : Nat → AV := fun _ => .sl sz ea (fun _ => l)
def encP {α β : Type} (sz : Nat) (ea : α → Nat → AV) (eb : β → Nat → AV) (x : α × β) : Nat → AV := fun j => if j < sz then ea x.1 j else eb x.2 (j - sz)

section
variable {H : Type} {enc : TypeId × Value → H} {P : Program} {t : TypeId}
theorem opens_int {k : IntKind} (hu : P.underlying t = some (.int k)) (hc : P.cellsOf t = 1) : Opens enc P t 1 (encI k) (fun x => (Lit.int k x).wf = true) :=
  ⟨hc, fun h => by
    obtain ⟨n, rfl, rfl, hw⟩ := DataW.trod_int hu h
    exact ⟨n, rfl, fun j hj => ⟨_, by have : j = 0 := by omega
                                      subst this; exact .int k _⟩, fun _ => hw⟩⟩
theorem opens_bool (hu : P.underlying t = some .bool) (hc : P.cellsOf t = 1) : Opens enc P t 1 encB (fun _ => True) :=
  ⟨hc, fun h => by
    obtain ⟨b, rfl, rfl⟩ := DataW.trod_bool hu h
    exact ⟨b, rfl, fun j hj => ⟨_, by have : j = 0 := by omega
                                      subst this; exact .bo b⟩, fun _ => trivial⟩⟩
theorem opens_string (hu : P.underlying t = some .string) (hc : P.cellsOf t = 1) : Opens enc P t 1 encS (fun s => s.size ≤ 140737488351232) :=
  ⟨hc, fun h => by
    obtain ⟨s, rfl, rfl, _⟩ := DataW.trod_string hu h
    refine ⟨s, rfl, fun j hj => ⟨_, by have : j = 0 := by omega
                                       subst this; exact .str _⟩, fun hw => ?_⟩
    simp only [DataW.weights] at hw
    rw [List.all_cons, Bool.and_eq_true] at hw
    have h1 : s.data.toList.length ≤ reachBytes := of_decide_eq_true hw.1
    rw [Array.length_toList] at h1
    exact h1⟩

theorem weightsAll_mem {e : TypeId} : ∀ {l : List (DataW H)}, (DataW.weightsAll P e l).all (· ≤ reachBytes) = true → ∀ x ∈ l, (DataW.weights P e x).all (· ≤ reachBytes) = true
  | [], _, x, hx => by cases hx
  | a :: r, h, x, hx => by
    rw [DataW.weightsAll, List.all_append, Bool.and_eq_true] at h
    rcases List.mem_cons.1 hx with rfl | hx
    · exact h.1
    · exact weightsAll_mem h.2 x hx
theorem cells?_len {W : World} {b n : Nat} {a : Addr} {c : List Value} (h : W.cells? b a n = some c) : c.length = n ∧ ∀ i u, c[i]? = some u → W.cell? (a.add i) = some u := by
  unfold World.cells? at h
  split at h
  · obtain ⟨h1, h2⟩ := mapM_get h
    rw [List.length_range] at h1
    refine ⟨h1, fun i u hu => ?_⟩
    have hi : i < n := by
      have := (List.getElem?_eq_some_iff.1 hu).1
      omega
    exact h2 i i u (by rw [List.getElem?_range hi]) hu
  · cases h
theorem cell?_block {W : World} {a : Addr} {u : Value} (h : W.cell? a = some u) : ∃ cs t fr, W.heap[a.block]? = some (.cells cs t fr) ∧ a.spot = none ∧ cs[a.off]? = some u := by
  unfold World.cell? at h
  split at h
  · rename_i c t fr hc
    split at h
    · cases h
    · rename_i hs
      exact ⟨c, t, fr, hc, by simpa using hs, h⟩
  · cases h
theorem add_block (a : Addr) (n : Nat) : (a.add n).block = a.block := by unfold Addr.add; split <;> rfl
theorem add_off (a : Addr) (n : Nat) : (a.add n).off = a.off + n := by unfold Addr.add; split <;> simp_all

theorem opens_slice {α : Type} {e : TypeId} {sz B : Nat} {ea : α → Nat → AV} {F : α → Prop} (hu : P.underlying t = some (.slice e)) (hc : P.cellsOf t = 1) (hB : P.bytesOf e = B) (h0 : 0 < sz) (o : Opens enc P e sz ea F) :
    Opens enc P t 1 (encL sz ea) (fun l => l.length ≤ maxLen ∧ l.length * B ≤ 140737488351232 ∧ ∀ x ∈ l, F x) :=
  ⟨hc, fun {W fuel cs y} h => by
    rcases DataW.trod_slice hu h with ⟨rfl, rfl⟩ | ⟨a, len, cap, elems, rest, n, _, rfl, rfl, _, hl, hm, hlen, hel, hre, _⟩
    · refine ⟨[], rfl, fun j hj => ⟨[], ?_⟩, fun _ => ⟨by simp, by simp, fun x hx => by cases hx⟩⟩
      have : j = 0 := by omega
      subst this
      exact .sl0 none rfl
    · obtain ⟨hrl, hre⟩ := hre rfl
      -- each element
      have each : ∀ i (hi : i < elems.length), ∃ x, (∀ j, j < sz → ∃ u fp, W.cell? ((a.add (i * sz)).add j) = some u ∧ Deep W (ea x j) u fp) ∧ ((DataW.weights P e elems[i].1).all (· ≤ reachBytes) = true → F x) := by
        intro i hi
        have h1 := hel i (by omega)
        rw [List.getElem?_eq_getElem hi, Option.bind_eq_some_iff] at h1
        obtain ⟨c, hcs, h2⟩ := h1
        obtain ⟨x, hcl, hd, hF⟩ := o.run h2
        rw [o.cells] at hcs
        refine ⟨x, fun j hj => ?_, hF⟩
        obtain ⟨fp, hd⟩ := hd j hj
        have hj' : c[j]? = some (c.getD j undef) := by
          have : j < c.length := by omega
          simp [List.getD, this]
        exact ⟨_, fp, (cells?_len hcs).2 j _ hj', hd⟩
      obtain ⟨xs, hxl, hxs⟩ : ∃ xs : List α, xs.length = elems.length ∧ ∀ i (hi : i < elems.length) x, xs[i]? = some x → (∀ j, j < sz → ∃ u fp, W.cell? ((a.add (i * sz)).add j) = some u ∧ Deep W (ea x j) u fp) ∧ ((DataW.weights P e elems[i].1).all (· ≤ reachBytes) = true → F x) := by
        refine ⟨List.ofFn (fun i : Fin elems.length => Classical.choose (each i.1 i.2)), by simp, fun i hi x hx => ?_⟩
        rw [List.getElem?_ofFn] at hx
        simp only [hi, dif_pos] at hx
        obtain rfl := Option.some.inj hx
        exact Classical.choose_spec (each i hi)
      refine ⟨xs, rfl, fun j hj => ?_, fun hw => ?_⟩
      · have : j = 0 := by omega
        subst this
        by_cases hcap : cap = 0
        · have hl0 : len = 0 := by omega
          have : xs = [] := List.eq_nil_of_length_eq_zero (by omega)
          subst this hcap hl0
          exact ⟨[], .sl0 (some a) rfl⟩
        · -- the last place, the first place
          have cell : ∀ i j, i < cap → j < sz → ∃ u, W.cell? ((a.add (i * sz)).add j) = some u := by
            intro i j hi hj
            have key : ∀ (r : Option (DataW H × List MemPlace)) y, (W.cells? 0 (a.add (i * P.cellsOf e)) (P.cellsOf e)).bind (DataW.trod enc P W 0 (fun _ => true) true n e) = r → r = some y → ∃ u, W.cell? ((a.add (i * sz)).add j) = some u := by
              intro r y hr hy
              rw [hy, Option.bind_eq_some_iff] at hr
              obtain ⟨c, hcs, _⟩ := hr
              rw [o.cells] at hcs
              obtain ⟨hcl, hcc⟩ := cells?_len hcs
              exact ⟨_, hcc j _ (List.getElem?_eq_getElem (by omega))⟩
            by_cases hi2 : i < len
            · exact key _ _ (hel i hi2) (List.getElem?_eq_getElem (by omega))
            · have := hre (i - len) (by omega)
              rw [show len + (i - len) = i by omega] at this
              exact key _ _ this (List.getElem?_eq_getElem (by omega))
          obtain ⟨u0, hu0⟩ := cell 0 0 (by omega) h0
          obtain ⟨B0, t0, fr0, hg, hsp, _⟩ := cell?_block hu0
          have ha : a = ⟨a.block, a.off, none⟩ := by
            have : a.spot = none := by simpa [Addr.add] using hsp
            cases a
            simp_all
          rw [add_block, add_block] at hg
          have cell' : ∀ i j u, W.cell? ((a.add (i * sz)).add j) = some u → B0[a.off + i * sz + j]? = some u := by
            intro i j u hu
            obtain ⟨B1, t1, fr1, hg1, _, hc1⟩ := cell?_block hu
            rw [add_block, add_block, hg] at hg1
            cases hg1
            rw [add_off, add_off] at hc1
            exact hc1
          have hr : a.off + cap * sz ≤ B0.size := by
            obtain ⟨u, hu⟩ := cell (cap - 1) (sz - 1) (by omega) (by omega)
            have := (Array.getElem?_eq_some_iff.1 (cell' _ _ _ hu)).1
            have e : cap * sz = (cap - 1) * sz + sz := by
              have : cap = (cap - 1) + 1 := by omega
              rw [this, Nat.add_mul]
              simp
            omega
          -- footprints
          obtain ⟨F2, hF2⟩ : ∃ F2 : Nat → Nat → List Nat, ∀ i x, xs[i]? = some x → ∀ j, j < sz → Deep W (ea x j) (B0.getD (a.off + i * sz + j) undef) (F2 i j) := by
            have : ∀ i, ∃ G : Nat → List Nat, ∀ x, xs[i]? = some x → ∀ j, j < sz → Deep W (ea x j) (B0.getD (a.off + i * sz + j) undef) (G j) := by
              intro i
              cases hx : xs[i]? with
              | none => exact ⟨fun _ => [], fun x h => by cases h⟩
              | some x =>
                have hi := lt_of_get hx
                obtain ⟨G, hG⟩ := pick_fp (n := sz) (R := fun j fp => Deep W (ea x j) (B0.getD (a.off + i * sz + j) undef) fp) (fun j hj => by
                  obtain ⟨u, fp, hu, hd⟩ := (hxs i (by omega) x hx).1 j hj
                  refine ⟨fp, ?_⟩
                  rw [Array.getD_eq_getD_getElem?, cell' i j u hu]
                  exact hd)
                exact ⟨G, fun x' h => by cases h; exact hG⟩
            obtain ⟨F2, h⟩ := Classical.axiomOfChoice this
            exact ⟨F2, h⟩
          have hlx : xs.length = len := by omega
          have d := Deep.sl (w := W) (sz := sz) (enc := ea) (xs := fun _ => xs) (g := a.block) (off := a.off) (cap := cap) (cs := B0) (t := t0) (fr := fr0) (fun i j => B0.getD (a.off + i * sz + j) undef) F2 (by show xs.length ≤ cap; omega) hg hr
            (fun i x hx j hj => by
              obtain ⟨u, fp, hu, _⟩ := (hxs i (by have := lt_of_get hx; have : i < xs.length := this; omega) x hx).1 j hj
              rw [Array.getD_eq_getD_getElem?, cell' i j u hu]
              rfl) hF2
          have e : Value.slice (some a) len cap = .slice (some ⟨a.block, a.off, none⟩) xs.length cap := by rw [← ha, hlx]
          obtain ⟨fp, d⟩ : ∃ fp, Deep W (.sl sz ea (fun _ => xs)) (.slice (some ⟨a.block, a.off, none⟩) xs.length cap) fp := ⟨_, d⟩
          rw [← e] at d
          exact ⟨fp, d⟩
      · simp only [DataW.weights, hu, List.all_cons, List.all_append, Bool.and_eq_true, decide_eq_true_eq, List.length_map] at hw
        obtain ⟨hw1, hw2, _⟩ := hw
        have hlx : xs.length = len := by omega
        refine ⟨by unfold maxLen at *; omega, ?_, fun x hx => ?_⟩
        · rw [hB] at hw1
          have : xs.length * B ≤ (elems.length + rest.length) * B := Nat.mul_le_mul_right _ (by omega)
          unfold reachBytes at hw1
          omega
        · obtain ⟨i, hi⟩ := List.getElem?_of_mem hx
          have hil : i < elems.length := by
            have := (List.getElem?_eq_some_iff.1 hi).1
            omega
          exact (hxs i hil x hi).2 (weightsAll_mem hw2 _ (by rw [List.mem_map]; exact ⟨elems[i], List.getElem_mem _, rfl⟩))⟩

/-- The fields from cell off on. -/
structure OFields {H : Type} (enc : TypeId × Value → H) (P : Program) (fs : List Field) (off : Nat) {α : Type} (sz : Nat) (ea : α → Nat → AV) (F : α → Prop) : Prop where
  run : ∀ {W : World} {fuel : Nat} {cs : List Value} {ys : List (DataW H × List MemPlace)}, (fs.mapM fun f => DataW.trod enc P W 0 (fun _ => true) true fuel f.type ((cs.drop f.offset).take (P.cellsOf f.type))) = some ys →
    cs.length = off + sz → ∃ x, (∀ j, j < sz → ∃ fp, Deep W (ea x j) (cs.getD (off + j) undef) fp) ∧ ((DataW.weightsEach P (fs.map (·.type)) (ys.map (·.1))).all (· ≤ reachBytes) = true → F x)

theorem getD_cut {cs : List Value} {off n j : Nat} (hj : j < n) : ((cs.drop off).take n).getD j undef = cs.getD (off + j) undef := by
  rw [List.getD_eq_getElem?_getD, List.getD_eq_getElem?_getD, List.getElem?_take, if_pos hj, List.getElem?_drop]

theorem ofields_one {α : Type} {f : Field} {off sz : Nat} {ea : α → Nat → AV} {F : α → Prop} (ho : f.offset = off) (o : Opens enc P f.type sz ea F) : OFields enc P [f] off sz ea F :=
  ⟨fun {W fuel cs ys} h hl => by
    rw [List.mapM_cons, Option.bind_eq_bind, Option.bind_eq_some_iff] at h
    obtain ⟨y, hy, h⟩ := h
    simp only [List.mapM_nil, Option.pure_def, Option.bind_eq_bind, Option.bind_some, Option.some.injEq] at h
    subst h
    rw [ho, o.cells] at hy
    obtain ⟨x, hcl, hd, hF⟩ := o.run hy
    refine ⟨x, fun j hj => ?_, fun hw => hF ?_⟩
    · rw [← getD_cut hj]; exact hd j hj
    · simpa [DataW.weightsEach] using hw⟩
theorem ofields_cons {α β : Type} {f : Field} {fs : List Field} {off off' sz sz' : Nat} {ea : α → Nat → AV} {eb : β → Nat → AV} {F : α → Prop} {F' : β → Prop} (ho : f.offset = off) (hoff : off + sz = off') (o : Opens enc P f.type sz ea F) (os : OFields enc P fs off' sz' eb F') :
    OFields enc P (f :: fs) off (sz + sz') (encP sz ea eb) (fun x => F x.1 ∧ F' x.2) :=
  ⟨fun {W fuel cs ys} h hl => by
    rw [List.mapM_cons, Option.bind_eq_bind, Option.bind_eq_some_iff] at h
    obtain ⟨y, hy, h⟩ := h
    rw [Option.bind_eq_bind, Option.bind_eq_some_iff] at h
    obtain ⟨ys', hys, h⟩ := h
    simp only [Option.pure_def, Option.some.injEq] at h
    subst h
    rw [ho, o.cells] at hy
    obtain ⟨x, hcl, hd, hF⟩ := o.run hy
    obtain ⟨x', hd', hF'⟩ := os.run hys (by omega)
    refine ⟨(x, x'), fun j hj => ?_, fun hw => ?_⟩
    · unfold encP
      by_cases hjs : j < sz
      · rw [if_pos hjs, ← getD_cut hjs]; exact hd j hjs
      · rw [if_neg hjs]
        have := hd' (j - sz) (by omega)
        rw [show off' + (j - sz) = off + j by omega] at this
        exact this
    · simp only [List.map_cons, DataW.weightsEach, List.all_append, Bool.and_eq_true] at hw
      exact ⟨hF hw.1, hF' hw.2⟩⟩
theorem opens_struct {α β : Type} {fs : Array Field} {sz : Nat} {ea : α → Nat → AV} {eb : β → Nat → AV} {F : α → Prop} (hu : P.underlying t = some (.struct fs)) (hc : P.cellsOf t = sz) (o : OFields enc P fs.toList 0 sz ea F) (f : β → α) (g : α → β) (hg : ∀ x, f (g x) = x) (he : ∀ x j, j < sz → eb (g x) j = ea x j) :
    Opens enc P t sz eb (fun x => F (f x)) :=
  ⟨hc, fun {W fuel cs y} h => by
    obtain ⟨n, hl, hy⟩ : ∃ n, cs.length = P.cellsOf t ∧ (fs.toList.mapM fun f => DataW.trod enc P W 0 (fun _ => true) true n f.type ((cs.drop f.offset).take (P.cellsOf f.type))).map (fun xs => (DataW.agg (xs.map (·.1)), xs.flatMap (·.2))) = some y := by
      cases fuel with
      | zero => cases h
      | succ n =>
        unfold DataW.trod at h
        rw [hu] at h
        simp only at h
        split at h
        · exact ⟨n, ‹_›, h⟩
        · cases h
    rw [Option.map_eq_some_iff] at hy
    obtain ⟨ys, hys, rfl⟩ := hy
    obtain ⟨x, hd, hF⟩ := o.run hys (by omega)
    refine ⟨g x, by omega, fun j hj => ?_, fun hw => ?_⟩
    · rw [he x j hj]
      have := hd j hj
      rw [Nat.zero_add] at this
      exact this
    · show F (f (g x))
      rw [hg]
      simp only [DataW.weights, hu] at hw
      exact hF hw⟩

/-- The weight of one argument among all. -/
theorem weightsEach_at {ts : List TypeId} {ds : List (DataW H)} (h : (DataW.weightsEach P ts ds).all (· ≤ reachBytes) = true) : ∀ {j : Nat} {t : TypeId} {d : DataW H}, ts[j]? = some t → ds[j]? = some d → (DataW.weights P t d).all (· ≤ reachBytes) = true := by
  induction ts generalizing ds with
  | nil => intro j t d ht; simp at ht
  | cons a ts ih =>
    cases ds with
    | nil => intro j t d _ hd; simp at hd
    | cons b ds =>
      rw [DataW.weightsEach, List.all_append, Bool.and_eq_true] at h
      intro j t d ht hd
      cases j with
      | zero =>
        simp only [List.getElem?_cons_zero, Option.some.injEq] at ht hd
        subst ht hd
        exact h.1
      | succ j =>
        simp only [List.getElem?_cons_succ] at ht hd
        exact ih h.2 ht hd

/-- One value of an argument. -/
theorem Opens.one {α : Type} {ea : α → Nat → AV} {F : α → Prop} (o : Opens enc P t 1 ea F) {W : World} {v : Value} {y : DataW H} {p : List MemPlace} (h : DataW.Trod enc P W 0 (fun _ => true) true t v y p)
    (hv : v.cells = #[v]) (hw : (DataW.weights P t y).all (· ≤ reachBytes) = true) : ∃ x fp, Deep W (ea x 0) v fp ∧ F x := by
  obtain ⟨fuel, hf⟩ := h
  obtain ⟨x, _, hd, hF⟩ := o.run hf
  obtain ⟨fp, hd⟩ := hd 0 (by omega)
  rw [hv] at hd
  exact ⟨x, fp, hd, hF hw⟩
theorem Opens.agg {α : Type} {sz : Nat} {ea : α → Nat → AV} {F : α → Prop} (o : Opens enc P t sz ea F) {W : World} {v : Value} {y : DataW H} {p : List MemPlace} (h : DataW.Trod enc P W 0 (fun _ => true) true t v y p)
    {us : Array Value} (hv : v = .agg us) (hw : (DataW.weights P t y).all (· ≤ reachBytes) = true) : ∃ x fp, Deep W (.agg ((List.range sz).map (ea x))) v fp ∧ F x := by
  obtain ⟨fuel, hf⟩ := h
  subst hv
  obtain ⟨x, hl, hd, hF⟩ := o.run hf
  obtain ⟨G, hG⟩ := pick_fp (n := sz) (R := fun j fp => Deep W (ea x j) (us.getD j undef) fp) (fun j hj => by
    obtain ⟨fp, hd⟩ := hd j hj
    refine ⟨fp, ?_⟩
    have e : (Value.cells (.agg us)).toList.getD j undef = us.getD j undef := by
      rw [List.getD_eq_getElem?_getD, Array.getD_eq_getD_getElem?]
      simp [Value.cells]
    rw [← e]
    exact hd)
  refine ⟨x, _, .agg G ?_ (fun i z hz => ?_), hF hw⟩
  · have : us.toList.length = sz := hl
    simpa using this
  · rw [List.getElem?_map, Option.map_eq_some_iff] at hz
    obtain ⟨i', hi', rfl⟩ := hz
    have hlt := lt_of_get hi'
    rw [List.length_range] at hlt
    rw [List.getElem?_range hlt] at hi'
    cases hi'
    exact hG i hlt
end
end Go.V

namespace Go.V
open Go Go.RowKit

/-! ### For use -/
/-- A function whose code is known in short. -/
structure Known (P : Program) (mu : Nat → Bool) (f : Nat) (m : MCode) (rs : List RV) (n : Nat) : Prop where
  ok : ∃ fn c H, P.follows .mixedOrders = true ∧ P.funcs[f]? = some fn ∧ fn.name ≠ "runtime.NumGoroutine" ∧ fn.body = some c ∧ compC P mu fn.ntmps H c = some m ∧ fn.results.toList.mapM (compR P) = some rs ∧ fn.ntmps = n
theorem Known.fn {P : Program} {mu : Nat → Bool} {f : Nat} {m : MCode} {rs : List RV} {n : Nat} (k : Known P mu f m rs n) {args : List AV} {r : AV} (hl : Nat.ble args.length n = true) (h : Sat P (fun q => LeD q r) [] (runT m rs args)) : Fn P f args r := by
  obtain ⟨fn, c, H, h1, h2, h3, h4, h5, h6, h7⟩ := k.ok
  exact fn_of h1 h2 h3 h4 h5 h6 (by rw [h7]; exact Nat.le_of_ble_eq_true hl) h
theorem Known.of {P : Program} {mu : Nat → Bool} {f : Nat} {m : MCode} {rs : List RV} {fn : Func} (H : Hints) (h1 : P.follows .mixedOrders = true) (h2 : P.funcs[f]? = some fn) (h3 : (fn.name != "runtime.NumGoroutine") = true) (h4 : fn.body.isSome = true) (h5 : compC P mu fn.ntmps H (fn.body.getD .skip) = some m)
    (h6 : fn.results.toList.mapM (compR P) = some rs) : Known P mu f m rs fn.ntmps := by
  refine ⟨fn, fn.body.getD .skip, H, h1, h2, by simpa using h3, ?_, h5, h6, rfl⟩
  cases e : fn.body with
  | none => rw [e] at h4; cases h4
  | some c => rfl

/-- Rows of one shape, one by one. -/
def SameRows : List AV → List AV → Prop
  | [], [] => True
  | b :: bs, o :: os => SameRow b o ∧ SameRows bs os
  | _, _ => False
theorem SameRows.spec : ∀ {bs os : List AV}, SameRows bs os → (∀ B ∈ bs, ∃ (α : Type) (sz : Nat) (enc : α → Nat → AV) (xs : Unit → List α), B = .sl sz enc xs) ∧ os.length = bs.length ∧ ∀ (i : Nat) (B B' : AV), bs[i]? = some B → os[i]? = some B' → SameRow B B'
  | [], [], _ => ⟨fun B hB => (by cases hB), rfl, fun i B B' h => by simp at h⟩
  | b :: bs, o :: os, h => by
    obtain ⟨h1, h2⟩ := h
    obtain ⟨e1, e2, e3⟩ := SameRows.spec h2
    refine ⟨fun B hB => ?_, by simp [e2], fun i B B' hi hi' => ?_⟩
    · rcases List.mem_cons.1 hB with rfl | hB
      · cases h1 with
        | mk h => exact ⟨_, _, _, _, rfl⟩
      · exact e1 B hB
    · cases i with
      | zero => simp at hi hi'; subst hi hi'; exact h1
      | succ i => exact e3 i B B' (by simpa using hi) (by simpa using hi')
theorem Known.fnm {P : Program} {mu : Nat → Bool} {f : Nat} {m : MCode} {rs : List RV} {n : Nat} (k : Known P mu f m rs n) {args bs outs : List AV} {ret : AV} (hl : Nat.ble args.length n = true) (hs : SameRows bs outs) (h : Sat P (fun q => LeD q (.tup (ret :: outs))) [] (runM m rs args bs)) : FnM P f args bs ret outs := by
  obtain ⟨fn, c, H, h1, h2, h3, h4, h5, h6, h7⟩ := k.ok
  obtain ⟨e1, e2, e3⟩ := hs.spec
  exact fn_of_m h1 h2 h3 h4 h5 h6 (by rw [h7]; exact Nat.le_of_ble_eq_true hl) e1 ⟨e2, e3⟩ h

theorem led_bo {b b' : Bool} (h : b = b') : LeD (.bo b) (.bo b') := h ▸ .same _
/-- Each value of a list may stand for the other's. -/
theorem led_nil : ∀ (i : Nat) (x y : AV), ([] : List AV)[i]? = some x → ([] : List AV)[i]? = some y → LeD x y := fun i x y h => by simp at h
theorem led_cons {a b : AV} {l r : List AV} (h : LeD a b) (hr : ∀ (i : Nat) (x y : AV), l[i]? = some x → r[i]? = some y → LeD x y) : ∀ (i : Nat) (x y : AV), (a :: l)[i]? = some x → (b :: r)[i]? = some y → LeD x y := fun i x y hx hy => by
  cases i with
  | zero => simp at hx hy; subst hx hy; exact h
  | succ i => exact hr i x y (by simpa using hx) (by simpa using hy)
end Go.V

namespace Go.V
open Go Go.RowKit Go.ChangeShapes Go.WideShapes

/-! ### A law's row -/
/-- What the form reads of the arguments reads as avs x, for some x with F. -/
def Takes {H : Type} (enc : TypeId × Value → H) (P : Program) (ts : List TypeId) {X : Type} (avs : X → List AV) (F : X → Prop) : Prop :=
  ∀ (W : World) (base : Nat) (vs : List Value) (ds : List (DataW H)) (ps : List MemPlace), DataW.TrodAll enc P W 0 (fun _ => true) true ts vs ds ps → (∀ (j : Nat) t v, ts[j]? = some t → vs[j]? = some v → Value.okWide P W .any base t v) →
    (DataW.weightsEach P ts ds).all (· ≤ reachBytes) = true → ∃ x, F x ∧ vs.length = (avs x).length ∧ ∀ (i : Nat) (a : AV), (avs x)[i]? = some a → ∃ fp, Deep W a (vs.getD i undef) fp
section
variable {H : Type} {enc : TypeId × Value → H} {P : Program} {ts : List TypeId} {t : TypeId}
theorem takes_nil : Takes enc P [] (fun _ : Unit => []) (fun _ => True) := fun W base vs ds ps h _ _ => by
  obtain ⟨rfl, rfl, rfl⟩ := trodAll_nil h
  exact ⟨(), trivial, rfl, fun i a h => by simp at h⟩
theorem takes_cons {α X : Type} {b : α → AV} {avs : X → List AV} {F : α → Prop} {G : X → Prop} (o : ∀ (W : World) (base : Nat) (v : Value) (y : DataW H) (p : List MemPlace), DataW.Trod enc P W 0 (fun _ => true) true t v y p → Value.okWide P W .any base t v → (DataW.weights P t y).all (· ≤ reachBytes) = true → ∃ x fp, Deep W (b x) v fp ∧ F x)
    (h : Takes enc P ts avs G) : Takes enc P (t :: ts) (fun x : α × X => b x.1 :: avs x.2) (fun x => F x.1 ∧ G x.2) := fun W base vs ds ps ht hv hw => by
  obtain ⟨v, vs', d, ds', p, q, rfl, rfl, rfl, h1, h2⟩ := trodAll_cons ht
  rw [DataW.weightsEach, List.all_append, Bool.and_eq_true] at hw
  obtain ⟨x, fp, hd, hF⟩ := o W base v d p h1 (hv 0 t v rfl rfl) hw.1
  obtain ⟨x', hG, hl, hd'⟩ := h W base vs' ds' q h2 (fun j t v h1 h2 => hv (j + 1) t v h1 h2) hw.2
  refine ⟨(x, x'), ⟨hF, hG⟩, by simp [hl], fun i a ha => ?_⟩
  cases i with
  | zero => simp at ha; subst ha; exact ⟨fp, hd⟩
  | succ i => exact hd' i a (by simpa using ha)
theorem takes_int {k : IntKind} {X : Type} {avs : X → List AV} {G : X → Prop} (hu : P.underlying t = some (.int k)) (h : Takes enc P ts avs G) : Takes enc P (t :: ts) (fun x : Int × X => .int k (fun _ => x.1) :: avs x.2) (fun x => (Lit.int k x.1).wf = true ∧ G x.2) :=
  takes_cons (b := fun x => .int k (fun _ => x)) (F := fun x => (Lit.int k x).wf = true) (fun W base v y p h hv _ => by
    obtain ⟨n, rfl, _, _, hw⟩ := open_int hu hv h
    exact ⟨n, [], .int k _, hw⟩) h
theorem takes_bool {X : Type} {avs : X → List AV} {G : X → Prop} (hu : P.underlying t = some .bool) (h : Takes enc P ts avs G) : Takes enc P (t :: ts) (fun x : Bool × X => .bo x.1 :: avs x.2) (fun x => True ∧ G x.2) :=
  takes_cons (b := fun x => .bo x) (F := fun _ => True) (fun W base v y p h hv _ => by
    obtain ⟨n, rfl, _, _⟩ := open_bool hu hv h
    exact ⟨n, [], .bo _, trivial⟩) h
theorem takes_string {X : Type} {avs : X → List AV} {G : X → Prop} (hu : P.underlying t = some .string) (hc : P.cellsOf t = 1) (h : Takes enc P ts avs G) : Takes enc P (t :: ts) (fun x : ByteArray × X => .str (fun _ => x.1) :: avs x.2) (fun x => x.1.size ≤ 140737488351232 ∧ G x.2) :=
  takes_cons (b := fun x => .str (fun _ => x)) (F := fun s => s.size ≤ 140737488351232) (fun W base v y p h hv hw => by
    obtain ⟨s, rfl⟩ := okWide_string hu hv
    obtain ⟨x, fp, hd, hF⟩ := (opens_string hu hc).one h rfl hw
    exact ⟨x, fp, hd, hF⟩) h
theorem takes_slice {α X : Type} {ea : α → Nat → AV} {avs : X → List AV} {G : X → Prop} {e : TypeId} {sz : Nat} {F' : List α → Prop} (hu : P.underlying t = some (.slice e)) (o : Opens enc P t 1 (encL sz ea) F') (h : Takes enc P ts avs G) :
    Takes enc P (t :: ts) (fun x : List α × X => .sl sz ea (fun _ => x.1) :: avs x.2) (fun x => F' x.1 ∧ G x.2) :=
  takes_cons (b := fun x => .sl sz ea (fun _ => x)) (F := F') (fun W base v y p h hv hw => by
    obtain ⟨a, n, c, rfl⟩ := okWide_slice hu hv
    obtain ⟨x, fp, hd, hF⟩ := o.one h rfl hw
    exact ⟨x, fp, hd, hF⟩) h
theorem takes_agg {α X : Type} {ea : α → Nat → AV} {F : α → Prop} {avs : X → List AV} {G : X → Prop} {fs : Array Field} {sz : Nat} (hu : P.underlying t = some (.struct fs)) (o : Opens enc P t sz ea F) (h : Takes enc P ts avs G) :
    Takes enc P (t :: ts) (fun x : α × X => .agg ((List.range sz).map (ea x.1)) :: avs x.2) (fun x => F x.1 ∧ G x.2) :=
  takes_cons (b := fun x => .agg ((List.range sz).map (ea x))) (F := F) (fun W base v y p h hv hw => by
    obtain ⟨cs, hcs, _⟩ := okWide_struct hu hv
    obtain ⟨x, fp, hd, hF⟩ := o.agg h hcs hw
    exact ⟨x, fp, hd, hF⟩) h

/-- Arguments behind a call that leaves them. -/
theorem back {W W' : World} (hl : laidOutB P = true) (bel : Below W.heap.size W W') : ∀ {ts : List TypeId} {vs : List Value} {ds : List (DataW H)} {ps : List MemPlace}, (ts.all fun t => P.readableRec t && Nat.blt t P.types.size) = true →
    DataW.TrodAll enc P W 0 (fun _ => true) true ts vs ds ps → DataW.TrodAll enc P W' 0 (fun b => decide (b < W.heap.size)) true ts vs ds ps
  | [], vs, ds, ps, _, h => by
    obtain ⟨rfl, rfl, rfl⟩ := trodAll_nil h
    exact trodAll_mk0
  | t :: ts, vs, ds, ps, ht, h => by
    obtain ⟨v, vs', d, ds', p, q, rfl, rfl, rfl, h1, h2⟩ := trodAll_cons h
    rw [List.all_cons, Bool.and_eq_true, Bool.and_eq_true] at ht
    have lt : ∀ x ∈ p, x.block < W.heap.size := by
      obtain ⟨m, hm⟩ := h1
      exact DataW.trod_lt m _ _ _ hm
    exact trodAll_cons_mk (Below.trod hl ht.1.1 (by have := ht.1.2; rw [Nat.blt_eq] at this; exact this) h1 bel lt) (back hl bel ht.2 h2)
end

theorem trodAll_len {H : Type} {enc : TypeId × Value → H} {P : Program} {W : World} : ∀ {ts : List TypeId} {vs : List Value} {ds : List (DataW H)} {ps : List MemPlace}, DataW.TrodAll enc P W 0 (fun _ => true) true ts vs ds ps → ts.length = ds.length
  | [], vs, ds, ps, h => by
    obtain ⟨rfl, rfl, rfl⟩ := trodAll_nil h
    rfl
  | t :: ts, vs, ds, ps, h => by
    obtain ⟨v, vs', d, ds', p, q, rfl, rfl, rfl, h1, h2⟩ := trodAll_cons h
    rw [List.length_cons, List.length_cons, trodAll_len h2]
/-- What becomes of a law whose function's contract says true. -/
theorem lifted_of {C : Checked} {f : Nat} {fn : Func} {s : ChangeSpec} {conds : List PathCond} {rt : TypeId} (own : ownKnob C.prog.godebug = none) (laid : laidOutB C.prog = true) (noInit : C.prog.inits.idxOf? f = none) (hf : C.prog.funcs[f]? = some fn) (hv : s.vars = [])
    (hread : (fn.params.toList.all fun t => C.prog.readableRec t && Nat.blt t C.prog.types.size) = true) (hrt : C.prog.underlying rt = some .bool) (hres : fn.resultTypes = #[rt]) {ts : List TypeId} (hts : fn.params.toList = ts) (hargs : ∀ (H : Type) (ds : List (DataW H)), ds.length = ts.length → s.fn H ds = { results := [.lit (.bool true)], args := ds })
    {X : Type} {avs : X → List AV} {F : X → Prop} (ht : ∀ (H : Type) (enc : TypeId × Value → H), Takes enc C.prog ts avs F) (hF : ∀ x, F x → Fn C.prog f (avs x) (.bo true)) (os : Os) (started : os.Started) (H : Type) (enc : TypeId × Value → H)
    (witness : ∃ (w : World) (tape : Tape) (i : Input), w.os = os ∧ (w.forCall tape i).Shaped C.prog ∧ i.vars = [] ∧ Input.okWide C.prog (w.forCall tape i) .any w.heap.size f i ∧ s.pre6 enc C.prog fn conds false (w.forCall tape i).memory i.args ∧ ({} : Assume).holds C.prog (lone (Frame.enter C.prog f i.args .normal) [] (w.forCall tape i))) :
    ReturnsInHanded {} C os f .any (s.pre6 enc C.prog fn conds false) (s.post enc C.prog fn false true false false) := by
  subst hts
  refine returnsInHanded_of_change_sized own started noInit hf witness ?_
  intro W base args ds gs before hval0 hW hcnd hsz0 _
  have hvt : s.plain.varTypes C.prog = [] := by
    unfold ChangeSpec.plain
    simp [DataSpec.varTypes, hv]
  rw [hvt, List.append_nil] at hsz0
  have hW' := hW
  obtain ⟨p, q, hA, hV, hbef, hfz, hnd⟩ := hW
  rw [hv] at hV
  obtain ⟨rfl, rfl⟩ := trodVars_none hV
  rw [List.append_nil] at hsz0
  obtain ⟨x, hFx, hlen, hd⟩ := ht H enc W base args.toList ds p hA (fun j t v h1 h2 => hval0 j t v (by simpa using h1) (by simpa using h2)) hsz0
  obtain ⟨G, hG⟩ := pick_fp (n := (avs x).length) (R := fun i fp => ∀ a, (avs x)[i]? = some a → Deep W a (args.getD i undef) fp) (fun i hi => by
    obtain ⟨fp, h⟩ := hd i _ (List.getElem?_eq_getElem hi)
    refine ⟨fp, fun a ha => ?_⟩
    rw [List.getElem?_eq_getElem hi] at ha
    cases ha
    rw [List.getD_eq_getElem?_getD] at h
    rw [Array.getD_eq_getD_getElem?, ← Array.getElem?_toList]
    exact h)
  refine ((hF x hFx).2 W args G (by simpa using hlen) (fun i a ha => hG i (lt_of_get ha) a ha)).mono fun e W' he => ?_
  obtain ⟨v, fp, rfl, hdv, _, _, bel⟩ := he
  cases hdv
  have hdl := trodAll_len hA
  have e : s.fn H (ds ++ []) = { results := [.lit (.bool true)], args := ds } := by rw [List.append_nil]; exact hargs H ds hdl.symm
  refine ⟨_, rfl, ds, [], before, [], p, [], hW', ?_, ?_, ?_, bel.frame _, fun h => by cases h⟩
  · rw [e, hres]
    exact trodAll_mk1 (shut_bool hrt true)
  · rw [e]
    exact back laid bel hread hA
  · rw [e, hv]
    rfl
end Go.V

namespace Go.V
open Go Go.RowKit

/-! ### At a loop's head -/
theorem slot_mem {t : Nat} : ∀ {l : List (Nat × AV)}, slot t l = .any ∨ ∃ v, (t, v) ∈ l ∧ slot t l = v
  | [] => .inl rfl
  | p :: r => by
    rw [slot]
    cases e : Nat.beq p.1 t with
    | true =>
      have := Nat.eq_of_beq_eq_true e
      subst this
      exact .inr ⟨p.2, List.mem_cons_self .., rfl⟩
    | false =>
      rcases slot_mem (t := t) (l := r) with h | ⟨v, h1, h2⟩
      · exact .inl h
      · exact .inr ⟨v, List.mem_cons_of_mem _ h1, h2⟩
theorem look_in {b : Nat} {k : Blk} : ∀ {l : List (Nat × Blk)}, look b l = some k → (b, k) ∈ l
  | [], h => by cases h
  | p :: r, h => by
    rw [look] at h
    cases e : Nat.beq p.1 b with
    | true =>
      rw [e, cond_true] at h
      cases h
      have := Nat.eq_of_beq_eq_true e
      subst this
      exact List.mem_cons_self ..
    | false =>
      rw [e, cond_false] at h
      exact List.mem_cons_of_mem _ (look_in h)
def TmOk (s : St) (st1 : List (Nat × Blk)) : List (Nat × AV) → Prop
  | [] => True
  | p :: r => LeV s.st st1 (slot p.1 s.tm) p.2 ∧ TmOk s st1 r
def BkOk (s : St) (st1 : List (Nat × Blk)) (nx : Nat) : List (Nat × Blk) → Prop
  | [] => True
  | p :: r => (((∃ k', look p.1 s.st = some k' ∧ LeK s.st st1 k' p.2) ∨ (look p.1 s.st = none ∧ phantom p.2)) ∧ p.1 < nx) ∧ BkOk s st1 nx r
theorem TmOk.mem {s : St} {st1 : List (Nat × Blk)} : ∀ {l : List (Nat × AV)}, TmOk s st1 l → ∀ p ∈ l, LeV s.st st1 (slot p.1 s.tm) p.2
  | [], _, p, hp => by cases hp
  | q :: r, h, p, hp => by
    rcases List.mem_cons.1 hp with rfl | hp
    · exact h.1
    · exact TmOk.mem h.2 p hp
theorem BkOk.mem {s : St} {st1 : List (Nat × Blk)} {nx : Nat} : ∀ {l : List (Nat × Blk)}, BkOk s st1 nx l → ∀ p ∈ l, ((∃ k', look p.1 s.st = some k' ∧ LeK s.st st1 k' p.2) ∨ (look p.1 s.st = none ∧ phantom p.2)) ∧ p.1 < nx
  | [], _, p, hp => by cases hp
  | q :: r, h, p, hp => by
    rcases List.mem_cons.1 hp with rfl | hp
    · exact h.1
    · exact BkOk.mem h.2 p hp
/-- The rows that are lent stay. -/
def FxOk (st1 : List (Nat × Blk)) : List (Nat × Blk) → Bool
  | [] => true
  | (b, .row _ _ _ true) :: r => (match look b st1 with | some _ => true | none => false) && FxOk st1 r
  | _ :: r => FxOk st1 r
theorem FxOk.mem {st1 : List (Nat × Blk)} : ∀ {l : List (Nat × Blk)}, FxOk st1 l = true → ∀ (b : Nat) (α : Type) (sz : Nat) (enc : α → Nat → AV) (xs : Unit → List α), (b, Blk.row sz enc xs true) ∈ l → look b st1 ≠ none
  | [], _, b, α, sz, enc, xs, h => by cases h
  | (c, k) :: r, h, b, α, sz, enc, xs, hm => by
    rcases List.mem_cons.1 hm with e | hm
    · cases e
      rw [FxOk] at h
      intro hn
      rw [hn] at h
      simp at h
    · refine FxOk.mem (l := r) ?_ b α sz enc xs hm
      cases k with
      | lit => exact h
      | row sz enc xs fx =>
        cases fx with
        | false => exact h
        | true =>
          rw [FxOk, Bool.and_eq_true] at h
          exact h.2
theorem les_of {s : St} {tm1 : List (Nat × AV)} {st1 : List (Nat × Blk)} {nx : Nat} (h1 : TmOk s st1 tm1) (h2 : BkOk s st1 nx st1) (h3 : FxOk st1 s.st = true) : LeS s ⟨tm1, st1, nx⟩ := by
  refine ⟨fun t => ?_, fun b k hk => (h2.mem _ (look_in hk)).1, fun b k hk => (h2.mem _ (look_in hk)).2, fun b α sz enc xs hk => FxOk.mem h3 b α sz enc xs (look_in hk)⟩
  rcases slot_mem (t := t) (l := tm1) with h | ⟨v, hm, h⟩
  · show LeV _ _ _ (slot t tm1)
    rw [h]; exact .any _
  · show LeV _ _ _ (slot t tm1)
    rw [h]; exact h1.mem _ hm

/-- The state, with other values in some slots and blocks. -/
def patchT (ch : List (Nat × AV)) : List (Nat × AV) → List (Nat × AV)
  | [] => []
  | p :: r => (p.1, match ch.find? (fun q => Nat.beq q.1 p.1) with | some q => q.2 | none => p.2) :: patchT ch r
def patchB (cb : List (Nat × Blk)) : List (Nat × Blk) → List (Nat × Blk)
  | [] => []
  | p :: r => match cb.find? (fun q => Nat.beq q.1 p.1) with | some _ => patchB cb r | none => p :: patchB cb r
/-- nx: the first number of what comes. -/
def patch (s : St) (ch : List (Nat × AV)) (cb : List (Nat × Blk)) : St := ⟨patchT ch s.tm, cb ++ patchB cb s.st, s.nx + cb.length⟩

variable {P : Program} {Q : AV → Prop}
theorem Sat.loopP {As : List (St → Prop)} {s : St} {body : St → Tree} {ι : Type} (ch : ι → List (Nat × AV)) (cb : ι → List (Nat × Blk)) (G : ι → Prop) (μ : ι → Nat) (x0 : ι) (hs : LeS s (patch s (ch x0) (cb x0))) (hg : G x0)
    (hb : ∀ x, G x → Sat P Q ((fun s' => ∃ y, LeS s' (patch s (ch y) (cb y)) ∧ G y ∧ μ y < μ x) :: As) (body (patch s (ch x) (cb x)))) : Sat P Q As (.loop s body) :=
  .loop (fun x => patch s (ch x) (cb x)) G μ x0 hs hg hb
theorem Sat.next {ι : Type} {As : List (St → Prop)} {s : St} {G : ι → Prop} {μ : ι → Nat} {S : ι → St} {x : ι} (y : ι) (h : LeS s (S y)) (hg : G y) (hm : μ y < μ x) : Sat P Q ((fun s' => ∃ y, LeS s' (S y) ∧ G y ∧ μ y < μ x) :: As) (.again s) :=
  .again (.refl _) ⟨y, h, hg, hm⟩
/-- To the head again, block b by the number c. -/
theorem Sat.nextR {ι : Type} {As : List (St → Prop)} {s : St} {G : ι → Prop} {μ : ι → Nat} {S : ι → St} {x : ι} (b c : Nat) (y : ι) (hc : noFx c s.st = true) (hb : noFx b s.st = true) (hlt : Nat.blt c s.nx = true) (hlt2 : Nat.blt b s.nx = true) (h : LeS (renS b c s) (S y)) (hg : G y) (hm : μ y < μ x) : Sat P Q ((fun s' => ∃ y, LeS s' (S y) ∧ G y ∧ μ y < μ x) :: As) (.again s) :=
  .again (.step b c hc hb hlt hlt2 (.refl _)) ⟨y, h, hg, hm⟩
theorem Sat.idxk {As : List (St → Prop)} {α : Type} {xs : Unit → List α} {i : Unit → Nat} {c : α → Tree} {x : α} (hx : (xs ())[i ()]? = some x) (h : Sat P Q As (c x)) : Sat P Q As (.idx xs i c) :=
  .idx (lt_of_get hx) (fun y hy => by rw [hx] at hy; cases hy; exact h)
theorem lev_nil {st st1 : List (Nat × Blk)} : ∀ (i : Nat) (x y : AV), ([] : List AV)[i]? = some x → ([] : List AV)[i]? = some y → LeV st st1 x y := fun i x y h => by simp at h
theorem lev_cons {st st1 : List (Nat × Blk)} {a b : AV} {l r : List AV} (h : LeV st st1 a b) (hr : ∀ (i : Nat) (x y : AV), l[i]? = some x → r[i]? = some y → LeV st st1 x y) : ∀ (i : Nat) (x y : AV), (a :: l)[i]? = some x → (b :: r)[i]? = some y → LeV st st1 x y := fun i x y hx hy => by
  cases i with
  | zero => simp at hx hy; subst hx hy; exact h
  | succ i => exact hr i x y (by simpa using hx) (by simpa using hy)
@[simp] theorem take_all {α : Type} {l : List α} {n : Nat} (h : l.length ≤ n) : l.take n = l := List.take_of_length_le h
theorem ncast (n : Nat) : @NatCast.natCast Int instNatCastInt n = @Nat.cast Int instNatCastInt n := rfl
theorem tnil {f : Nat → AV} : ∀ (j : Nat) (x : AV), ([] : List AV)[j]? = some x → LeD x (f j) := fun j x h => by simp at h
theorem tcons {a : AV} {r : List AV} {f : Nat → AV} (h : LeD a (f 0)) (hr : ∀ (j : Nat) (x : AV), r[j]? = some x → LeD x (f (j + 1))) : ∀ (j : Nat) (x : AV), (a :: r)[j]? = some x → LeD x (f j) := fun j x hx => by
  cases j with
  | zero => simp at hx; subst hx; exact h
  | succ j => exact hr j x (by simpa using hx)
theorem Sat.ari64 {As : List (St → Prop)} {v : Unit → Int} {c : (Unit → Int) → Tree} (h1 : -9223372036854775808 ≤ v ()) (h2 : v () ≤ 9223372036854775807) (hc : Sat P Q As (c v)) : Sat P Q As (.ari .i64 v c) :=
  .ari (IntWalk.i64_in _ ⟨h1, h2⟩) hc
end Go.V
