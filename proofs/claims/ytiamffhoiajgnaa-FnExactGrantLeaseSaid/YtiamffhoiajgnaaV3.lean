/- A theory of its own: Go code in short, evaluated, with proof that the machine does what the evaluation tells. Conditions: those that each theorem states. Part 3. -/
import Derived.Test.YtiamffhoiajgnaaV2
import Derived.LoopN
import Derived.Orders
set_option linter.unusedVariables false
set_option linter.unusedSimpArgs false
namespace Go.V
open Go Go.RowKit

/-! ### Slices that are lent to a call -/
def FromOf (E : Env) (FP : Nat → List Nat) (st : List (Nat × Blk)) (g : Nat) : Prop := (g < E.w0.w.heap.size ∧ ¬ E.w0.mine g) ∨ ∃ b, look b st ≠ none ∧ g ∈ E.own FP b
theorem mat_from {E : Env} {FP : Nat → List Nat} (hG : Good E FP) {st : List (Nat × Blk)} (hst : ∀ b k, look b st = some k → E.st b = some k) :
    ∀ (d : Nat) (x y : AV), mat st d x = some y → ∀ v, Loc E x v → ∃ fp, Deep E.w y v fp ∧ ∀ g ∈ fp, FromOf E FP st g
  | 0, x, y, h, v, hv => by cases h
  | d + 1, x, y, h, v, hv => by
    have parts : ∀ {cs ds : List AV} (f : Nat → Value), cs.mapM (mat st d) = some ds → (∀ i x, cs[i]? = some x → Loc E x (f i)) → ds.length = cs.length ∧ ∃ F : Nat → List Nat, (∀ i y, ds[i]? = some y → Deep E.w y (f i) (F i)) ∧ ∀ i, i < ds.length → ∀ g ∈ F i, FromOf E FP st g := by
      intro cs ds f hm hl
      obtain ⟨h1, h2⟩ := mapM_get hm
      obtain ⟨F, hF⟩ := pick_fp (n := ds.length) (R := fun i fp => ∀ y, ds[i]? = some y → Deep E.w y (f i) fp ∧ ∀ g ∈ fp, FromOf E FP st g) (fun i hi => by
        have hx := List.getElem?_eq_getElem (show i < cs.length by omega)
        have hy := List.getElem?_eq_getElem hi
        obtain ⟨fp, hd⟩ := mat_from hG hst d _ _ (h2 i _ _ hx hy) _ (hl i _ hx)
        exact ⟨fp, fun y hy' => by rw [hy] at hy'; cases hy'; exact hd⟩)
      exact ⟨h1, F, fun i y hy => (hF i (lt_of_get hy) y hy).1, fun i hi => (hF i hi _ (List.getElem?_eq_getElem hi)).2⟩
    have flatF : ∀ {n : Nat} {F : Nat → List Nat}, (∀ i, i < n → ∀ g ∈ F i, FromOf E FP st g) → ∀ g ∈ (List.range n).flatMap F, FromOf E FP st g := fun h g hg => by
      obtain ⟨i, hi, hg⟩ := List.mem_flatMap.1 hg
      exact h i (List.mem_range.1 hi) g hg
    have old : ∀ {x : AV} {v : Value} {fp : List Nat}, DeepB E.w0 x v fp → ∀ g ∈ fp, FromOf E FP st g := fun h g hg => .inl ⟨h.deep.bound g hg, h.old g hg⟩
    cases x with
    | any => cases h
    | undef => cases h
    | own => cases h
    | eptr => cases h
    | int k n => cases h; rw [hv.int_inv]; exact ⟨_, .int k n, fun g hg => by cases hg⟩
    | bo b => cases h; rw [hv.bo_inv]; exact ⟨_, .bo b, fun g hg => by cases hg⟩
    | str s => cases h; rw [hv.str_inv]; exact ⟨_, .str s, fun g hg => by cases hg⟩
    | nil => cases h; rw [hv.nil_inv]; exact ⟨_, .nil, fun g hg => by cases hg⟩
    | emp => cases h; obtain ⟨A, rfl⟩ := hv.emp_inv; exact ⟨_, .emp A, fun g hg => by cases hg⟩
    | sl sz enc xs => cases h; cases hv with | sl hd => exact ⟨_, hd.under hG.below, old hd⟩
    | lsl es => cases h; cases hv with | lsl hd => exact ⟨_, hd.under hG.below, old hd⟩
    | rptr cs => cases h; cases hv with | rptr hd => exact ⟨_, hd.under hG.below, old hd⟩
    | ref b off n =>
      simp only [mat] at h
      split at h
      · rename_i sz enc xs fx hb
        cases h
        obtain ⟨fp, hd, hs⟩ := ref_deep hG (hst _ _ hb) hv
        exact ⟨fp, hd, fun g hg => .inr ⟨b, (by rw [hb]; exact fun h => by cases h), hs g hg⟩⟩
      · cases h
    | ptr b j =>
      simp only [mat] at h
      split at h
      · rename_i sz cs hb
        rw [Option.map_eq_some_iff] at h
        obtain ⟨ds, hm, rfl⟩ := h
        obtain ⟨sz', cs', g, base, hb', ha, rfl⟩ := hv.ptr_inv
        rw [hst _ _ hb] at hb'
        cases hb'
        have r := hG.rep b _ (hst _ _ hb)
        generalize FP b = fp at r
        cases r with
        | lit ha' hg hc =>
          rename_i cells t
          rw [ha] at ha'
          cases ha'
          have key : ∀ i x, (cs.drop j)[i]? = some x → ∃ u, cells[base + j + i]? = some u ∧ Loc E x u := fun i x hx => by
            rw [List.getElem?_drop] at hx
            obtain ⟨u, hu, hl⟩ := hc _ x hx
            exact ⟨u, by rw [Nat.add_assoc]; exact hu, hl⟩
          obtain ⟨hl, F, hF, hF2⟩ := parts (fun i => cells.getD (base + j + i) undef) hm (fun i x hx => by
            obtain ⟨u, hu, hl⟩ := key i x hx
            rw [Array.getD_eq_getD_getElem?, hu]
            exact hl)
          refine ⟨_, .rptr (fun i => cells.getD (base + j + i) undef) F hg (fun i y hy => by
            obtain ⟨x, hx⟩ := get_of_len hl hy
            obtain ⟨u, hu, _⟩ := key i x hx
            rw [Array.getD_eq_getD_getElem?, hu]
            rfl) hF, fun q hq => ?_⟩
          rcases List.mem_cons.1 hq with rfl | hq
          · refine .inr ⟨b, (by rw [hb]; exact fun h => by cases h), ?_⟩
            show q ∈ ownOf (E.at_ b) (FP b)
            rw [ha]
            exact List.mem_cons_self ..
          · exact flatF hF2 q hq
      · cases h
    | agg cs =>
      simp only [mat] at h
      rw [Option.map_eq_some_iff] at h
      obtain ⟨ds, hm, rfl⟩ := h
      obtain ⟨us, rfl, hs, hd⟩ := hv.agg_inv
      obtain ⟨hl, F, hF, hF2⟩ := parts (fun i => us.getD i undef) hm hd
      exact ⟨_, .agg F (by omega) hF, flatF hF2⟩
    | tup cs =>
      simp only [mat] at h
      rw [Option.map_eq_some_iff] at h
      obtain ⟨ds, hm, rfl⟩ := h
      obtain ⟨us, rfl, hs, hd⟩ := hv.tup_inv
      obtain ⟨hl, F, hF, hF2⟩ := parts (fun i => us.getD i undef) hm hd
      exact ⟨_, .tup F (by omega) hF, flatF hF2⟩
    | clo f cs =>
      simp only [mat] at h
      rw [Option.map_eq_some_iff] at h
      obtain ⟨ds, hm, rfl⟩ := h
      obtain ⟨us, rfl, hs, hd⟩ := hv.clo_inv
      obtain ⟨hl, F, hF, hF2⟩ := parts (fun i => us.getD i undef) hm hd
      exact ⟨_, .clo F (by omega) hF, flatF hF2⟩

/-- A value that is handed in: what of it is lent. -/
structure LendOk (E : Env) (FP : Nat → List Nat) (st st0 : List (Nat × Blk)) (acc acc' : List Nat) (y : AV) (v : Value) : Prop where
  ok : ∃ (nw : List Nat) (us : List Value), acc' = acc ++ nw ∧ us.length = nw.length ∧ (acc.Nodup → acc'.Nodup) ∧
    (∀ (j b : Nat) (u : Value), nw[j]? = some b → us[j]? = some u → ∃ (α : Type) (sz : Nat) (enc : α → Nat → AV) (xs : Unit → List α) (fx : Bool) (off n : Unit → Nat), look b st = some (.row sz enc xs fx) ∧ off () = 0 ∧ n () = (xs ()).length ∧ Loc E (.ref b off n) u) ∧
    ∀ (sv : Nat → Value) (nb : Nat) (lent : Nat → Prop), (∀ (j : Nat) (u : Value), us[j]? = some u → sv (acc.length + j) = u) → acc'.length ≤ nb → (∀ g, FromOf E FP st0 g → ¬ lent g) → ArgRep E.w sv nb lent y v

theorem memN_false {n : Nat} : ∀ {l : List Nat}, memN n l = false → n ∉ l
  | [], _ => fun h => by cases h
  | m :: r, h => fun hm => by
    rw [memN] at h
    cases e : Nat.beq m n with
    | true => rw [e] at h; cases h
    | false =>
      rw [e] at h
      rcases List.mem_cons.1 hm with rfl | hm
      · rw [Nat.beq_refl] at e; cases e
      · exact memN_false h hm
theorem lendA_ok {E : Env} {FP : Nat → List Nat} (hG : Good E FP) {st st0 : List (Nat × Blk)} (hst : ∀ b k, look b st0 = some k → E.st b = some k) :
    ∀ (d : Nat) (x y : AV) (acc acc' : List Nat) (v : Value), lendA st st0 d x acc = some (y, acc') → wholeA st d x → Loc E x v → LendOk E FP st st0 acc acc' y v
  | 0, x, y, acc, acc', v, h, _, _ => by cases h
  | d + 1, x, y, acc, acc', v, h, hw, hv => by
    have quiet : (match mat st0 4 x with | some y => some (y, acc) | none => none) = some (y, acc') → LendOk E FP st st0 acc acc' y v := fun h => by
      split at h
      · rename_i y' hm
        cases h
        obtain ⟨fp, hd, hf⟩ := mat_from hG hst 4 _ _ hm v hv
        exact ⟨[], [], by simp, rfl, fun h => h, fun j b u hj => by simp at hj, fun sv nb lent _ _ hl => .deep hd (fun g hg => hl g (hf g hg))⟩
      · cases h
    cases x with
    | ref b off n =>
      simp only [lendA] at h
      split at h
      · rename_i α sz enc xs fx hb
        cases e : memN b acc with
        | true => rw [e] at h; cases h
        | false =>
          rw [e, cond_false] at h
          cases h
          simp only [wholeA, hb] at hw
          refine ⟨[b], [v], rfl, rfl, fun hn => ?_, fun j c u hj hu => ?_, fun sv nb lent hs hnb _ => ?_⟩
          · rw [List.nodup_append]
            exact ⟨hn, by simp, fun p hp q hq => by simp at hq; subst hq; exact fun e2 => memN_false e (e2 ▸ hp)⟩
          · cases j with
            | zero => simp at hj hu; subst hj hu; exact ⟨α, sz, enc, xs, fx, off, n, hb, hw.1, hw.2, hv⟩
            | succ j => simp at hj
          · have := hs 0 v rfl
            rw [Nat.add_zero] at this
            rw [← this]
            exact .lent _ (by simp at hnb; omega)
      · cases h
    | agg cs =>
      simp only [lendA] at h
      split at h
      · rename_i p hp
        cases h
        obtain ⟨ys, acc'⟩ := p
        obtain ⟨us, rfl, hs, hd⟩ := hv.agg_inv
        have hwl : wholeL (wholeA st d) cs := hw
        have list : ∀ (l ys : List AV) (acc acc' : List Nat) (f : Nat → Value), lendL (lendA st st0 d) l acc = some (ys, acc') → wholeL (wholeA st d) l → (∀ i x, l[i]? = some x → Loc E x (f i)) →
            ys.length = l.length ∧ ∃ (nw : List Nat) (us : List Value), acc' = acc ++ nw ∧ us.length = nw.length ∧ (acc.Nodup → acc'.Nodup) ∧
              (∀ (j b : Nat) (u : Value), nw[j]? = some b → us[j]? = some u → ∃ (α : Type) (sz : Nat) (enc : α → Nat → AV) (xs : Unit → List α) (fx : Bool) (off n : Unit → Nat), look b st = some (.row sz enc xs fx) ∧ off () = 0 ∧ n () = (xs ()).length ∧ Loc E (.ref b off n) u) ∧
              ∀ (sv : Nat → Value) (nb : Nat) (lent : Nat → Prop), (∀ (j : Nat) (u : Value), us[j]? = some u → sv (acc.length + j) = u) → acc'.length ≤ nb → (∀ g, FromOf E FP st0 g → ¬ lent g) → ∀ i y, ys[i]? = some y → ArgRep E.w sv nb lent y (f i) := by
          intro l
          induction l with
          | nil =>
            intro ys acc acc' f h _ _
            simp only [lendL, Option.some.injEq, Prod.mk.injEq] at h
            obtain ⟨rfl, rfl⟩ := h
            exact ⟨rfl, [], [], by simp, rfl, fun h => h, fun j b u hj => by simp at hj, fun sv nb lent _ _ _ i y hy => by simp at hy⟩
          | cons x l ihl =>
            intro ys acc acc' f h hw hl
            rw [lendL] at h
            split at h
            · rename_i a ha
              split at h
              · rename_i b hb
                simp only [Option.some.injEq, Prod.mk.injEq] at h
                obtain ⟨rfl, rfl⟩ := h
                obtain ⟨a1, a2⟩ := a
                obtain ⟨b1, b2⟩ := b
                obtain ⟨nw, us, e1, e2, e3, e4, e5⟩ := (lendA_ok hG hst d x a1 acc a2 (f 0) ha hw.1 (hl 0 x rfl)).ok
                obtain ⟨l1, nw', us', e1', e2', e3', e4', e5'⟩ := ihl b1 a2 b2 (fun i => f (i + 1)) hb hw.2 (fun i x hx => hl (i + 1) x (by simpa using hx))
                refine ⟨by simp [l1], nw ++ nw', us ++ us', by rw [e1', e1, List.append_assoc], by simp [e2, e2'], fun h => e3' (e3 h), fun j b u hj hu => ?_, fun sv nb lent hs hnb hL i y hy => ?_⟩
                · by_cases hlt : j < nw.length
                  · rw [List.getElem?_append_left hlt] at hj
                    rw [List.getElem?_append_left (by omega)] at hu
                    exact e4 j b u hj hu
                  · rw [List.getElem?_append_right (by omega)] at hj
                    rw [List.getElem?_append_right (by omega), e2] at hu
                    exact e4' _ b u hj hu
                · cases i with
                  | zero =>
                    simp at hy
                    subst hy
                    refine e5 sv nb lent (fun j u hu => hs j u ?_) (Nat.le_trans (by rw [e1', List.length_append]; omega) hnb) hL
                    rw [List.getElem?_append_left (lt_of_get hu)]
                    exact hu
                  | succ i =>
                    refine e5' sv nb lent (fun j u hu => ?_) hnb hL i y (by simpa using hy)
                    have := hs (us.length + j) u (by rw [List.getElem?_append_right (by omega), Nat.add_sub_cancel_left]; exact hu)
                    rw [show a2.length + j = acc.length + (us.length + j) by rw [show a2.length = acc.length + nw.length by have : a2 = acc ++ nw := e1; rw [this, List.length_append], e2]; omega]
                    exact this
              · cases h
            · cases h
        obtain ⟨l1, nw, us2, e1, e2, e3, e4, e5⟩ := list cs ys acc acc' (fun i => us.getD i undef) hp hwl hd
        exact ⟨nw, us2, e1, e2, e3, e4, fun sv nb lent h1 h2 h3 => .agg (by have l1 : ys.length = cs.length := l1; show us.size = ys.length; omega) (e5 sv nb lent h1 h2 h3)⟩
      · cases h
    | _ => exact quiet h
end Go.V

namespace Go.V
open Go Go.RowKit

def SameShape (w w' : World) (g : Nat) : Prop := ∃ cs t cs', w.heap[g]? = some (.cells cs t (0, 0)) ∧ w'.heap[g]? = some (.cells cs' t (0, 0)) ∧ cs'.size = cs.size
inductive WholeR (E : Env) (FP : Nat → List Nat) (b sz : Nat) {α : Type} (xs : List α) : Value → List Nat → Prop
  | none (A : Option Addr) (hx : xs = []) : WholeR E FP b sz xs (.slice A 0 0) []
  | some (g base cap : Nat) (cells : Array Value) (t : TypeId) (ha : E.at_ b = some (g, base)) (hc : 0 < cap) (hn : xs.length ≤ cap) (hg : E.w.heap[g]? = some (.cells cells t (0, 0))) (hr : base + cap * sz ≤ cells.size) : WholeR E FP b sz xs (.slice (some ⟨g, base, none⟩) xs.length cap) (g :: FP b)

theorem whole_ref {E : Env} {FP : Nat → List Nat} {b sz : Nat} {off n : Unit → Nat} {α : Type} {enc : α → Nat → AV} {xs : Unit → List α} {fx : Bool} {v : Value} (hG : Good E FP) (hb : E.st b = some (.row sz enc xs fx)) (h0 : off () = 0) (hn : n () = (xs ()).length) (hl : Loc E (.ref b off n) v) :
    ∃ fp, WholeR E FP b sz (xs ()) v fp ∧ Deep E.w (.sl sz enc xs) v fp ∧ fp.Nodup ∧ ∀ g ∈ fp, g ∈ E.own FP b := by
  cases hl with
  | refl hb2 _ => rw [hb] at hb2; cases hb2
  | ref hb2 hr =>
    rw [hb] at hb2
    cases hb2
    obtain ⟨hle, hr⟩ := hr
    have r := hG.rep b _ hb
    have hnd := hG.nodup b _ hb
    have hown : E.own FP b = ownOf (E.at_ b) (FP b) := rfl
    rw [hown] at hnd ⊢
    generalize hfp : FP b = fpb at r hnd ⊢
    cases r with
    | row0 ha hx =>
      rw [ha] at hr
      obtain ⟨A, rfl⟩ := hr
      exact ⟨[], .none A hx, .sl0 A hx, List.nodup_nil, fun g hg => by cases hg⟩
    | @row _ _ _ _ _ g base cells t F ha hg hrr hc =>
      rw [ha] at hr hnd ⊢
      obtain ⟨A, cap, cs, t', rfl, hnc, hg', hA⟩ := hr
      rw [hg] at hg'
      cases hg'
      rw [h0] at hA
      by_cases hcap : cap = 0
      · have hx : xs () = [] := List.eq_nil_of_length_eq_zero (by omega)
        have e : n () = 0 := by omega
        subst hcap
        rw [e]
        exact ⟨[], .none A hx, .sl0 A hx, List.nodup_nil, fun g hg => by cases hg⟩
      · obtain ⟨rfl, hsz⟩ := hA.resolve_left hcap
        rw [Nat.zero_mul, Nat.add_zero, hn]
        rw [Nat.zero_add] at hsz
        refine ⟨g :: FP b, .some g base cap cells t ha (by omega) (by omega) hg hsz, ?_, by rw [hfp]; exact hnd, fun q hq => by rw [hfp] at hq; exact hq⟩
        rw [hfp]
        exact Deep.sl (w := E.w) (sz := sz) (enc := enc) (xs := xs) (g := g) (off := base) (cap := cap) (cs := cells) (t := t) (fr := (0, 0)) (fun i j => cells.getD (base + i * sz + j) Go.undef) F (by omega) hg hsz
          (fun i x hx j hj => by
            obtain ⟨u, hu, _⟩ := hc i x hx j hj
            rw [Array.getD_eq_getD_getElem?, hu]
            rfl)
          (fun i x hx j hj => by
            obtain ⟨u, hu, hd⟩ := hc i x hx j hj
            rw [Array.getD_eq_getD_getElem?, hu]
            exact hd)

theorem WholeR.back {E E' : Env} {FP : Nat → List Nat} {b sz : Nat} {α : Type} {enc : α → Nat → AV} {xs ys : Unit → List α} {fx : Bool} {v : Value} {fp : List Nat} (h : WholeR E FP b sz (xs ()) v fp) (hr : BlkRep E b (.row sz enc xs fx) (FP b)) (ha : E'.at_ b = E.at_ b)
    (hs : ∀ g, g ∈ E.own FP b → SameShape E.w E'.w g) (hd : Deep E'.w (.sl sz enc ys) v fp) (hl : (ys ()).length = (xs ()).length) : BlkRep E' b (.row sz enc ys fx) (FP b) := by
  generalize hx : xs () = xl at h
  cases h with
  | none A hx0 =>
    have hy : ys () = [] := List.eq_nil_of_length_eq_zero (by rw [hl, hx, hx0]; rfl)
    have hs' : ∀ g base, E.at_ b = Option.some (g, base) → SameShape E.w E'.w g := fun g base e => hs g (by show g ∈ ownOf (E.at_ b) (FP b); rw [e]; exact List.mem_cons_self ..)
    clear hs hd
    generalize FP b = fpb at hr ⊢
    cases hr with
    | row0 ha' _ => exact .row0 (ha.trans ha') hy
    | @row _ _ _ _ _ g base cells t F ha' hg hr' hc =>
      obtain ⟨cs, t1, cs', s1, s2, s3⟩ := hs' g base ha'
      rw [hg] at s1
      cases s1
      rw [← hl]
      exact .row F (ha.trans ha') s2 (by rw [hl]; omega) (fun i x hx j hj => by rw [hy] at hx; simp at hx)
  | some g base cap cells t ha' hc hn hg hrr =>
    have key : ∀ v fpv, Deep E'.w (.sl sz enc ys) v fpv → v = .slice (Option.some ⟨g, base, Option.none⟩) xl.length cap → fpv = g :: FP b → BlkRep E' b (.row sz enc ys fx) (FP b) := by
      intro v fpv hd hv hfp
      cases hd with
      | sl0 A _ =>
        simp only [Value.slice.injEq] at hv
        omega
      | @sl _ _ _ _ g' off' cap' cs t' fr u F' hn' hg' hr' hu' hd' =>
        simp only [Value.slice.injEq, Option.some.injEq, Addr.mk.injEq, and_true] at hv
        obtain ⟨⟨rfl, rfl⟩, _, rfl⟩ := hv
        simp only [List.cons.injEq, true_and] at hfp
        rw [← hfp]
        obtain ⟨cs1, t1, cs', s1, s2, s3⟩ := hs g' (by show g' ∈ ownOf (E.at_ b) (FP b); rw [ha']; exact List.mem_cons_self ..)
        rw [s2] at hg'
        cases hg'
        have hmul := Nat.mul_le_mul_right sz hn'
        exact .row F' (ha.trans ha') s2 (by omega) (fun i x hx j hj => ⟨u i j, hu' i x hx j hj, hd' i x hx j hj⟩)
    exact key _ _ hd rfl rfl

/-- The state behind a call that some rows were lent to. -/
theorem Here.lent {w0 : Base} {w w' : World} {N : Nat} {tm : List (Nat × AV)} {st st' : Nat → Option Blk} {a : Act} {at_ : Nat → Option (Nat × Nat)} {FP : Nat → List Nat} (h : Here w0 N tm st a w at_ FP) {T : Nat → Prop} {lent : Nat → Prop} {pn : Nat → Option Pin}
    (hlent : ∀ g, lent g → ∃ b k, T b ∧ st b = some k ∧ g ∈ (⟨w0, w, at_, st⟩ : Env).own FP b) (hk : Kept ⟨w, lent, pn⟩ w') (hT : ∀ c, ¬ T c → st' c = st c)
    (hT2 : ∀ c, T c → ∃ (α : Type) (sz : Nat) (enc : α → Nat → AV) (xs ys : Unit → List α) (fx : Bool), st c = some (.row sz enc xs fx) ∧ st' c = some (.row sz enc ys fx) ∧ (ys ()).length = (xs ()).length)
    (hrep : ∀ c k', T c → st' c = some k' → BlkRep ⟨w0, w', at_, st'⟩ c k' (FP c)) :
    Here w0 N tm st' a w' at_ FP ∧ ∀ x v, Loc ⟨w0, w, at_, st⟩ x v → Loc ⟨w0, w', at_, st'⟩ x v := by
  have same : ∀ k, k < w.heap.size → ¬ lent k → w'.heap[k]? = w.heap[k]? := hk.block
  have shape : ∀ b k, st b = some k → ∀ g ∈ (⟨w0, w, at_, st⟩ : Env).own FP b, SameShape w w' g := fun b k hb g hg => by
    by_cases hl : lent g
    · exact hk.shape g hl
    · obtain ⟨cs, t, hc⟩ := h.good.fresh b k hb g hg
      exact ⟨cs, t, cs, hc, (same g (heap_lt hc) hl).trans hc, rfl⟩
  have old : ∀ c k, ¬ T c → st c = some k → ∀ g ∈ (⟨w0, w, at_, st⟩ : Env).own FP c, w'.heap[g]? = w.heap[g]? := fun c k hc hk g hg => by
    refine same g (h.good.bound hk g hg) (fun hl => ?_)
    obtain ⟨b, k', hTb, hb, hgb⟩ := hlent g hl
    exact h.good.apart c b k k' hk hb (fun e => hc (e ▸ hTb)) g hg hgb
  have some_of : ∀ c k', st' c = some k' → ∃ k, st c = some k ∧ Alike k k' := fun c k' hc => by
    by_cases ht : T c
    · obtain ⟨α, sz, enc, xs, ys, fx, h1, h2, h3⟩ := hT2 c ht
      rw [h2] at hc
      cases hc
      exact ⟨_, h1, .row h3⟩
    · rw [hT c ht] at hc
      exact ⟨k', hc, Alike.refl _⟩
  have to_ : ∀ c k, st c = some k → ∃ k', st' c = some k' ∧ Alike k k' := fun c k hc => by
    by_cases ht : T c
    · obtain ⟨α, sz, enc, xs, ys, fx, h1, h2, h3⟩ := hT2 c ht
      rw [h1] at hc
      cases hc
      exact ⟨_, h2, .row h3⟩
    · exact ⟨k, (hT c ht).trans hc, Alike.refl _⟩
  have hs : ∀ c k, (⟨w0, w, at_, st⟩ : Env).st c = some k → Stays ⟨w0, w, at_, st⟩ ⟨w0, w', at_, st'⟩ c k := fun c k hc => by
    refine ⟨to_ c k hc, rfl, fun g base cs t ha hg => ?_⟩
    have ha' : at_ c = some (g, base) := ha
    obtain ⟨cs1, t1, cs2, s1, s2, s3⟩ := shape c k hc g (by show g ∈ ownOf (at_ c) (FP c); rw [ha']; exact List.mem_cons_self ..)
    have hg' : w.heap[g]? = some (.cells cs t (0, 0)) := hg
    rw [hg'] at s1
    cases s1
    exact ⟨cs2, s2, s3⟩
  have mv : ∀ x v, Loc ⟨w0, w, at_, st⟩ x v → Loc ⟨w0, w', at_, st'⟩ x v := fun x v hx => hx.move rfl hs
  have hmod : Mod w0 w w' := by
    refine ⟨hk.os, hk.tape, hk.output, hk.size, fun k h1 h2 => same k (Nat.lt_of_lt_of_le h1 h.good.below.size) (fun hl => ?_), fun g cs t hm hg => ?_⟩
    · obtain ⟨b, kb, _, hb, hgb⟩ := hlent k hl
      rcases h.good.base b kb hb k hgb with h3 | h3
      · have h3 : w0.w.heap.size ≤ k := h3; omega
      · exact h2 h3
    · by_cases hl : lent g
      · obtain ⟨cs1, t1, cs2, s1, s2, s3⟩ := hk.shape g hl
        have s1' : w.heap[g]? = _ := s1
        rw [hg] at s1'
        cases s1'
        exact ⟨cs2, s2, s3⟩
      · exact ⟨cs, (same g (heap_lt hg) hl).trans hg, rfl⟩
  refine ⟨⟨⟨h.good.below.mod hmod, fun c k' hc => ?_, fun c k' hc => ?_, fun c k' hc => ?_, fun c c' k k' hc hc' hne => ?_, fun c k' hc => ?_, fun c p hp => ?_⟩, h.defers, h.size, fun t => mv _ _ (h.loc t)⟩, mv⟩
  · by_cases ht : T c
    · exact hrep c k' ht hc
    · have hc' : st c = some k' := (hT c ht).symm.trans hc
      have r := h.good.rep c k' hc'
      refine r.move rfl rfl (fun g base ha => old c k' ht hc' g ?_) (fun q hq => ?_) hs
      · have ha' : at_ c = some (g, base) := ha
        show g ∈ ownOf (at_ c) (FP c)
        rw [ha']
        exact List.mem_cons_self ..
      · have hq' : q ∈ FP c := hq
        have hown : q ∈ (⟨w0, w, at_, st⟩ : Env).own FP c := by
          show q ∈ ownOf (at_ c) (FP c)
          cases hac : at_ c with
          | some p => exact List.mem_cons_of_mem _ hq'
          | none =>
            exfalso
            generalize FP c = fq at r hq'
            cases r with
            | lit ha _ _ => rw [show at_ c = _ from ha] at hac; cases hac
            | row0 _ _ => cases hq'
            | row F ha _ _ _ => rw [show at_ c = _ from ha] at hac; cases hac
        exact old c k' ht hc' q hown
  · obtain ⟨k, hk', _⟩ := some_of c k' hc
    exact h.good.nodup c k hk'
  · obtain ⟨k, hk', _⟩ := some_of c k' hc
    exact h.good.base c k hk'
  · obtain ⟨k1, h1, _⟩ := some_of c k hc
    obtain ⟨k2, h2, _⟩ := some_of c' k' hc'
    exact h.good.apart c c' k1 k2 h1 h2 hne
  · obtain ⟨k, hk', _⟩ := some_of c k' hc
    intro g hg
    obtain ⟨cs, t, cs', s1, s2, s3⟩ := shape c k hk' g hg
    exact ⟨cs', t, s2⟩
  · obtain ⟨p1, p2, α, enc, xs, p3, p4⟩ := h.good.pins c p hp
    have p3 : st c = some (.row p.sz enc xs true) := p3
    refine ⟨p1, p2, ?_⟩
    obtain ⟨k', hk', ha⟩ := to_ c _ p3
    cases ha with
    | row hl => exact ⟨α, enc, _, hk', hl.trans p4⟩
end Go.V

namespace Go.V
open Go Go.RowKit

theorem lendL_ok {E : Env} {FP : Nat → List Nat} (hG : Good E FP) {st st0 : List (Nat × Blk)} (hst : ∀ b k, look b st0 = some k → E.st b = some k) (d : Nat) : ∀ (l ys : List AV) (acc acc' : List Nat) (f : Nat → Value), lendL (lendA st st0 d) l acc = some (ys, acc') → wholeL (wholeA st d) l → (∀ i x, l[i]? = some x → Loc E x (f i)) →
    ys.length = l.length ∧ ∃ (nw : List Nat) (us : List Value), acc' = acc ++ nw ∧ us.length = nw.length ∧ (acc.Nodup → acc'.Nodup) ∧
      (∀ (j b : Nat) (u : Value), nw[j]? = some b → us[j]? = some u → ∃ (α : Type) (sz : Nat) (enc : α → Nat → AV) (xs : Unit → List α) (fx : Bool) (off n : Unit → Nat), look b st = some (.row sz enc xs fx) ∧ off () = 0 ∧ n () = (xs ()).length ∧ Loc E (.ref b off n) u) ∧
      ∀ (sv : Nat → Value) (nb : Nat) (lent : Nat → Prop), (∀ (j : Nat) (u : Value), us[j]? = some u → sv (acc.length + j) = u) → acc'.length ≤ nb → (∀ g, FromOf E FP st0 g → ¬ lent g) → ∀ i y, ys[i]? = some y → ArgRep E.w sv nb lent y (f i)
  | [], ys, acc, acc', f, h, _, _ => by
    simp only [lendL, Option.some.injEq, Prod.mk.injEq] at h
    obtain ⟨rfl, rfl⟩ := h
    exact ⟨rfl, [], [], by simp, rfl, fun h => h, fun j b u hj => by simp at hj, fun sv nb lent _ _ _ i y hy => by simp at hy⟩
  | x :: l, ys, acc, acc', f, h, hw, hl => by
    rw [lendL] at h
    split at h
    · rename_i a ha
      split at h
      · rename_i b hb
        simp only [Option.some.injEq, Prod.mk.injEq] at h
        obtain ⟨rfl, rfl⟩ := h
        obtain ⟨a1, a2⟩ := a
        obtain ⟨b1, b2⟩ := b
        obtain ⟨nw, us, e1, e2, e3, e4, e5⟩ := (lendA_ok hG hst d x a1 acc a2 (f 0) ha hw.1 (hl 0 x rfl)).ok
        obtain ⟨l1, nw', us', e1', e2', e3', e4', e5'⟩ := lendL_ok hG hst d l b1 a2 b2 (fun i => f (i + 1)) hb hw.2 (fun i x hx => hl (i + 1) x (by simpa using hx))
        refine ⟨by simp [l1], nw ++ nw', us ++ us', by rw [e1', e1, List.append_assoc], by simp [e2, e2'], fun h => e3' (e3 h), fun j b u hj hu => ?_, fun sv nb lent hs hnb hL i y hy => ?_⟩
        · by_cases hlt : j < nw.length
          · rw [List.getElem?_append_left hlt] at hj
            rw [List.getElem?_append_left (by omega)] at hu
            exact e4 j b u hj hu
          · rw [List.getElem?_append_right (by omega)] at hj
            rw [List.getElem?_append_right (by omega), e2] at hu
            exact e4' _ b u hj hu
        · cases i with
          | zero =>
            simp at hy
            subst hy
            refine e5 sv nb lent (fun j u hu => hs j u ?_) (Nat.le_trans (by rw [e1', List.length_append]; omega) hnb) hL
            rw [List.getElem?_append_left (lt_of_get hu)]
            exact hu
          | succ i =>
            refine e5' sv nb lent (fun j u hu => ?_) hnb hL i y (by simpa using hy)
            have := hs (us.length + j) u (by rw [List.getElem?_append_right (by omega), Nat.add_sub_cancel_left]; exact hu)
            rw [show a2.length + j = acc.length + (us.length + j) by rw [show a2.length = acc.length + nw.length by have : a2 = acc ++ nw := e1; rw [this, List.length_append], e2]; omega]
            exact this
      · cases h
    · cases h

theorem ArgRep.le {w : World} {sv : Nat → Value} {nb : Nat} {lent : Nat → Prop} {x : AV} {v : Value} (h : ArgRep w sv nb lent x v) : ∀ {y : AV}, LeD x y → ArgRep w sv nb lent y v := by
  induction h with
  | deep h ho => exact fun hle => .deep (hle.deep h) ho
  | lent i hi => intro y hle; cases hle with | same => exact .lent i hi
  | agg hl hd ih =>
    intro y hle
    cases hle with
    | same => exact .agg hl hd
    | agg hl2 h2 =>
      refine .agg (hl.trans hl2.symm) (fun i y hy => ?_)
      obtain ⟨x, hx⟩ := get_of_len hl2 hy
      exact ih i x hx (h2 i x y hx hy)
theorem rowsAt_ok {st : List (Nat × Blk)} : ∀ {acc : List Nat} {bs : List AV}, rowsAt st acc = some bs → bs.length = acc.length ∧ ∀ (j b : Nat), acc[j]? = some b → ∃ (α : Type) (sz : Nat) (enc : α → Nat → AV) (xs : Unit → List α) (fx : Bool), look b st = some (.row sz enc xs fx) ∧ bs[j]? = some (.sl sz enc xs)
  | [], bs, h => by
    simp only [rowsAt, Option.some.injEq] at h
    subst h
    exact ⟨rfl, fun j b hj => by simp at hj⟩
  | c :: acc, bs, h => by
    rw [rowsAt] at h
    split at h
    · rename_i α sz enc xs fx hb
      split at h
      · rename_i l hl
        cases h
        obtain ⟨h1, h2⟩ := rowsAt_ok hl
        refine ⟨by simp [h1], fun j b hj => ?_⟩
        cases j with
        | zero => simp at hj; subst hj; exact ⟨α, sz, enc, xs, fx, hb, rfl⟩
        | succ j => exact h2 j b (by simpa using hj)
      · cases h
    · cases h
theorem setRows_ok : ∀ {acc : List Nat} {outs : List AV} {st st' : List (Nat × Blk)}, setRows acc outs st = some st' → acc.Nodup → (∀ c, c ∉ acc → look c st' = look c st) ∧
    ∀ (j b : Nat), acc[j]? = some b → ∃ (α β : Type) (sz sz' : Nat) (enc : α → Nat → AV) (enc' : β → Nat → AV) (ys : Unit → List α) (xs : Unit → List β) (fx : Bool), outs[j]? = some (.sl sz enc ys) ∧ look b st = some (.row sz' enc' xs fx) ∧ look b st' = some (.row sz enc ys fx)
  | [], outs, st, st', h, _ => by
    cases outs with
    | nil => simp only [setRows, Option.some.injEq] at h; subst h; exact ⟨fun _ _ => rfl, fun j b hj => by simp at hj⟩
    | cons => simp [setRows] at h
  | c :: acc, outs, st, st', h, hn => by
    cases outs with
    | nil => simp [setRows] at h
    | cons x l =>
      cases x <;> first | (simp [setRows] at h; done) | skip
      rename_i α sz enc ys
      simp only [setRows] at h
      split at h
      · rename_i β sz' enc' xs fx hb
        obtain ⟨hc, hn⟩ := List.nodup_cons.1 hn
        obtain ⟨h1, h2⟩ := setRows_ok h hn
        have lk : ∀ b, look b (setB c (.row sz enc ys fx) st) = if b = c then some (.row sz enc ys fx) else look b st := fun b => by
          rw [look_setB, hb]
          cases e : Nat.beq c b with
          | true => have := Nat.eq_of_beq_eq_true e; rw [if_pos this.symm]; rfl
          | false => rw [if_neg (fun h => by subst h; rw [Nat.beq_refl] at e; cases e)]; rfl
        refine ⟨fun b hb' => ?_, fun j b hj => ?_⟩
        · rw [h1 b (fun h => hb' (List.mem_cons_of_mem _ h)), lk, if_neg (fun h => hb' (by rw [h]; exact List.mem_cons_self ..))]
        · cases j with
          | zero =>
            simp at hj
            subst hj
            exact ⟨α, β, sz, sz', enc, enc', ys, xs, fx, rfl, hb, by rw [h1 c hc, lk, if_pos rfl]⟩
          | succ j =>
            have hj' : acc[j]? = some b := by simpa using hj
            obtain ⟨α', β', sz2, sz2', enc2, enc2', ys2, xs2, fx2, h3, h4, h5⟩ := h2 j b hj'
            have hne : b ≠ c := fun e => hc (e ▸ List.mem_of_getElem? hj')
            rw [lk, if_neg hne] at h4
            exact ⟨α', β', sz2, sz2', enc2, enc2', ys2, xs2, fx2, by simpa using h3, h4, h5⟩
      · cases h
theorem look_dropAll {c : Nat} : ∀ {l : List Nat} {st : List (Nat × Blk)} {k : Blk}, look c (dropAll l st) = some k → look c st = some k ∧ c ∉ l
  | [], st, k, h => ⟨h, fun h => by cases h⟩
  | b :: l, st, k, h => by
    obtain ⟨h1, h2⟩ := look_dropAll (l := l) h
    obtain ⟨h3, h4⟩ := look_drop_some h1
    exact ⟨h4, fun hm => by rcases List.mem_cons.1 hm with e | hm; exact h3 e; exact h2 hm⟩
theorem memN_true {n : Nat} : ∀ {l : List Nat}, memN n l = true → n ∈ l
  | [], h => by cases h
  | m :: r, h => by
    rw [memN] at h
    cases e : Nat.beq m n with
    | true => have := Nat.eq_of_beq_eq_true e; subst this; exact List.mem_cons_self ..
    | false => rw [e] at h; exact List.mem_cons_of_mem _ (memN_true h)

section
variable {P : Program} {Q : AV → Prop} {As : List (St → Prop)} {mu : Nat → Bool} {nid : Nat} {o : Oper}

theorem m_callm {c : Go.Call} {f : Nat} {s : St} {K : AV → St → Tree} {w0 : Base} {w : World} {N : Nat} {a : Act} (ho : o.op = .call c) (hcal : c.callee = .value (.func f)) (h : Sat P Q As (mop (.callm f c.args.toList) s nid K))
    (hr : Rel w0 N s.tm (fun b => look b s.st) a w) (hfr : ∀ b k, look b s.st = some k → b < nid) : MD P Q As o s nid K w0 N a w := by
  obtain ⟨at_, FP, hh⟩ := hr
  simp only [mop] at h
  split at h
  · rename_i p hp
    obtain ⟨as, acc⟩ := p
    cases hall : acc.all (fun b => memN b (refsL (refsA 4) (c.args.toList.map (ev s.tm)))) with
    | false => simp only [hall, Bool.not_false, cond_true] at h; exact (no_bad h).elim
    | true =>
      simp only [hall, Bool.not_true, cond_false] at h
      split at h
      · rename_i bs hbs
        cases h with
        | need hw h =>
          cases h with
          | @callm _ _ _ cargs _ cbs outs ret _ hF hl ha hlb hb hcont =>
            have hG := hh.good
            have hvals : ∀ i x, (c.args.toList.map (ev s.tm))[i]? = some x → Loc ⟨w0, w, at_, fun b => look b s.st⟩ x ((c.args.map a.eval).getD i undef) := fun i x hx => by
              rw [List.getElem?_map, Option.map_eq_some_iff] at hx
              obtain ⟨z, hz, rfl⟩ := hx
              rw [map_getD hz]
              exact hh.ev z
            obtain ⟨l1, nw, us, e1, e2, e3, e4, e5⟩ := lendL_ok hG (st := s.st) (st0 := dropAll (refsL (refsA 4) (c.args.toList.map (ev s.tm))) s.st) (fun b k hk => (look_dropAll hk).1) 4 _ _ _ _ (fun i => (c.args.map a.eval).getD i undef) hp hw hvals
            rw [List.nil_append] at e1
            subst e1
            have hnd : acc.Nodup := e3 List.nodup_nil
            obtain ⟨r1, r2⟩ := rowsAt_ok hbs
            -- the footprint of each
            have hex : ∀ (j : Nat), ∃ fpj : List Nat, ∀ (b : Nat) (u : Value), acc[j]? = some b → us[j]? = some u → ∀ (α : Type) (sz : Nat) (enc : α → Nat → AV) (xs : Unit → List α) (fx : Bool), look b s.st = some (.row sz enc xs fx) →
                WholeR ⟨w0, w, at_, fun b => look b s.st⟩ FP b sz (xs ()) u fpj ∧ Deep w (.sl sz enc xs) u fpj ∧ fpj.Nodup ∧ ∀ g ∈ fpj, g ∈ (⟨w0, w, at_, fun b => look b s.st⟩ : Env).own FP b := fun j => by
              cases ej : acc[j]? with
              | none => exact ⟨[], fun b u hb => by cases hb⟩
              | some b =>
                have hj : j < acc.length := lt_of_get ej
                have eu : us[j]? = some (us[j]'(by omega)) := List.getElem?_eq_getElem (by omega)
                obtain ⟨α, sz, enc, xs, fx, off, n, h1, h2, h3, h4⟩ := e4 j b _ ej eu
                obtain ⟨fpj, w1, w2, w3, w4⟩ := whole_ref hG h1 h2 h3 h4
                refine ⟨fpj, fun b' u' hb' hu' α' sz' enc' xs' fx' hk => ?_⟩
                cases hb'
                rw [eu] at hu'
                cases hu'
                rw [h1] at hk
                cases hk
                exact ⟨w1, w2, w3, w4⟩
            obtain ⟨fp, hfp⟩ := Classical.axiomOfChoice hex
            let sv : Nat → Value := fun j => us.getD j undef
            have hsv : ∀ j, j < acc.length → us[j]? = some (sv j) := fun j hj => by
              show us[j]? = some (us.getD j undef)
              have : j < us.length := by omega
              simp [List.getD, this]
            have at_j : ∀ (j : Nat), j < acc.length → ∃ (b : Nat) (α : Type) (sz : Nat) (enc : α → Nat → AV) (xs : Unit → List α) (fx : Bool), acc[j]? = some b ∧ look b s.st = some (.row sz enc xs fx) ∧ bs[j]? = some (.sl sz enc xs) ∧
                WholeR ⟨w0, w, at_, fun b => look b s.st⟩ FP b sz (xs ()) (sv j) (fp j) ∧ Deep w (.sl sz enc xs) (sv j) (fp j) ∧ (fp j).Nodup ∧ ∀ g ∈ fp j, g ∈ (⟨w0, w, at_, fun b => look b s.st⟩ : Env).own FP b := fun j hj => by
              have ej := List.getElem?_eq_getElem hj
              obtain ⟨α, sz, enc, xs, fx, h1, h2⟩ := r2 j _ ej
              exact ⟨_, α, sz, enc, xs, fx, ej, h1, h2, hfp j _ _ ej (hsv j hj) α sz enc xs fx h1⟩
            have hlen : cbs.length = acc.length := by omega
            have inj : ∀ (i j b : Nat), acc[i]? = some b → acc[j]? = some b → i = j := fun i j b hi hj => by
              have h1 := lt_of_get hi
              have h2 := lt_of_get hj
              rw [List.getElem?_eq_getElem h1] at hi
              rw [List.getElem?_eq_getElem h2] at hj
              exact (List.getElem_inj hnd).1 ((Option.some.inj hi).trans (Option.some.inj hj).symm)
            have lentOwn : ∀ g, (∃ i, i < cbs.length ∧ g ∈ fp i) → ∃ b k, b ∈ acc ∧ look b s.st = some k ∧ g ∈ (⟨w0, w, at_, fun b => look b s.st⟩ : Env).own FP b := fun g ⟨i, hi, hg⟩ => by
              obtain ⟨b, α, sz, enc, xs, fx, h1, h2, h3, h4, h5, h6, h7⟩ := at_j i (by omega)
              exact ⟨b, _, List.mem_of_getElem? h1, h2, h7 g hg⟩
            have notLent : ∀ g, FromOf ⟨w0, w, at_, fun b => look b s.st⟩ FP (dropAll (refsL (refsA 4) (c.args.toList.map (ev s.tm))) s.st) g → ¬ ∃ i, i < cbs.length ∧ g ∈ fp i := fun g hg hlent => by
              obtain ⟨b, k, hb1, hb2, hb3⟩ := lentOwn g hlent
              rcases hg with ⟨g1, g2⟩ | ⟨b', g1, g2⟩
              · rcases hG.base b k hb2 g hb3 with h | h
                · have h : w0.w.heap.size ≤ g := h
                  have g1 : g < w0.w.heap.size := g1
                  omega
                · exact g2 h
              · cases e : look b' (dropAll (refsL (refsA 4) (c.args.toList.map (ev s.tm))) s.st) with
                | none => exact g1 e
                | some k' =>
                  obtain ⟨d1, d2⟩ := look_dropAll e
                  have hm := memN_true (List.all_eq_true.1 hall b hb1)
                  exact hG.apart b b' k k' hb2 d1 (fun e => d2 (e ▸ hm)) g hb3 g2
            have hrun : (execOp a.eval o).run P w = .ok (.enter f (c.args.map a.eval)) w := by
              simp only [execOp, ho, resolve, hcal, Act.eval, Deferred.ofValue, Sem.run_bind, Sem.run_pure, Result.andThen_ok, invoke, call_enter hF.1]
              simp
            refine .inr ⟨f, c.args.map a.eval, w, hrun, (hF.2.2 w (c.args.map a.eval) sv fp (fun i B hB => ?_) (fun i j hi hj hne g hg hg' => ?_) (by have : as.length = (c.args.toList.map (ev s.tm)).length := l1; simp at this ⊢; omega) (fun i y hy => ?_)).mono (fun e w' hpost => ?_)⟩
            · obtain ⟨b, α, sz, enc, xs, fx, h1, h2, h3, h4, h5, h6, h7⟩ := at_j i (by have := lt_of_get hB; omega)
              exact ⟨(hb i _ _ h3 hB).deep h5, h6, fun g hg => hG.fresh b _ h2 g (h7 g hg)⟩
            · obtain ⟨b, α, sz, enc, xs, fx, h1, h2, h3, h4, h5, h6, h7⟩ := at_j i (by omega)
              obtain ⟨b', α', sz', enc', xs', fx', h1', h2', h3', h4', h5', h6', h7'⟩ := at_j j (by omega)
              exact hG.apart b b' _ _ h2 h2' (fun e => hne (inj i j b h1 (e ▸ h1'))) g (h7 g hg) (h7' g hg')
            · obtain ⟨x, hx⟩ := get_of_len hl hy
              refine (e5 sv cbs.length _ (fun j u hu => ?_) (by omega) notLent i x hx).le (ha i x y hx hy)
              have := hsv j (by have := lt_of_get hu; omega)
              rw [hu] at this
              simp only [List.length_nil, Nat.zero_add]
              exact (Option.some.inj this).symm
            · obtain ⟨v, rfl, hout, hret, hk⟩ := hpost
              refine ⟨v, rfl, ?_⟩
              dsimp only at hcont
              split at hcont
              · rename_i st' hst'
                obtain ⟨s1, s2⟩ := setRows_ok hst' hnd
                have rowj : ∀ (j b : Nat), acc[j]? = some b → ∃ (α : Type) (sz : Nat) (enc : α → Nat → AV) (xs ys : Unit → List α) (fx : Bool), look b s.st = some (.row sz enc xs fx) ∧ look b st' = some (.row sz enc ys fx) ∧ (ys ()).length = (xs ()).length ∧ outs[j]? = some (.sl sz enc ys) ∧ bs[j]? = some (.sl sz enc xs) := fun j b hj => by
                  have hjl := lt_of_get hj
                  obtain ⟨α, sz, enc, xs, fx, h1, h2⟩ := r2 j b hj
                  obtain ⟨α', β', sz1, sz2, enc1, enc2, ys, xs2, fx2, h3, h4, h5⟩ := s2 j b hj
                  rw [h1] at h4
                  cases h4
                  have hcb : j < cbs.length := by omega
                  have hcb' := List.getElem?_eq_getElem hcb
                  have hle := hb j _ _ h2 hcb'
                  have hsame := hF.2.1.2 j _ _ hcb' h3
                  generalize cbs[j] = cb at hle hsame
                  cases hle with
                  | same =>
                    cases hsame with
                    | mk hlen => exact ⟨_, _, _, _, _, _, h1, h5, hlen, h3, h2⟩
                  | sl hxs =>
                    cases hsame with
                    | mk hlen => exact ⟨_, _, _, _, _, _, h1, h5, by rw [hlen, hxs], h3, h2⟩
                have hT : ∀ b, b ∈ acc → ∃ j, acc[j]? = some b := fun b hb => List.getElem?_of_mem hb
                obtain ⟨hh2, mv⟩ := hh.lent (st' := fun b => look b st') (w' := w') (T := fun b => b ∈ acc) (lent := fun g => ∃ i, i < cbs.length ∧ g ∈ fp i) (fun g hg => by
                    obtain ⟨b, k, h1, h2, h3⟩ := lentOwn g hg
                    exact ⟨b, k, h1, h2, h3⟩) hk (fun c hc => s1 c hc) (fun c hc => by
                    obtain ⟨j, hj⟩ := hT c hc
                    obtain ⟨α, sz, enc, xs, ys, fx, h1, h2, h3, _⟩ := rowj j c hj
                    exact ⟨α, sz, enc, xs, ys, fx, h1, h2, h3⟩) (fun c k' hc hk' => by
                    obtain ⟨j, hj⟩ := hT c hc
                    obtain ⟨α, sz, enc, xs, ys, fx, h1, h2, h3, h4, h5⟩ := rowj j c hj
                    have hk2 : look c st' = some k' := hk'
                    rw [h2] at hk2
                    cases hk2
                    obtain ⟨w1, w2, w3, w4⟩ := hfp j c _ hj (hsv j (lt_of_get hj)) α sz enc xs fx h1
                    exact w1.back (E' := ⟨w0, w', at_, fun b => look b st'⟩) (hG.rep c _ h1) rfl (fun g hg => by
                      by_cases hl : ∃ i, i < cbs.length ∧ g ∈ fp i
                      · exact hk.shape g hl
                      · obtain ⟨cs, t, hcs⟩ := hG.fresh c _ h1 g hg
                        exact ⟨cs, t, cs, hcs, (hk.block g (heap_lt hcs) hl).trans hcs, rfl⟩) (hout j _ h4) h3)
                have keys : ∀ b k, look b st' = some k → b < nid := fun b k hb => by
                  by_cases hm : b ∈ acc
                  · obtain ⟨j, hj⟩ := hT b hm
                    obtain ⟨α, sz, enc, xs, ys, fx, h1, _⟩ := rowj j b hj
                    exact hfr b _ h1
                  · rw [s1 b hm] at hb
                    exact hfr b k hb
                split at hcont
                · rename_i x
                  cases hle : Nat.ble (imp 3 x nid).2.2 (nid + 16) with
                  | false => simp only [hle, cond_false] at hcont; exact (no_bad hcont).elim
                  | true =>
                    simp only [hle, cond_true] at hcont
                    have hle := Nat.le_of_ble_eq_true hle
                    cases hret with
                    | val hd hn hf =>
                      obtain ⟨at1, FP1, i1, i2, _⟩ := (imp_ok 3 x nid w0 w' N s.tm a (fun b => look b st') at_ FP v _ hh2 hd hn (fun g hg => ⟨hG.below.free (hf g hg).1, (hf g hg).2⟩)
                        (fun c k hc g hg hg' => by
                          have hc' : ∃ k0, look c s.st = some k0 := by
                            by_cases hm : c ∈ acc
                            · obtain ⟨j, hj⟩ := hT c hm
                              obtain ⟨α, sz, enc, xs, ys, fx, h1, _⟩ := rowj j c hj
                              exact ⟨_, h1⟩
                            · exact ⟨k, (s1 c hm).symm.trans hc⟩
                          obtain ⟨k0, hk0⟩ := hc'
                          have h1 := hG.bound (show (⟨w0, w, at_, fun b => look b s.st⟩ : Env).st c = some k0 from hk0) g hg'
                          have h1 : g < w.heap.size := h1
                          have := (hf g hg).1
                          omega)
                        (fun b hb1 hb2 => by
                          show look b st' = none
                          cases e : look b st' with
                          | none => rfl
                          | some k => have := keys b k e; omega)).ok
                      refine ⟨_, _, hcont, rfl, fun b k hb => ?_, at1, FP1, i1.congr (fun _ => rfl) (fun b => ?_), ?_⟩
                      · have hb' : look b ((imp 3 x nid).2.1 ++ st') = some k := hb
                        rw [look_append] at hb'
                        split at hb'
                        · rename_i k' hk'
                          have := ((imp_ids 3 x nid).2 _ (look_mem hk')).2
                          have : b < (imp 3 x nid).2.2 := this
                          omega
                        · have := keys b k hb'; omega
                      · show (match look b (imp 3 x nid).2.1 with | some k => some k | none => look b st') = look b ((imp 3 x nid).2.1 ++ st')
                        rw [look_append]
                        cases look b (imp 3 x nid).2.1 <;> rfl
                      · have e : (fun b => look b ((imp 3 x nid).2.1 ++ st')) = addAll (imp 3 x nid).2.1 (fun b => look b st') := by
                          funext b
                          show look b ((imp 3 x nid).2.1 ++ st') = (match look b (imp 3 x nid).2.1 with | some k => some k | none => look b st')
                          rw [look_append]
                          cases look b (imp 3 x nid).2.1 <;> rfl
                        show Loc ⟨w0, w', at1, fun b => look b ((imp 3 x nid).2.1 ++ st')⟩ _ _
                        rw [e]
                        exact i2
                · rename_i i k1 off k2 n
                  split at hcont
                  · rename_i b hbi
                    cases hret with
                    | @view _ _ _ _ _ o m α sz enc xs _ hbb ho hm hv =>
                      obtain ⟨α0, sz0, enc0, xs0, ys0, fx0, h1, h2, h3, h4, h5⟩ := rowj i b hbi
                      have hsz : sz0 = sz := by
                        have hle := hb i _ _ h5 hbb
                        cases hle <;> rfl
                      subst hsz
                      refine ⟨_, _, hcont, rfl, fun b k hb => by have := keys b k hb; omega, at_, FP, hh2, .ref h2 ?_⟩
                      obtain ⟨w1, w2, w3, w4⟩ := hfp i b _ hbi (hsv i (lt_of_get hbi)) α0 sz0 enc0 xs0 fx0 h1
                      dsimp only
                      rw [ho, hm, Int.toNat_natCast, Int.toNat_natCast, h3]
                      obtain ⟨A, len, cap, q1, q2, A', cap', rfl, q3, q4⟩ := hv
                      rw [q1] at w1
                      generalize hfi : fp i = fpi at w1
                      generalize hx0 : xs0 () = xl at w1
                      cases w1 with
                      | none A hx =>
                        have hm0 : m = 0 := by omega
                        have ho0 : o = 0 := by omega
                        have hc0 : cap' = 0 := by rcases q4 with h | ⟨h, _⟩ <;> omega
                        subst hm0 ho0 hc0
                        cases hat : at_ b with
                        | none => exact .ofNone hat (by omega)
                        | some pl =>
                          obtain ⟨g, base⟩ := pl
                          have hown : g ∈ (⟨w0, w', at_, fun b => look b st'⟩ : Env).own FP b := by
                            show g ∈ ownOf (at_ b) (FP b)
                            rw [hat]
                            exact List.mem_cons_self ..
                          obtain ⟨cs, t, hcs⟩ := hh2.good.fresh b _ h2 g hown
                          exact .ofSome hat (by omega) (Nat.le_refl _) hcs (.inl rfl)
                      | some g base cap2 cells t hat hc hn hg hr =>
                        have hat' : at_ b = some (g, base) := hat
                        have hown : g ∈ (⟨w0, w', at_, fun b => look b st'⟩ : Env).own FP b := by
                          show g ∈ ownOf (at_ b) (FP b)
                          rw [hat']
                          exact List.mem_cons_self ..
                        obtain ⟨cs, t', hcs⟩ := hh2.good.fresh b _ h2 g hown
                        refine .ofSome hat' (by omega) q3 hcs ?_
                        rcases q4 with h | ⟨_, g2, o2, cs2, t2, z1, z2, z3, z4⟩
                        · exact .inl h
                        · simp only [Option.some.injEq, Addr.mk.injEq, and_true] at z1
                          obtain ⟨rfl, rfl⟩ := z1
                          have hcs' : w'.heap[g]? = some (.cells cs t' (0, 0)) := hcs
                          rw [hcs'] at z3
                          cases z3
                          exact .inr ⟨z2, z4⟩
                  · exact (no_bad hcont).elim
                · exact (no_bad hcont).elim
              · exact (no_bad hcont).elim
      · exact (no_bad h).elim
  · exact (no_bad h).elim
end
end Go.V

namespace Go.V
open Go Go.RowKit
section
variable {P : Program} {Q : AV → Prop} {As : List (St → Prop)} {mu : Nat → Bool} {nid : Nat} {o : Oper}

theorem exp_cellOk : ∀ (d : Nat) (st st' : List (Nat × Blk)) (x y : AV), exp d st x = some (y, st') → cellOk y = true → cellOk x = true := by
  intro d st st' x y h hy
  cases x <;> first | rfl | skip
  · cases d <;> simp [exp] at h
  · cases d <;> simp [exp] at h
  · cases d <;> simp [exp] at h
  · cases d with
    | zero => simp [exp] at h
    | succ d =>
      rw [exp] at h
      split at h
      · simp only [Option.some.injEq, Prod.mk.injEq] at h
        rw [← h.1] at hy
        cases hy
      · cases h
  · cases d with
    | zero => simp [exp] at h
    | succ d =>
      rw [exp] at h
      split at h
      · simp only [Option.some.injEq, Prod.mk.injEq] at h
        rw [← h.1] at hy
        cases hy
      · cases h
theorem expL_cellOk {d : Nat} : ∀ (l ys : List AV) (st st' : List (Nat × Blk)), expL (exp d) st l = some (ys, st') → ys.all cellOk = true → l.all cellOk = true
  | [], _, _, _, _, _ => rfl
  | x :: l, ys, st, st', h, hy => by
    rw [expL] at h
    split at h
    · rename_i a ha
      split at h
      · rename_i b hb
        simp only [Option.some.injEq, Prod.mk.injEq] at h
        obtain ⟨rfl, rfl⟩ := h
        simp only [List.all_cons, Bool.and_eq_true] at hy ⊢
        exact ⟨exp_cellOk d _ _ _ _ ha hy.1, expL_cellOk l _ _ _ hb hy.2⟩
      · cases h
    · cases h

/-- What an operation that writes is. -/
theorem mut_key {m : MOp} (hc : compOp P mu o.op = some m) (hm : isMut m = true) :
    (∃ t x y n, o.op = .store t x y ∧ sizeOf? P t = some n ∧ 0 < n ∧ m = .sto x y n) ∨ (∃ x y size bytes, AppInfo P o x y size bytes ∧ m = .app x y size bytes) ∨ ∃ c f, o.op = .call c ∧ c.callee = .value (.func f) ∧ m = .callm f c.args.toList := by
  cases ho : o.op with
  | store t x y =>
    simp only [ho, compOp, Option.bind_eq_some_iff] at hc
    obtain ⟨n, hn, hc⟩ := hc
    split at hc
    · cases hc
    · cases hc
      exact .inl ⟨t, x, y, n, rfl, hn, by omega, rfl⟩
  | call c =>
    simp only [ho, compOp] at hc
    split at hc
    · split at hc
      · split at hc <;> first | (cases hc; cases hm; done) | (cases hc; done)
      · cases hc
    · split at hc <;> first | (cases hc; cases hm; done) | (cases hc; done)
    · split at hc <;> first | (cases hc; cases hm; done) | (cases hc; done)
    · rename_i hcal
      split at hc
      · rename_i t u x y ht ha
        simp only [Option.bind_eq_some_iff] at hc
        obtain ⟨e, he, i, hi, zs, hz, hc⟩ := hc
        split at hc
        · rename_i e' hu
          split at hc
          · rename_i hh
            cases hc
            refine .inr (.inl ⟨x, y, i.size, i.bytes, ⟨?_⟩, rfl⟩)
            have he' : P.underlying t = some (.slice e) := by
              unfold elem? at he
              split at he
              · rename_i hu'; cases he; exact hu'
              · cases he
            unfold zero? at hz
            rw [hi, Option.bind_some, Option.map_eq_some_iff] at hz
            obtain ⟨z, hz, hzs⟩ := hz
            refine ⟨c, t, u, e, e', i, z, ho, hcal, ?_, ?_, he', hu, hi, hz, rfl, rfl, ?_, hh.2.1, hh.2.2.1, hh.2.2.2⟩
            · apply Array.ext'; exact ht
            · apply Array.ext'; exact ha
            · have := hh.1; rw [← hzs] at this; simpa using this
          · cases hc
        · cases hc
      · cases hc
    · split at hc <;> first | (cases hc; cases hm; done) | (cases hc; exact .inr (.inr ⟨c, _, rfl, ‹_›, rfl⟩))
    · cases hc; cases hm
    · cases hc
  | unOp u t x => cases u <;> simp only [ho, compOp, Option.some.injEq] at hc <;> first | (cases hc; done) | (subst hc; cases hm)
  | binOp op t x y t' =>
    simp only [ho, compOp] at hc
    split at hc
    · rw [Option.bind_eq_some_iff] at hc
      obtain ⟨ks, _, hc⟩ := hc
      split at hc <;> first | (cases hc; cases hm) | cases hc
    · cases hc; cases hm
    · cases hc; cases hm
    · cases hc; cases hm
    · cases hc; cases hm
    · cases hc
  | makeFunc f first caps =>
    cases f <;> simp only [ho, compOp] at hc <;> first | (cases hc; done) | (split at hc <;> first | (cases hc; cases hm) | cases hc)
  | _ =>
    simp only [ho, compOp] at hc
    first
      | (cases hc; done)
      | (simp only [Option.some.injEq] at hc; subst hc; cases hm; done)
      | (simp only [Option.map_eq_some_iff] at hc; obtain ⟨_, _, rfl⟩ := hc; cases hm; done)
      | (simp only [Option.bind_eq_some_iff, Option.map_eq_some_iff] at hc; obtain ⟨_, _, _, _, rfl⟩ := hc; cases hm; done)
      | (simp only [Option.bind_eq_some_iff] at hc; obtain ⟨_, _, hc⟩ := hc; split at hc <;> first | (cases hc; cases hm; done) | (cases hc; done))
      | (simp only [Option.bind_eq_some_iff] at hc; obtain ⟨_, _, _, _, hc⟩ := hc; split at hc <;> first | (cases hc; cases hm; done) | (cases hc; done))
      | (simp only [Option.bind_eq_some_iff] at hc; obtain ⟨_, _, _, _, _, _, hc⟩ := hc; split at hc <;> first | (cases hc; cases hm; done) | (cases hc; done))
      | (split at hc <;> first
          | (cases hc; cases hm; done)
          | (cases hc; done)
          | (simp only [Option.map_eq_some_iff] at hc; obtain ⟨_, _, rfl⟩ := hc; cases hm; done)
          | (simp only [Option.bind_eq_some_iff, Option.map_eq_some_iff] at hc; obtain ⟨_, _, _, _, _, _, rfl⟩ := hc; cases hm; done))

theorem sat_need {p : Unit → Prop} {c : Unit → Tree} (h : Sat P Q As (.need p c)) : p () ∧ Sat P Q As (c ()) := by
  cases h with
  | need h1 h2 => exact ⟨h1, h2⟩
theorem sat_typ {cells : List AV} {c : (α : Type) → (enc : α → Nat → AV) → α → Tree} (h : Sat P Q As (.typ cells c)) : ∃ α enc z, (∀ (j : Nat) (x : AV), cells[j]? = some x → LeD x (enc z j)) ∧ Sat P Q As (c α enc z) := by
  cases h with
  | typ enc z h1 h2 => exact ⟨_, enc, z, h1, h2⟩
theorem sat_typed {α : Type} {sz : Nat} {enc : α → Nat → AV} {cells : List AV} {c : α → Tree} (h : Sat P Q As (.typed sz enc cells c)) : ∃ z, (∀ (j : Nat) (x : AV), cells[j]? = some x → LeD x (enc z j)) ∧ Sat P Q As (c z) := by
  cases h with
  | typed z h1 h2 => exact ⟨z, h1, h2⟩
theorem sat_idx {α : Type} {xs : Unit → List α} {i : Unit → Nat} {c : α → Tree} (h : Sat P Q As (.idx xs i c)) : ∃ x, (xs ())[i ()]? = some x ∧ Sat P Q As (c x) := by
  cases h with
  | idx h0 h1 => exact ⟨_, List.getElem?_eq_getElem h0, h1 _ (List.getElem?_eq_getElem h0)⟩
theorem beq_ne {b c : Nat} (h : (!(Nat.beq b c)) = true) : b ≠ c := fun e => by subst e; rw [Nat.beq_refl] at h; cases h
theorem and3 {a b : Bool} (h : (a && b) = true) : a = true ∧ b = true := by simpa using h

theorem comp_mut {m : MOp} {s : St} {K : AV → St → Tree} {w0 : Base} {w : World} {N : Nat} {a : Act} (hc : compOp P mu o.op = some m) (hm : isMut m = true) (h : Sat P Q As (mop m s nid K))
    (hr : Rel w0 N s.tm (fun b => look b s.st) a w) (hfr : ∀ b k, look b s.st = some k → b < nid) : MD P Q As o s nid K w0 N a w := by
  rcases mut_key hc hm with ⟨t, x, y, n, ho, hn, h0, rfl⟩ | ⟨x, y, size, bytes, hI, rfl⟩ | ⟨c, f, ho, hcal, rfl⟩
  · simp only [mop] at h
    split at h
    · rename_i b j hx
      split at h
      · rename_i sz cs hb
        cases e : (Nat.beq (cellsOf (ev s.tm y)).length n && Nat.ble (j + n) cs.length && (cellsOf (ev s.tm y)).all cellOk) with
        | false => rw [e, cond_false] at h; exact (no_bad h).elim
        | true =>
          rw [e, cond_true] at h
          obtain ⟨e1, e3⟩ := and3 e
          obtain ⟨e1, e2⟩ := and3 e1
          exact m_sto_ptr ho hn h0 hx hb (Nat.eq_of_beq_eq_true e1) (Nat.le_of_ble_eq_true e2) e3 h hr hfr
      · exact (no_bad h).elim
    · rename_i b i j hx
      split at h
      · rename_i α sz enc xs fx hb
        split at h
        · rename_i p hp
          obtain ⟨ys, rest⟩ := p
          cases e : (Nat.beq ys.length n && Nat.ble (j + n) sz && ys.all cellOk) with
          | false => simp only [e, cond_false] at h; exact (no_bad h).elim
          | true =>
            simp only [e, cond_true] at h
            obtain ⟨e1, e3⟩ := and3 e
            obtain ⟨e1, e2⟩ := and3 e1
            obtain ⟨z, hz, h⟩ := sat_idx h
            cases e5 : (bif fx then ys.all flat && (List.range n).all (fun q => flat (enc z (j + q))) else true) with
            | false => simp only [e5, Bool.not_false, cond_true] at h; exact (no_bad h).elim
            | true =>
              simp only [e5, Bool.not_true, cond_false] at h
              obtain ⟨z', hty, h⟩ := sat_typed h
              refine m_sto_eptr ho hn h0 hx hb hp (Nat.eq_of_beq_eq_true e1) (Nat.le_of_ble_eq_true e2) hz (expL_cellOk _ _ _ _ hp e3) (fun hf => ?_) hty h hr hfr
              subst hf
              rw [cond_true] at e5
              obtain ⟨e6, e7⟩ := and3 e5
              refine ⟨e6, fun q h1 h2 => ?_⟩
              have := List.all_eq_true.1 e7 (q - j) (List.mem_range.2 (by omega))
              rwa [show j + (q - j) = q by omega] at this
        · exact (no_bad h).elim
      · exact (no_bad h).elim
    · exact (no_bad h).elim
  · have hsl : ∀ {α : Type} {z : Nat} {enc : α → Nat → AV} {ys : Unit → List α}, ev s.tm y = .sl z enc ys → ∀ at_ FP, Here w0 N s.tm (fun b => look b s.st) a w at_ FP → ∃ fp, Deep w (.sl z enc ys) (a.eval y) fp := fun e at_ FP hh => by
      have hl := hh.ev y
      rw [e] at hl
      cases hl with
      | sl hd => exact ⟨_, hd.under hh.good.below⟩
    have hrf : ∀ {α : Type} {z : Nat} {enc : α → Nat → AV} {xs : Unit → List α} {fx : Bool} {b : Nat} {off n : Unit → Nat}, ev s.tm y = .ref b off n → look b s.st = some (.row z enc xs fx) → ∀ at_ FP, Here w0 N s.tm (fun b => look b s.st) a w at_ FP →
        (∃ fp, Deep w (.sl z enc (fun _ => ((xs ()).drop (off ())).take (n ()))) (a.eval y) fp) ∧ (((xs ()).drop (off ())).take (n ())).length = n () := fun e hb at_ FP hh => by
      have hl := hh.ev y
      rw [e] at hl
      obtain ⟨fp, hd, _⟩ := ref_deep hh.good hb hl
      obtain ⟨_, _, _, _, hle, _⟩ := ref_row hh.good hb hl
      exact ⟨⟨fp, hd⟩, by rw [List.length_take, List.length_drop]; omega⟩
    have hnew : (ev s.tm x = .nil ∨ ev s.tm x = .emp) → Sat P Q As (match ev s.tm y with
        | .nil => K (ev s.tm x) s
        | .emp => K (ev s.tm x) s
        | .sl z enc ys => bif Nat.beq z size then .need (fun _ => (∀ y ∈ ys (), ∀ j, j < z → flat (enc y j) = true) ∧ (ys ()).length * bytes ≤ 140737488351232) (fun _ => K (.ref nid (fun _ => 0) (fun _ => (ys ()).length)) { s with st := (nid, .row z enc ys false) :: s.st }) else .bad 71
        | .ref b off n => match look b s.st with
          | some (.row z enc xs _) => bif Nat.beq z size then .need (fun _ => (∀ y ∈ xs (), ∀ j, j < z → flat (enc y j) = true) ∧ n () * bytes ≤ 140737488351232) (fun _ => K (.ref nid (fun _ => 0) n) { s with st := (nid, .row z enc (fun _ => ((xs ()).drop (off ())).take (n ())) false) :: s.st }) else .bad 72
          | some (.lit z cs) => bif Nat.beq z size && Nat.beq (cs.length) size then
              match expL (exp 3) (drop_ b s.st) cs with
              | some a => bif !(a.1.all cellOk) then .bad 86 else .need (fun _ => off () = 0 ∧ n () = 1) (fun _ => .typ a.1 (fun _ enc x =>
                  let gone : Nat → Bool := fun q => match look q s.st, look q a.2 with | some _, none => true | _, _ => false
                  K (.ref nid (fun _ => 0) (fun _ => 1)) { tm := scrubT gone s.tm, st := (nid, .row size enc (fun _ => [x]) false) :: a.2.map (scrubB gone), nx := s.nx }))
              | none => .bad 73
            else .bad 74
          | _ => .bad 75
        | _ => .bad 76) → MD P Q As o s nid K w0 N a w := by
      clear h
      intro hx h
      split at h
      · rename_i hy
        exact m_app_none hI (hx.elim .inl (fun e => .inr (.inl e))) (.inl hy) h hr hfr
      · rename_i hy
        exact m_app_none hI (hx.elim .inl (fun e => .inr (.inl e))) (.inr hy) h hr hfr
      · rename_i α z enc ys hy
        cases e : Nat.beq z size with
        | false => rw [e, cond_false] at h; exact (no_bad h).elim
        | true =>
          rw [e, cond_true] at h
          obtain rfl := Nat.eq_of_beq_eq_true e
          obtain ⟨⟨h1, h2⟩, h⟩ := sat_need h
          exact m_app_new hI hx (hsl hy) h1 rfl h2 h hr hfr
      · rename_i b off n hy
        split at h
        · rename_i α z enc xs fx hb
          cases e : Nat.beq z size with
          | false => rw [e, cond_false] at h; exact (no_bad h).elim
          | true =>
            rw [e, cond_true] at h
            obtain rfl := Nat.eq_of_beq_eq_true e
            obtain ⟨⟨h1, h2⟩, h⟩ := sat_need h
            obtain ⟨at_, FP, hh⟩ := hr
            have hlen := (hrf hy hb at_ FP hh).2
            exact m_app_new hI hx (fun at_ FP hh => (hrf hy hb at_ FP hh).1) (fun y hy j hj => h1 y (List.mem_of_mem_drop (List.mem_of_mem_take hy)) j hj) hlen.symm (by rw [hlen]; exact h2) h ⟨at_, FP, hh⟩ hfr
        · rename_i z cs hb
          cases e : (Nat.beq z size && Nat.beq cs.length size) with
          | false => rw [e, cond_false] at h; exact (no_bad h).elim
          | true =>
            rw [e, cond_true] at h
            obtain ⟨e1, e2⟩ := and3 e
            obtain rfl := Nat.eq_of_beq_eq_true e1
            have e2 := Nat.eq_of_beq_eq_true e2
            split at h
            · rename_i p hp
              obtain ⟨ys, rest⟩ := p
              cases e3 : ys.all cellOk with
              | false => simp only [e3, Bool.not_false, cond_true] at h; exact (no_bad h).elim
              | true =>
                simp only [e3, Bool.not_true, cond_false] at h
                obtain ⟨⟨h1, h2⟩, h⟩ := sat_need h
                obtain ⟨α, enc, z', hty, h⟩ := sat_typ h
                exact m_app_lit_new hI hx hy hb e2 hp e3 h1 h2 hty h hr hfr
            · exact (no_bad h).elim
        · exact (no_bad h).elim
      · exact (no_bad h).elim
    simp only [mop] at h
    split at h
    · rename_i hx
      exact hnew (.inl hx) h
    · rename_i hx
      exact hnew (.inr hx) h
    · rename_i b off n hx
      split at h
      · rename_i α z enc xs hb
        split at h
        · rename_i hy
          cases e : Nat.beq z size with
          | false => rw [e, cond_false] at h; exact (no_bad h).elim
          | true =>
            rw [e, cond_true] at h
            obtain rfl := Nat.eq_of_beq_eq_true e
            exact m_app_none hI (.inr (.inr ⟨b, off, n, α, enc, xs, false, hx, hb⟩)) (.inl hy) (by rw [hx]; exact h) hr hfr
        · rename_i hy
          cases e : Nat.beq z size with
          | false => rw [e, cond_false] at h; exact (no_bad h).elim
          | true =>
            rw [e, cond_true] at h
            obtain rfl := Nat.eq_of_beq_eq_true e
            exact m_app_none hI (.inr (.inr ⟨b, off, n, α, enc, xs, false, hx, hb⟩)) (.inr hy) (by rw [hx]; exact h) hr hfr
        · rename_i β z' enc' ys hy
          cases e : (Nat.beq z size && Nat.beq z' size) with
          | false => rw [e, cond_false] at h; exact (no_bad h).elim
          | true =>
            rw [e, cond_true] at h
            obtain ⟨e1, e2⟩ := and3 e
            obtain rfl := Nat.eq_of_beq_eq_true e1
            obtain rfl := Nat.eq_of_beq_eq_true e2
            obtain ⟨⟨h1, h2, h3⟩, h⟩ := sat_need h
            cases h with
            | same h => exact m_app_row hI hx hb h1 (hsl hy) h2 rfl h3 h hr hfr
        · rename_i b' off' n' hy
          split at h
          · rename_i β z' enc' ys fx hb'
            cases e : (Nat.beq z size && Nat.beq z' size && !(Nat.beq b' b)) with
            | false => rw [e, cond_false] at h; exact (no_bad h).elim
            | true =>
              rw [e, cond_true] at h
              obtain ⟨e1, _⟩ := and3 e
              obtain ⟨e1, e2⟩ := and3 e1
              obtain rfl := Nat.eq_of_beq_eq_true e1
              obtain rfl := Nat.eq_of_beq_eq_true e2
              obtain ⟨⟨h1, h2, h3⟩, h⟩ := sat_need h
              obtain ⟨at_, FP, hh⟩ := hr
              have hlen := (hrf hy hb' at_ FP hh).2
              cases h with
              | same h => exact m_app_row hI hx hb h1 (fun at_ FP hh => (hrf hy hb' at_ FP hh).1) (fun y hy j hj => h2 y (List.mem_of_mem_drop (List.mem_of_mem_take hy)) j hj) rfl (by rw [hlen]; exact h3) h ⟨at_, FP, hh⟩ hfr
          · rename_i z' cs hb'
            cases e : (Nat.beq z size && Nat.beq z' size && Nat.beq cs.length size && !(Nat.beq b' b)) with
            | false => rw [e, cond_false] at h; exact (no_bad h).elim
            | true =>
              rw [e, cond_true] at h
              obtain ⟨e1, e4⟩ := and3 e
              obtain ⟨e1, e3⟩ := and3 e1
              obtain ⟨e1, e2⟩ := and3 e1
              obtain rfl := Nat.eq_of_beq_eq_true e1
              obtain rfl := Nat.eq_of_beq_eq_true e2
              have e3 := Nat.eq_of_beq_eq_true e3
              split at h
              · rename_i p hp
                obtain ⟨zs, rest⟩ := p
                cases e5 : zs.all cellOk with
                | false => simp only [e5, Bool.not_false, cond_true] at h; exact (no_bad h).elim
                | true =>
                  simp only [e5, Bool.not_true, cond_false] at h
                  obtain ⟨⟨h1, h2, h3, h4⟩, h⟩ := sat_need h
                  obtain ⟨z', hty, h⟩ := sat_typed h
                  exact m_app_lit_row hI hx hb h1 hy hb' e3 (beq_ne e4) hp e5 h2 h3 hty h4 h hr hfr
              · exact (no_bad h).elim
          · exact (no_bad h).elim
        · exact (no_bad h).elim
      · exact (no_bad h).elim
    · exact (no_bad h).elim
  · exact m_callm ho hcal h hr hfr

theorem sat_may {p : Unit → Prop} {c d : Unit → Tree} (h : Sat P Q As (.may p c d)) : (p () → Sat P Q As (c ())) ∧ Sat P Q As (d ()) := by
  cases h with
  | may h1 h2 => exact ⟨h1, h2⟩

theorem comp_nbin {m : MOp} {tm : List (Nat × AV)} {st : List (Nat × Blk)} {K : AV → List (Nat × Blk) → Tree} {w0 : Base} {w : World} {N : Nat} {a : Act} {st' : Nat → Option Blk} (hc : compOp P mu o.op = some m) (hm : isNbin m = true) (h : Sat P Q As (qop m tm st nid K))
    (hr : Rel w0 N tm st' a w) :
    Does P o a w (fun u w' => ∃ v, Sat P Q As (K v []) ∧ ∃ at_ FP, Here w0 N tm st' a w' at_ FP ∧ Loc ⟨w0, w', at_, st'⟩ v u) := by
  have key : ∃ op t e x y t', o.op = .binOp op t x y t' ∧ P.underlying t = some (.slice e) ∧ m = .nbin op x y := by
    cases ho : o.op with
    | binOp op t x y t' =>
      simp only [ho, compOp] at hc
      split at hc
      · rw [Option.bind_eq_some_iff] at hc
        obtain ⟨ks, _, hc⟩ := hc
        split at hc <;> first | (cases hc; cases hm) | cases hc
      · cases hc; cases hm
      · cases hc; cases hm
      · cases hc; cases hm
      · rename_i e hu
        cases hc
        exact ⟨op, t, e, x, y, t', rfl, hu, rfl⟩
      · cases hc
    | call c =>
      simp only [ho, compOp] at hc
      split at hc
      · split at hc
        · split at hc <;> first | (cases hc; cases hm; done) | (cases hc; done)
        · cases hc
      · split at hc <;> first | (cases hc; cases hm; done) | (cases hc; done)
      · split at hc <;> first | (cases hc; cases hm; done) | (cases hc; done)
      · split at hc
        · simp only [Option.bind_eq_some_iff] at hc
          obtain ⟨_, _, _, _, _, _, hc⟩ := hc
          split at hc
          · split at hc <;> first | (cases hc; cases hm; done) | (cases hc; done)
          · cases hc
        · cases hc
      · split at hc <;> first | (cases hc; cases hm; done) | (cases hc; done)
      · cases hc; cases hm
      · cases hc
    | unOp u t x => cases u <;> simp only [ho, compOp, Option.some.injEq] at hc <;> first | (cases hc; done) | (subst hc; cases hm)
    | makeFunc f first caps =>
      cases f <;> simp only [ho, compOp] at hc <;> first | (cases hc; done) | (split at hc <;> first | (cases hc; cases hm) | cases hc)
    | _ =>
      simp only [ho, compOp] at hc
      first
        | (cases hc; done)
        | (simp only [Option.some.injEq] at hc; subst hc; cases hm; done)
        | (simp only [Option.map_eq_some_iff] at hc; obtain ⟨_, _, rfl⟩ := hc; cases hm; done)
        | (simp only [Option.bind_eq_some_iff, Option.map_eq_some_iff] at hc; obtain ⟨_, _, _, _, rfl⟩ := hc; cases hm; done)
        | (simp only [Option.bind_eq_some_iff] at hc; obtain ⟨_, _, hc⟩ := hc; split at hc <;> first | (cases hc; cases hm; done) | (cases hc; done))
        | (simp only [Option.bind_eq_some_iff] at hc; obtain ⟨_, _, _, _, hc⟩ := hc; split at hc <;> first | (cases hc; cases hm; done) | (cases hc; done))
        | (simp only [Option.bind_eq_some_iff] at hc; obtain ⟨_, _, _, _, _, _, hc⟩ := hc; split at hc <;> first | (cases hc; cases hm; done) | (cases hc; done))
        | (split at hc <;> first
            | (cases hc; cases hm; done)
            | (cases hc; done)
            | (simp only [Option.map_eq_some_iff] at hc; obtain ⟨_, _, rfl⟩ := hc; cases hm; done)
            | (simp only [Option.bind_eq_some_iff, Option.map_eq_some_iff] at hc; obtain ⟨_, _, _, _, _, _, rfl⟩ := hc; cases hm; done))
  obtain ⟨op, t, e, x, y, t', ho, hu, rfl⟩ := key
  obtain ⟨at_, FP, hh⟩ := hr
  have fin : ∀ p : Unit → Prop, nilP (ev tm x) = some p → ev tm y = .nil → Sat P Q As (nilT op p K) → Does P o a w (fun u w' => ∃ v, Sat P Q As (K v []) ∧ ∃ at_ FP, Here w0 N tm st' a w' at_ FP ∧ Loc ⟨w0, w', at_, st'⟩ v u) := by
    intro p hp hy h
    have h2 := hh.ev y
    rw [hy] at h2
    unfold nilT at h
    split at h
    · obtain ⟨r, hr, hrun⟩ := nbin_run ho (.inl rfl) hu hh (hh.ev x) hp h2.nil_inv
      obtain ⟨h3, h4⟩ := sat_may h
      refine .inl ⟨_, w, .inl hrun, ?_⟩
      simp only [if_true]
      cases r with
      | true => exact ⟨_, h3 (hr rfl), at_, FP, hh, .bo _⟩
      | false => exact ⟨_, h4, at_, FP, hh, .bo _⟩
    · obtain ⟨r, hr, hrun⟩ := nbin_run ho (.inr rfl) hu hh (hh.ev x) hp h2.nil_inv
      obtain ⟨h3, h4⟩ := sat_may h
      refine .inl ⟨_, w, .inl hrun, ?_⟩
      simp only [reduceCtorEq, if_false]
      cases r with
      | true => exact ⟨_, h3 (hr rfl), at_, FP, hh, .bo _⟩
      | false => exact ⟨_, h4, at_, FP, hh, .bo _⟩
    · exact (no_bad h).elim
  simp only [qop] at h
  split at h
  · rename_i hx hy
    have h1 := hh.ev x
    rw [hx] at h1
    have h2 := hh.ev y
    rw [hy] at h2
    split at h
    · exact .inl ⟨_, w, .inl (by simp [execOp, ho, h1.nil_inv, h2.nil_inv, eqGuard, binOp, equal_nil hu]), _, h, at_, FP, hh, .bo _⟩
    · exact .inl ⟨_, w, .inl (by simp [execOp, ho, h1.nil_inv, h2.nil_inv, eqGuard, binOp, equal_nil hu]), _, h, at_, FP, hh, .bo _⟩
    · exact (no_bad h).elim
  · rename_i hx hy
    exact fin _ (by rw [hx]; rfl) hy h
  · rename_i hx hy
    exact fin _ (by rw [hx]; rfl) hy h
  · rename_i hx hy
    exact fin _ (by rw [hx]; rfl) hy h
  · exact (no_bad h).elim
end
end Go.V

namespace Go.V
open Go Go.RowKit

/-! ### The code, in short -/
def compGd (ops : Array Oper) (N : Nat) : Option (Nat × Bool) → Option (Option (Nat × Bool))
  | none => some none
  | some (g, want) => match (ops[g]?).bind (·.dst) with
    | some d => if d < N then some (some (d, want)) else none
    | none => none
def compO (P : Program) (mu : Nat → Bool) (ops : Array Oper) (N : Nat) (o : Oper) (h : List Nat) : Option MOper :=
  (compOp P mu o.op).bind fun m => (compGd ops N o.guard).bind fun gd => match o.dst with
    | none => some ⟨none, m, gd, h⟩
    | some d => if d < N then some ⟨some d, m, gd, h⟩ else none
def compOps (P : Program) (mu : Nat → Bool) (ops : Array Oper) (N : Nat) : List Oper → List (List Nat) → Option (List MOper)
  | [], _ => some []
  | o :: r, hs => (compO P mu ops N o (hs.headD [])).bind fun m => (compOps P mu ops N r hs.tail).map fun l => m :: l

section
variable {P : Program} {Q : AV → Prop} {As : List (St → Prop)} {mu : Nat → Bool} {N nx : Nat} {ops : Array Oper} {w0 : Base} {w : World} {a : Act}

structure CompO (P : Program) (mu : Nat → Bool) (ops : Array Oper) (N : Nat) (o : Oper) (m : MOper) : Prop where
  op : compOp P mu o.op = some m.op
  dst : o.dst = m.dst
  lt : ∀ d, o.dst = some d → d < N
  gd : ∀ d want, m.gd = some (d, want) → ∃ g, o.guard = some (g, want) ∧ (ops[g]?).bind (·.dst) = some d ∧ d < N
  gd0 : m.gd = none → o.guard = none
theorem compO_spec {o : Oper} {h : List Nat} {m : MOper} (hc : compO P mu ops N o h = some m) : CompO P mu ops N o m := by
  unfold compO at hc
  simp only [Option.bind_eq_some_iff] at hc
  obtain ⟨mm, h1, gd, h2, hc⟩ := hc
  have hg : (∀ d want, gd = some (d, want) → ∃ g, o.guard = some (g, want) ∧ (ops[g]?).bind (·.dst) = some d ∧ d < N) ∧ (gd = none → o.guard = none) := by
    unfold compGd at h2
    split at h2
    · rename_i hg
      cases h2
      exact ⟨fun d want h => (by cases h), fun _ => hg⟩
    · rename_i g want hg
      split at h2
      · rename_i d hd
        split at h2
        · cases h2
          refine ⟨fun d' want' h => ?_, fun h => by cases h⟩
          cases h
          exact ⟨g, hg, hd, ‹_›⟩
        · cases h2
      · cases h2
  split at hc
  · rename_i hd
    cases hc
    exact ⟨h1, hd, fun d h => (by rw [hd] at h; cases h), hg.1, hg.2⟩
  · rename_i d hd
    split at hc
    · cases hc
      exact ⟨h1, hd, fun d' h => (by rw [hd] at h; cases h; assumption), hg.1, hg.2⟩
    · cases hc

/-- Whether an operation runs. -/
theorem guard_run {tm : List (Nat × AV)} {st : Nat → Option Blk} {at_ : Nat → Option (Nat × Nat)} {FP : Nat → List Nat} (hh : Here w0 N tm st a w at_ FP) {o : Oper} {m : MOper} (hc : CompO P mu ops N o m) {d : Nat} {want : Bool} (hg : m.gd = some (d, want)) :
    (∀ b, slot d tm = .bo b → Region.wanted o (yielded ops a.tmps) = (b == want)) ∧ (slot d tm = .undef → Region.wanted o (yielded ops a.tmps) = false) := by
  obtain ⟨g, h1, h2, h3⟩ := hc.gd d want hg
  have hl := hh.loc d
  have hd : a.tmps[d]? = some (a.tmps.getD d Go.undef) := by
    have : d < a.tmps.size := by rw [hh.size]; exact h3
    simp [Array.getD, this]
  refine ⟨fun b hb => ?_, fun hb => ?_⟩
  · rw [hb] at hl
    have := hl.bo_inv
    rw [this] at hd
    simp [Region.wanted, h1, yielded, h2, hd]
  · rw [hb] at hl
    have := hl.undef_inv
    rw [this] at hd
    simp [Region.wanted, h1, yielded, h2, hd, Go.undef]
theorem guard_none {o : Oper} {m : MOper} (hc : CompO P mu ops N o m) (hg : m.gd = none) (y : Nat → Option Bool) : Region.wanted o y = true := by
  simp [Region.wanted, hc.gd0 hg]

def hid (nx : Nat) (h : List Nat) (st : List (Nat × Blk)) : List (Nat × Blk) := match h with | [] => st | h => hidden nx h st

/-- Blocks of these numbers are hidden, the others are as they were. -/
theorem look_hidden {h : List Nat} {b : Nat} : ∀ {st : List (Nat × Blk)}, look b (hidden nx h st) = bif Nat.blt b nx then look b st else bif memN ((b - nx) / 16) h then none else look b st
  | [] => by
    cases h1 : Nat.blt b nx <;> cases h2 : memN ((b - nx) / 16) h <;> simp [hidden, look]
  | p :: r => by
    rw [hidden]
    cases h1 : Nat.blt p.1 nx with
    | true =>
      rw [cond_true, look, look_hidden (st := r)]
      cases e : Nat.beq p.1 b with
      | true =>
        have := Nat.eq_of_beq_eq_true e
        subst this
        rw [h1]
        simp [look, beq_self]
      | false => simp [look, e]
    | false =>
      rw [cond_false]
      cases h2 : memN ((p.1 - nx) / 16) h with
      | true =>
        rw [cond_true, look_hidden (st := r)]
        cases e : Nat.beq p.1 b with
        | true =>
          have := Nat.eq_of_beq_eq_true e
          subst this
          rw [h1, h2]
          simp
        | false => simp [look, e]
      | false =>
        rw [cond_false, look, look_hidden (st := r)]
        cases e : Nat.beq p.1 b with
        | true =>
          have := Nat.eq_of_beq_eq_true e
          subst this
          rw [h1, h2]
          simp [look, beq_self]
        | false => simp [look, e]
theorem hid_look {h : List Nat} {st : List (Nat × Blk)} {b : Nat} {k : Blk} (hk : look b (hid nx h st) = some k) : look b st = some k := by
  unfold hid at hk
  split at hk
  · exact hk
  · rw [look_hidden] at hk
    cases h1 : Nat.blt b nx with
    | true => rw [h1] at hk; exact hk
    | false =>
      rw [h1, cond_false] at hk
      cases h2 : memN ((b - nx) / 16) h with
      | true => rw [h2] at hk; cases hk
      | false => rw [h2] at hk; exact hk

/-- Where the call stands, and each of its blocks has a number below. -/
def RelS (w0 : Base) (N : Nat) (tm : List (Nat × AV)) (st : List (Nat × Blk)) (n : Nat) (a : Act) (w : World) : Prop :=
  Rel w0 N tm (fun b => look b st) a w ∧ ∀ b k, look b st = some k → b < n

theorem addAll_look {new st : List (Nat × Blk)} : addAll new (fun b => look b st) = fun b => look b (new ++ st) := by
  funext b
  rw [look_append]
  unfold addAll
  cases look b new <;> rfl
theorem look_none {l : List (Nat × Blk)} {b : Nat} (h : ∀ p ∈ l, p.1 ≠ b) : look b l = none := by
  cases e : look b l with
  | none => rfl
  | some k => exact absurd rfl (h _ (look_mem e))

theorem Here.putS {tm : List (Nat × AV)} {st : Nat → Option Blk} {at_ : Nat → Option (Nat × Nat)} {FP : Nat → List Nat} {s : St} {x : AV} {v : Value} {o : Option Nat} (hs : s.tm = tm) (h : Here w0 N tm st a w at_ FP) (hx : Loc ⟨w0, w, at_, st⟩ x v) (hd : ∀ d, o = some d → d < N) : Here w0 N (putS s o x) st (a.put o v) w at_ FP := by
  subst hs
  cases o with
  | none => exact h
  | some d => exact h.put hx (hd d rfl)

/-- A region's operations, in the order of the text. -/
theorem seq_ops {K : St → Tree} {R : Exit → Act → World → Prop} (n : Nat) (hK : ∀ s' a' w', Sat P Q As (K s') → s'.nx = n → RelS w0 N s'.tm s'.st (nx + 16 * ops.size) a' w' → R .normal a' w') :
    ∀ (l : List Oper) (ml : List MOper) (hs : List (List Nat)) (i : Nat), (∀ j, l[j]? = ops[i + j]?) → i + l.length = ops.size → compOps P mu ops N l hs = some ml →
      ∀ (s : St) (a : Act) (w : World), s.nx = n → Sat P Q As (opsT nx ml i K s) → RelS w0 N s.tm s.st (nx + 16 * i) a w → wpOps P ops R (List.range' i l.length) a w
  | [], ml, hs, i, _, hsz, hc, s, a, w, hn, h, hr => by
    simp only [compOps, Option.some.injEq] at hc
    subst hc
    have hsz' : i = ops.size := by simpa using hsz
    subst hsz'
    exact hK s a w h hn hr
  | o :: l, ml, hs, i, hl, hsz, hc, s, a, w, hn, h, hr => by
    simp only [compOps, Option.bind_eq_some_iff, Option.map_eq_some_iff] at hc
    obtain ⟨m, hm, ml', hml, rfl⟩ := hc
    have cs := compO_spec hm
    have ho : ops[i]? = some o := by have := hl 0; simpa using this.symm
    have next : ∀ (s' : St) (a' : Act) (w' : World), s'.nx = n → Sat P Q As (opsT nx ml' (i + 1) K s') → RelS w0 N s'.tm s'.st (nx + 16 * (i + 1)) a' w' → wpOps P ops R (List.range' (i + 1) l.length) a' w' :=
      seq_ops n hK l ml' hs.tail (i + 1) (fun j => by have := hl (j + 1); rw [show i + 1 + j = i + (j + 1) by omega]; simpa using this) (by simp at hsz; omega) hml
    obtain ⟨⟨at_, FP, hh⟩, hfr⟩ := hr
    have go : Sat P Q As (bif isMut m.op then mop m.op s (nx + 16 * i) (fun v s' => opsT nx ml' (i + 1) K { s' with tm := putS s' m.dst v })
        else qop m.op s.tm (hid nx m.hide s.st) (nx + 16 * i) (fun v new => opsT nx ml' (i + 1) K { s with tm := putS s m.dst v, st := new ++ s.st })) → o.wp P a w (wpOps P ops R (List.range' (i + 1) l.length)) R := by
      intro h
      cases hmu : isMut m.op with
      | true =>
        rw [hmu, cond_true] at h
        refine (comp_mut cs.op hmu h ⟨at_, FP, hh⟩ hfr).wp (fun u w' hu => ?_)
        obtain ⟨v, s', hsat, hnx, hfr', at1, FP1, hh1, hl1⟩ := hu
        refine next { s' with tm := putS s' m.dst v } _ _ (hnx.trans hn) hsat ⟨⟨at1, FP1, ?_⟩, fun b k hb => by have := hfr' b k hb; omega⟩
        rw [cs.dst]
        exact Here.putS rfl hh1 hl1 (fun d hd => cs.lt d (cs.dst.trans hd))
      | false =>
        rw [hmu, cond_false] at h
        cases hnb : isNbin m.op with
        | true =>
          refine (comp_nbin cs.op hnb h ⟨at_, FP, hh⟩).wp (fun u w' hu => ?_)
          obtain ⟨v, hsat, at1, FP1, hh1, hl1⟩ := hu
          refine next { s with tm := putS s m.dst v, st := [] ++ s.st } _ _ hn hsat ⟨⟨at1, FP1, ?_⟩, fun b k hb => by have := hfr b k hb; omega⟩
          rw [cs.dst]
          exact Here.putS rfl hh1 hl1 (fun d hd => cs.lt d (cs.dst.trans hd))
        | false =>
          obtain ⟨v, new, ⟨hid, hok⟩, hsat⟩ := comp_quiet cs.op hmu hnb h
          refine (hok w0 N s.tm (fun b => look b s.st) a w (fun _ _ => rfl) (fun b k hb => hid_look hb) (fun b h1 h2 => ?_) ⟨at_, FP, hh⟩).wp (fun u w' hu => ?_)
          · cases e : look b s.st with
            | none => rfl
            | some k => exact absurd (hfr b k e) (by omega)
          · obtain ⟨at1, FP1, hh1, hl1⟩ := hu
            rw [addAll_look] at hh1 hl1
            refine next { s with tm := putS s m.dst v, st := new ++ s.st } _ _ hn hsat ⟨⟨at1, FP1, ?_⟩, fun b k hb => ?_⟩
            · rw [cs.dst]
              exact Here.putS rfl hh1 hl1 (fun d hd => cs.lt d (cs.dst.trans hd))
            · have hb' : look b (new ++ s.st) = some k := hb
              rw [look_append] at hb'
              split at hb'
              · rename_i k' hk'
                have := (hid _ (look_mem hk')).2
                simp only at this
                omega
              · have := hfr b k hb'
                omega
    have skip : Sat P Q As (opsT nx ml' (i + 1) K { s with tm := putS s m.dst .undef }) → wpOps P ops R (List.range' (i + 1) l.length) (a.put o.dst undef) w := by
      intro h
      refine next { s with tm := putS s m.dst .undef } _ _ hn h ⟨⟨at_, FP, ?_⟩, fun b k hb => by have := hfr b k hb; omega⟩
      rw [cs.dst]
      exact Here.putS rfl hh .undef (fun d hd => cs.lt d (cs.dst.trans hd))
    rw [List.length_cons, List.range'_succ, wpOps_cons]
    unfold wpOp
    rw [ho]
    simp only
    unfold opsT at h
    simp only at h
    cases hg : m.gd with
    | none =>
      rw [hg] at h
      simp only at h
      rw [guard_none cs hg, if_pos rfl]
      exact .inl (go h)
    | some q =>
      obtain ⟨d, want⟩ := q
      rw [hg] at h
      simp only at h
      obtain ⟨g1, g2⟩ := guard_run hh cs hg
      split at h
      · rename_i b hb
        rw [g1 b hb]
        split at h
        · rename_i e1; exact .inl (go h)
        · exact .inl (go h)
        · rename_i n1 n2
          have : (b == want) = false := by
            cases b <;> cases want <;> first | rfl | (exact absurd rfl (n1 rfl)) | (exact absurd rfl (n2 rfl))
          rw [this]
          exact skip h
      · rename_i hb
        rw [g2 hb]
        exact skip h
      · exact (no_bad h).elim
end
end Go.V

namespace Go.V
open Go Go.RowKit

/-! ### Regions that draw their order -/
def addN (x : Nat) (l : List Nat) : List Nat := bif memN x l then l else x :: l
def unionN : List Nat → List Nat → List Nat
  | [], b => b
  | x :: a, b => addN x (unionN a b)
def rowOf (rows : List (List Nat)) : List Edge → List Nat
  | [] => []
  | e :: r => if Region.binds .any e then addN e.on (unionN ((rows[e.on]?).getD []) (rowOf rows r)) else rowOf rows r
def rowsOf : List Oper → List (List Nat) → List (List Nat)
  | [], rows => rows
  | o :: r, rows => rowsOf r (rows ++ [rowOf rows o.after.toList])
def wr (t : Nat) : List (Option Nat) → Nat → Option Nat
  | [], _ => none
  | some d :: r, i => bif Nat.beq d t then some i else wr t r (i + 1)
  | none :: r, i => wr t r (i + 1)
def rowAt (rows : List (List Nat)) (i : Nat) : List Nat := (rows[i]?).getD []
def seeOk (rows : List (List Nat)) (ds : List (Option Nat)) (i t : Nat) : Bool := match wr t ds 0 with
  | none => true
  | some j => Nat.beq j i || memN j (rowAt rows i) || memN i (rowAt rows j)
def tmpsOf : List Operand → List Nat
  | [] => []
  | .tmp t :: r => t :: tmpsOf r
  | _ :: r => tmpsOf r
def gdOf : Option (Nat × Bool) → List Nat
  | some (d, _) => [d]
  | none => []
/-- The operations that look at no block of the call's own. -/
def noStore : MOp → Bool
  | .mv .. | .pick .. | .not .. | .bin .. | .bbin .. | .aeq .. | .box .. | .alloc .. | .fld .. | .sidx .. | .len .. | .mx .. | .bld .. | .bsl .. | .mks .. | .conv .. | .ext .. | .mkf .. | .nck .. => true
  | _ => false
def ahead (rows : List (List Nat)) (hide : List Nat) (i : Nat) : Nat → Bool
  | 0 => true
  | j + 1 => (memN j (rowAt rows i) || memN j hide) && ahead rows hide i j
def drawOne (rows : List (List Nat)) (ds : List (Option Nat)) (i : Nat) (o : Oper) (m : MOper) : Bool :=
  !isMut m.op && !isNbin m.op && (tmpsOf o.op.operands.toList ++ gdOf m.gd).all (seeOk rows ds i) && (rowAt rows i).all (fun j => Nat.blt j i) && (noStore m.op || ahead rows m.hide i i) &&
    (match m.dst with | some d => (match wr d ds 0 with | some j => Nat.beq j i | none => false) | none => true) && o.after.toList.all (fun e => !Region.binds .any e || memN e.on (rowAt rows i))
def drawAll (rows : List (List Nat)) (ds : List (Option Nat)) : Nat → List Oper → List MOper → Bool
  | _, [], [] => true
  | i, o :: r, m :: q => drawOne rows ds i o m && drawAll rows ds (i + 1) r q
  | _, _, _ => false
def drawOk (ops : Array Oper) (ml : List MOper) : Bool := drawAll (rowsOf ops.toList []) (ml.map (·.dst)) 0 ops.toList ml

theorem memN_spec {n : Nat} : ∀ {l : List Nat}, memN n l = true ↔ n ∈ l
  | [] => by simp [memN]
  | m :: r => by
    rw [memN]
    cases h : Nat.beq m n with
    | true =>
      have := Nat.eq_of_beq_eq_true h
      simp [this]
    | false =>
      rw [cond_false, memN_spec]
      constructor
      · exact fun h => List.mem_cons_of_mem _ h
      · intro h'
        rcases List.mem_cons.1 h' with e | e
        · subst e; rw [Nat.beq_refl] at h; cases h
        · exact e

/-- j stands ahead of i. -/
inductive Pred (ops : Array Oper) : Nat → Nat → Prop
  | one {i : Nat} {o : Oper} {e : Edge} (ho : ops[i]? = some o) (he : e ∈ o.after) (hb : Region.binds .any e = true) : Pred ops i e.on
  | more {i k : Nat} {o : Oper} {e : Edge} (ho : ops[i]? = some o) (he : e ∈ o.after) (hb : Region.binds .any e = true) (h : Pred ops e.on k) : Pred ops i k

theorem mem_addN {x y : Nat} {l : List Nat} (h : y ∈ addN x l) : y = x ∨ y ∈ l := by
  unfold addN at h
  cases e : memN x l with
  | true => rw [e] at h; exact .inr h
  | false => rw [e] at h; exact List.mem_cons.1 h
theorem mem_unionN {y : Nat} : ∀ {a b : List Nat}, y ∈ unionN a b → y ∈ a ∨ y ∈ b
  | [], b, h => .inr h
  | x :: a, b, h => by
    rcases mem_addN h with e | e
    · exact .inl (e ▸ List.mem_cons_self ..)
    · rcases mem_unionN e with e | e
      · exact .inl (List.mem_cons_of_mem _ e)
      · exact .inr e
theorem rowOf_spec {ops : Array Oper} {rows : List (List Nat)} (hr : ∀ i r, rows[i]? = some r → ∀ j ∈ r, Pred ops i j) {i : Nat} {o : Oper} (ho : ops[i]? = some o) : ∀ (es : List Edge), (∀ e ∈ es, e ∈ o.after) → ∀ j ∈ rowOf rows es, Pred ops i j
  | [], _, j, hj => by cases hj
  | e :: r, hes, j, hj => by
    rw [rowOf] at hj
    split at hj
    · rename_i hb
      rcases mem_addN hj with rfl | hj
      · exact .one ho (hes e (List.mem_cons_self ..)) hb
      · rcases mem_unionN hj with hj | hj
        · cases hrow : rows[e.on]? with
          | none => rw [hrow] at hj; cases hj
          | some row => rw [hrow] at hj; exact .more ho (hes e (List.mem_cons_self ..)) hb (hr _ _ hrow j hj)
        · exact rowOf_spec hr ho r (fun e he => hes e (List.mem_cons_of_mem _ he)) j hj
    · exact rowOf_spec hr ho r (fun e he => hes e (List.mem_cons_of_mem _ he)) j hj
theorem rowsOf_spec {ops : Array Oper} : ∀ (l : List Oper) (rows : List (List Nat)), (∀ j, l[j]? = ops[rows.length + j]?) → (∀ i r, rows[i]? = some r → ∀ j ∈ r, Pred ops i j) → ∀ i r, (rowsOf l rows)[i]? = some r → ∀ j ∈ r, Pred ops i j
  | [], rows, _, h => h
  | o :: l, rows, hl, h => by
    have ho : ops[rows.length]? = some o := by have := hl 0; simpa using this.symm
    refine rowsOf_spec l _ (fun j => by have := hl (j + 1); rw [List.length_append, List.length_singleton, show rows.length + 1 + j = rows.length + (j + 1) by omega]; simpa using this) (fun i r hi => ?_)
    by_cases hlt : i < rows.length
    · rw [List.getElem?_append_left hlt] at hi
      exact h i r hi
    · rw [List.getElem?_append_right (by omega)] at hi
      have : i - rows.length = 0 := by
        have := lt_of_get hi
        simp at this
        omega
      have hii : i = rows.length := by omega
      subst hii
      rw [Nat.sub_self] at hi
      simp only [List.getElem?_cons_zero, Option.some.injEq] at hi
      subst hi
      exact rowOf_spec h ho _ (fun e he => by simpa using he)
theorem rowAt_spec {ops : Array Oper} {i j : Nat} (h : memN j (rowAt (rowsOf ops.toList []) i) = true) : Pred ops i j := by
  have h := memN_spec.1 h
  unfold rowAt at h
  cases hr : (rowsOf ops.toList [])[i]? with
  | none => rw [hr] at h; cases h
  | some r => rw [hr] at h; exact rowsOf_spec ops.toList [] (by simp) (fun i r hi => by simp at hi) i r hr j h

theorem drawAll_spec {rows : List (List Nat)} {ds : List (Option Nat)} : ∀ (i : Nat) (l : List Oper) (ml : List MOper), drawAll rows ds i l ml = true → ml.length = l.length ∧ ∀ j o m, l[j]? = some o → ml[j]? = some m → drawOne rows ds (i + j) o m = true
  | _, [], [], _ => ⟨rfl, fun j o m h => by simp at h⟩
  | _, [], _ :: _, h => by cases h
  | _, _ :: _, [], h => by cases h
  | i, o :: r, m :: q, h => by
    rw [drawAll, Bool.and_eq_true] at h
    obtain ⟨h1, h2⟩ := drawAll_spec (i + 1) r q h.2
    refine ⟨by simp [h1], fun j o' m' hj hm => ?_⟩
    cases j with
    | zero => simp at hj hm; subst hj hm; exact h.1
    | succ j =>
      have := h2 j o' m' (by simpa using hj) (by simpa using hm)
      rw [show i + (j + 1) = i + 1 + j by omega]
      exact this

theorem qop_noStore {m : MOp} (h : noStore m = true) (tm : List (Nat × AV)) (st : List (Nat × Blk)) (nid : Nat) (K : AV → List (Nat × Blk) → Tree) : qop m tm st nid K = qop m tm [] nid K := by
  cases m <;> first | rfl | (cases h; done)

theorem wr_none {t : Nat} : ∀ {l : List (Option Nat)} {k : Nat}, wr t l k = none → ∀ i : Nat, l[i]? ≠ some (some t)
  | [], k, h, i, c => by simp at c
  | some d :: r, k, h, i, c => by
    rw [wr] at h
    cases e : Nat.beq d t with
    | true => rw [e] at h; cases h
    | false =>
      rw [e] at h
      cases i with
      | zero => simp at c; subst c; rw [Nat.beq_refl] at e; cases e
      | succ i => exact wr_none h i (by simpa using c)
  | none :: r, k, h, i, c => by
    cases i with
    | zero => simp at c
    | succ i => exact wr_none (k := k + 1) h i (by simpa using c)
theorem wr_some {t : Nat} : ∀ {l : List (Option Nat)} {k j : Nat}, wr t l k = some j → k ≤ j ∧ l[j - k]? = some (some t)
  | [], k, j, h => by cases h
  | some d :: r, k, j, h => by
    rw [wr] at h
    cases e : Nat.beq d t with
    | true =>
      rw [e] at h
      cases h
      have := Nat.eq_of_beq_eq_true e
      subst this
      exact ⟨Nat.le_refl _, by simp⟩
    | false =>
      rw [e, cond_false] at h
      obtain ⟨h1, h2⟩ := wr_some h
      refine ⟨by omega, ?_⟩
      rw [show j - k = (j - (k + 1)) + 1 by omega]
      simpa using h2
  | none :: r, k, j, h => by
    obtain ⟨h1, h2⟩ := wr_some (l := r) (k := k + 1) h
    refine ⟨by omega, ?_⟩
    rw [show j - k = (j - (k + 1)) + 1 by omega]
    simpa using h2

section
variable {P : Program} {Q : AV → Prop} {As : List (St → Prop)} {mu : Nat → Bool} {N nx : Nat} {ops : Array Oper} {w0 : Base}

def used (nx : Nat) (m : MOper) (st : List (Nat × Blk)) : List (Nat × Blk) := bif noStore m.op then [] else hid nx m.hide st

/-- One operation, as the text has it. -/
def DStep (P : Program) (nx i : Nat) (o : Oper) (m : MOper) (tm : List (Nat × AV)) (st : List (Nat × Blk)) (v : AV) (new : List (Nat × Blk)) : Prop :=
  (((m.gd = none) ∨ ∃ d want, m.gd = some (d, want) ∧ slot d tm = .bo want) ∧ QOK P o tm (used nx m st) (nx + 16 * i) v new) ∨
  (∃ d want, m.gd = some (d, want) ∧ ((∃ b, slot d tm = .bo b ∧ (b == want) = false) ∨ slot d tm = .undef) ∧ v = .undef ∧ new = [])

def putT (d : Option Nat) (v : AV) (tm : List (Nat × AV)) : List (Nat × AV) := match d with | some d => (d, v) :: tm | none => tm
/-- The text's run. -/
inductive DRun (P : Program) (nx : Nat) : Nat → List Oper → List MOper → List (Nat × AV) → List (Nat × Blk) → List (AV × List (Nat × Blk)) → List (Nat × AV) → List (Nat × Blk) → Prop
  | nil {i : Nat} {tm : List (Nat × AV)} {st : List (Nat × Blk)} : DRun P nx i [] [] tm st [] tm st
  | cons {i : Nat} {o : Oper} {m : MOper} {l : List Oper} {ml : List MOper} {tm tm' : List (Nat × AV)} {st st' : List (Nat × Blk)} {v : AV} {new : List (Nat × Blk)} {vs : List (AV × List (Nat × Blk))}
      (h : DStep P nx i o m tm st v new) (hr : DRun P nx (i + 1) l ml (putT m.dst v tm) (new ++ st) vs tm' st') : DRun P nx i (o :: l) (m :: ml) tm st ((v, new) :: vs) tm' st'

theorem drun_of {K : St → Tree} : ∀ (l : List Oper) (ml : List MOper) (hs : List (List Nat)) (i : Nat), compOps P mu ops N l hs = some ml → (∀ m ∈ ml, isMut m.op = false ∧ isNbin m.op = false) →
    ∀ s, Sat P Q As (opsT nx ml i K s) → ∃ vs tm' st', DRun P nx i l ml s.tm s.st vs tm' st' ∧ Sat P Q As (K { tm := tm', st := st', nx := s.nx })
  | [], ml, hs, i, hc, _, s, h => by
    simp only [compOps, Option.some.injEq] at hc
    subst hc
    exact ⟨[], s.tm, s.st, .nil, h⟩
  | o :: l, ml, hs, i, hc, hq, s, h => by
    simp only [compOps, Option.bind_eq_some_iff, Option.map_eq_some_iff] at hc
    obtain ⟨m, hm, ml', hml, rfl⟩ := hc
    have cs := compO_spec hm
    obtain ⟨q1, q2⟩ := hq m (List.mem_cons_self ..)
    have go : (m.gd = none ∨ ∃ d want, m.gd = some (d, want) ∧ slot d s.tm = .bo want) → Sat P Q As (bif isMut m.op then mop m.op s (nx + 16 * i) (fun v s' => opsT nx ml' (i + 1) K { s' with tm := putS s' m.dst v })
        else qop m.op s.tm (hid nx m.hide s.st) (nx + 16 * i) (fun v new => opsT nx ml' (i + 1) K { s with tm := putS s m.dst v, st := new ++ s.st })) →
        ∃ vs tm' st', DRun P nx i (o :: l) (m :: ml') s.tm s.st vs tm' st' ∧ Sat P Q As (K { tm := tm', st := st', nx := s.nx }) := by
      intro hg h
      rw [q1, cond_false] at h
      have h' : Sat P Q As (qop m.op s.tm (used nx m s.st) (nx + 16 * i) (fun v new => opsT nx ml' (i + 1) K { s with tm := putS s m.dst v, st := new ++ s.st })) := by
        unfold used
        cases e : noStore m.op with
        | true => rw [cond_true, ← qop_noStore e]; exact h
        | false => exact h
      obtain ⟨v, new, hok, hsat⟩ := comp_quiet cs.op q1 q2 h'
      obtain ⟨vs, tm', st', hr, hs⟩ := drun_of l ml' hs.tail (i + 1) hml (fun m hm => hq m (List.mem_cons_of_mem _ hm)) _ hsat
      exact ⟨(v, new) :: vs, tm', st', .cons (.inl ⟨hg, hok⟩) hr, hs⟩
    have skip : (∃ d want, m.gd = some (d, want) ∧ ((∃ b, slot d s.tm = .bo b ∧ (b == want) = false) ∨ slot d s.tm = .undef)) → Sat P Q As (opsT nx ml' (i + 1) K { s with tm := putS s m.dst .undef }) →
        ∃ vs tm' st', DRun P nx i (o :: l) (m :: ml') s.tm s.st vs tm' st' ∧ Sat P Q As (K { tm := tm', st := st', nx := s.nx }) := by
      intro hg h
      obtain ⟨vs, tm', st', hr, hs⟩ := drun_of l ml' hs.tail (i + 1) hml (fun m hm => hq m (List.mem_cons_of_mem _ hm)) _ h
      obtain ⟨d, want, h1, h2⟩ := hg
      exact ⟨(.undef, []) :: vs, tm', st', .cons (.inr ⟨d, want, h1, h2, rfl, rfl⟩) hr, hs⟩
    unfold opsT at h
    simp only at h
    cases hg : m.gd with
    | none => rw [hg] at h; exact go (.inl hg) h
    | some q =>
      obtain ⟨d, want⟩ := q
      rw [hg] at h
      simp only at h
      split at h
      · rename_i b hb
        split at h
        · exact go (.inr ⟨d, true, hg, hb⟩) h
        · exact go (.inr ⟨d, false, hg, hb⟩) h
        · rename_i n1 n2
          have : (b == want) = false := by
            cases b <;> cases want <;> first | rfl | (exact absurd rfl (n1 rfl)) | (exact absurd rfl (n2 rfl))
          exact skip ⟨d, want, hg, .inl ⟨b, hb, this⟩⟩ h
      · rename_i hb
        exact skip ⟨d, want, hg, .inr hb⟩ h
      · exact (no_bad h).elim

/-- What the temps, the blocks are behind the operations of L. -/
def TL (ds : List (Option Nat)) (vs : List (AV × List (Nat × Blk))) (tm0 : List (Nat × AV)) (L : Nat → Bool) (t : Nat) : AV := match wr t ds 0 with
  | some j => bif L j then ((vs[j]?).map (·.1)).getD .any else slot t tm0
  | none => slot t tm0
def SL (nx : Nat) (vs : List (AV × List (Nat × Blk))) (st0 : List (Nat × Blk)) (L : Nat → Bool) (b : Nat) : Option Blk :=
  if b < nx then look b st0 else bif L ((b - nx) / 16) then look b (((vs[(b - nx) / 16]?).map (·.2)).getD []) else none

theorem TL_step {ds : List (Option Nat)} {vs : List (AV × List (Nat × Blk))} {tm0 tm : List (Nat × AV)} {L L' : Nat → Bool} {i : Nat} {dst : Option Nat} {v : AV} {new : List (Nat × Blk)} (h : ∀ t, slot t tm = TL ds vs tm0 L t) (hL : ∀ j, L' j = (L j || Nat.beq j i))
    (hd : ds[i]? = some dst) (hu : ∀ d, dst = some d → wr d ds 0 = some i) (hv : vs[i]? = some (v, new)) (t : Nat) : slot t (putT dst v tm) = TL ds vs tm0 L' t := by
  have other : wr t ds 0 ≠ some i → TL ds vs tm0 L' t = TL ds vs tm0 L t := fun hne => by
    unfold TL
    cases hw : wr t ds 0 with
    | none => rfl
    | some j =>
      have : Nat.beq j i = false := by
        cases e : Nat.beq j i with
        | false => rfl
        | true => exact absurd (by rw [hw, Nat.eq_of_beq_eq_true e]) hne
      simp only [hL, this, Bool.or_false]
  cases dst with
  | none =>
    rw [other (fun hw => by have := (wr_some hw).2; rw [Nat.sub_zero, hd] at this; cases this)]
    exact h t
  | some d =>
    show (bif Nat.beq d t then v else slot t tm) = _
    cases e : Nat.beq d t with
    | true =>
      have := Nat.eq_of_beq_eq_true e
      subst this
      unfold TL
      rw [hu d rfl]
      simp [hL, beq_self, hv]
    | false =>
      rw [other (fun hw => by
        have := (wr_some hw).2
        rw [Nat.sub_zero, hd] at this
        cases this
        rw [Nat.beq_refl] at e
        cases e)]
      exact h t
theorem SL_step {vs : List (AV × List (Nat × Blk))} {st0 : List (Nat × Blk)} {st : Nat → Option Blk} {L L' : Nat → Bool} {i : Nat} {v : AV} {new : List (Nat × Blk)} (h : ∀ b, st b = SL nx vs st0 L b) (hL : ∀ j, L' j = (L j || Nat.beq j i)) (hi : L i = false)
    (hv : vs[i]? = some (v, new)) (hn : ∀ p ∈ new, nx + 16 * i ≤ p.1 ∧ p.1 < nx + 16 * i + 16) (b : Nat) : addAll new st b = SL nx vs st0 L' b := by
  unfold addAll SL
  by_cases hb : b < nx
  · have e : look b new = none := look_none (fun p hp e => by have := hn p hp; omega)
    rw [e, if_pos hb]
    have := h b
    unfold SL at this
    rw [if_pos hb] at this
    exact this
  · rw [if_neg hb]
    have hb2 := h b
    unfold SL at hb2
    rw [if_neg hb] at hb2
    by_cases hq : (b - nx) / 16 = i
    · rw [hq, hL, Nat.beq_refl, Bool.or_true, cond_true, hv]
      rw [hq, hi] at hb2
      simp only [Option.map_some, Option.getD_some]
      cases e : look b new with
      | some k => rfl
      | none => simpa using hb2
    · have e : look b new = none := look_none (fun p hp e => by have := hn p hp; omega)
      have e2 : Nat.beq ((b - nx) / 16) i = false := by
        cases e : Nat.beq ((b - nx) / 16) i with
        | false => rfl
        | true => exact absurd (Nat.eq_of_beq_eq_true e) hq
      rw [e, hL, e2, Bool.or_false]
      exact hb2
theorem DStep.ids {i : Nat} {o : Oper} {m : MOper} {tm : List (Nat × AV)} {st new : List (Nat × Blk)} {v : AV} (h : DStep P nx i o m tm st v new) : ∀ p ∈ new, nx + 16 * i ≤ p.1 ∧ p.1 < nx + 16 * i + 16 := by
  rcases h with ⟨_, h⟩ | ⟨_, _, _, _, _, rfl⟩
  · exact h.1
  · intro p hp; cases hp

theorem drun_facts {ds : List (Option Nat)} {VS : List (AV × List (Nat × Blk))} {tm0 : List (Nat × AV)} {st0 : List (Nat × Blk)} (hu : ∀ i d, ds[i]? = some (some d) → wr d ds 0 = some i) :
    ∀ {i : Nat} {l : List Oper} {ml : List MOper} {tm tm' : List (Nat × AV)} {st st' : List (Nat × Blk)} {vs : List (AV × List (Nat × Blk))}, DRun P nx i l ml tm st vs tm' st' → (∀ j : Nat, (ml[j]?).map (·.dst) = ds[i + j]?) → (∀ j : Nat, vs[j]? = VS[i + j]?) →
      (∀ t, slot t tm = TL ds VS tm0 (fun q => Nat.blt q i) t) → (∀ b, look b st = SL nx VS st0 (fun q => Nat.blt q i) b) →
      vs.length = l.length ∧ (∀ (j : Nat) (o : Oper) (m : MOper), l[j]? = some o → ml[j]? = some m → ∃ tmj stj v new, vs[j]? = some (v, new) ∧ DStep P nx (i + j) o m tmj stj v new ∧ (∀ t, slot t tmj = TL ds VS tm0 (fun q => Nat.blt q (i + j)) t) ∧ (∀ b, look b stj = SL nx VS st0 (fun q => Nat.blt q (i + j)) b)) ∧
      (∀ t, slot t tm' = TL ds VS tm0 (fun q => Nat.blt q (i + l.length)) t) ∧ (∀ b, look b st' = SL nx VS st0 (fun q => Nat.blt q (i + l.length)) b) := by
  intro i l ml tm tm' st st' vs h
  induction h with
  | nil => exact fun _ _ h1 h2 => ⟨rfl, fun j o m hj => by simp at hj, h1, h2⟩
  | @cons i o m l ml tm tm' st st' v new vs h hr ih =>
    intro hds hvs h1 h2
    have hvi : VS[i]? = some (v, new) := by have := hvs 0; simpa using this.symm
    have hdi : ds[i]? = some m.dst := by have := hds 0; simpa using this.symm
    have hL : ∀ j, Nat.blt j (i + 1) = (Nat.blt j i || Nat.beq j i) := fun j => by
      rw [Bool.eq_iff_iff, Bool.or_eq_true, Nat.blt_eq, Nat.blt_eq, Nat.beq_eq]
      omega
    have hi0 : Nat.blt i i = false := by
      cases e : Nat.blt i i with
      | false => rfl
      | true => rw [Nat.blt_eq] at e; omega
    have g1 := TL_step (v := v) (new := new) h1 hL hdi (fun d hd => hu i d (by rw [hdi, hd])) hvi
    have g2 := SL_step (nx := nx) (st := fun b => look b st) h2 hL hi0 hvi h.ids
    obtain ⟨r0, r1, r2, r3⟩ := ih (fun j => by have := hds (j + 1); rw [show i + 1 + j = i + (j + 1) by omega]; simpa using this) (fun j => by have := hvs (j + 1); rw [show i + 1 + j = i + (j + 1) by omega]; simpa using this) g1
      (fun b => by have := g2 b; rw [addAll_look] at this; exact this)
    refine ⟨by simp [r0], fun j o' m' hj hm => ?_, ?_, ?_⟩
    · cases j with
      | zero =>
        simp at hj hm
        subst hj hm
        exact ⟨tm, st, v, new, rfl, h, h1, h2⟩
      | succ j =>
        obtain ⟨tmj, stj, v', new', e1, e2, e3, e4⟩ := r1 j o' m' (by simpa using hj) (by simpa using hm)
        rw [show i + 1 + j = i + (j + 1) by omega] at e2 e3 e4
        exact ⟨tmj, stj, v', new', by simpa using e1, e2, e3, e4⟩
    · rw [List.length_cons, show i + (l.length + 1) = i + 1 + l.length by omega]; exact r2
    · rw [List.length_cons, show i + (l.length + 1) = i + 1 + l.length by omega]; exact r3

theorem TL_congr {ds : List (Option Nat)} {vs : List (AV × List (Nat × Blk))} {tm0 : List (Nat × AV)} {L L' : Nat → Bool} {t : Nat} (h : ∀ j, wr t ds 0 = some j → L j = L' j) : TL ds vs tm0 L t = TL ds vs tm0 L' t := by
  unfold TL
  cases hw : wr t ds 0 with
  | none => rfl
  | some j => simp only [h j hw]

theorem unl_lt {p q : Nat → Bool} {i : Nat} (hpq : ∀ j, q j = true → p j = true) (hi : p i = true) (hi' : q i = false) : ∀ {l : List Nat}, i ∈ l → (l.filter q).length < (l.filter p).length
  | [], h => by cases h
  | x :: l, h => by
    have le : ∀ l : List Nat, (l.filter q).length ≤ (l.filter p).length := by
      intro l
      induction l with
      | nil => exact Nat.le_refl _
      | cons y l ih =>
        rw [List.filter_cons, List.filter_cons]
        cases hq : q y with
        | true => rw [hpq y hq]; simpa using ih
        | false => cases p y <;> simp <;> omega
    rw [List.filter_cons, List.filter_cons]
    rcases List.mem_cons.1 h with e | e
    · subst e
      rw [hi, hi']
      have := le l
      simp
      omega
    · have ih := unl_lt hpq hi hi' e
      cases hq : q x with
      | true => rw [hpq x hq]; simpa using ih
      | false => cases p x <;> simp <;> omega
end
end Go.V

namespace Go.V
open Go Go.RowKit
section
variable {P : Program} {Q : AV → Prop} {As : List (St → Prop)} {mu : Nat → Bool} {N nx : Nat} {ops : Array Oper} {w0 : Base}

theorem blt_iff {a b : Nat} : Nat.blt a b = true ↔ a < b := by rw [Nat.blt_eq]
structure DOne (rows : List (List Nat)) (ds : List (Option Nat)) (i : Nat) (o : Oper) (m : MOper) : Prop where
  quiet : isMut m.op = false ∧ isNbin m.op = false
  see : ∀ t, (t ∈ tmpsOf o.op.operands.toList ∨ t ∈ gdOf m.gd) → seeOk rows ds i t = true
  lt : ∀ j, memN j (rowAt rows i) = true → j < i
  blocks : noStore m.op = true ∨ ahead rows m.hide i i = true
  dst : ∀ d, m.dst = some d → wr d ds 0 = some i
  edges : ∀ e ∈ o.after, Region.binds .any e = true → memN e.on (rowAt rows i) = true
theorem drawOne_spec {rows : List (List Nat)} {ds : List (Option Nat)} {i : Nat} {o : Oper} {m : MOper} (h : drawOne rows ds i o m = true) : DOne rows ds i o m := by
  unfold drawOne at h
  simp only [Bool.and_eq_true, Bool.not_eq_true', Bool.or_eq_true, List.all_eq_true, List.mem_append] at h
  obtain ⟨⟨⟨⟨⟨⟨h1, h2⟩, h3⟩, h4⟩, h5⟩, h6⟩, h7⟩ := h
  refine ⟨⟨h1, h2⟩, h3, fun j hj => ?_, h5, fun d hd => ?_, fun e he hb => ?_⟩
  · have := h4 j (memN_spec.1 hj)
    rwa [Nat.blt_eq] at this
  · rw [hd] at h6
    simp only at h6
    cases hw : wr d ds 0 with
    | none => rw [hw] at h6; cases h6
    | some j => rw [hw] at h6; rw [Nat.eq_of_beq_eq_true h6]
  · rcases h7 e (by simpa using he) with h | h
    · rw [hb] at h; cases h
    · exact h
theorem ahead_spec {rows : List (List Nat)} {hide : List Nat} {i : Nat} : ∀ {k : Nat}, ahead rows hide i k = true → ∀ j, j < k → memN j (rowAt rows i) = true ∨ memN j hide = true
  | 0, _, j, hj => by omega
  | k + 1, h, j, hj => by
    rw [ahead, Bool.and_eq_true, Bool.or_eq_true] at h
    by_cases e : j = k
    · subst e; exact h.1
    · exact ahead_spec h.2 j (by omega)
theorem mem_tmpsOf {t : Nat} : ∀ {l : List Operand}, Operand.tmp t ∈ l → t ∈ tmpsOf l
  | x :: r, h => by
    rcases List.mem_cons.1 h with e | e
    · subst e; exact List.mem_cons_self ..
    · have := mem_tmpsOf e
      cases x <;> simp [tmpsOf, this]

/-- Listed, and all that stands ahead of it. -/
def Closed (ops : Array Oper) (L : Nat → Bool) : Prop := ∀ i o e, L i = true → ops[i]? = some o → e ∈ o.after → Region.binds .any e = true → L e.on = true
theorem Closed.pred {L : Nat → Bool} (h : Closed ops L) {i j : Nat} (hp : Pred ops i j) : L i = true → L j = true := by
  induction hp with
  | one ho he hb => exact fun hi => h _ _ _ hi ho he hb
  | more ho he hb _ ih => exact fun hi => ih (h _ _ _ hi ho he hb)

theorem getD_setB (listed : Array Bool) (i j : Nat) (hi : i < listed.size) : (listed.setIfInBounds i true).getD j false = (listed.getD j false || Nat.beq j i) := by
  rw [Array.getD_eq_getD_getElem?, Array.getD_eq_getD_getElem?, Array.getElem?_setIfInBounds]
  by_cases h : i = j
  · subst h
    simp [hi, Nat.beq_refl]
  · have : Nat.beq j i = false := by
      cases e : Nat.beq j i with
      | false => rfl
      | true => exact absurd (Nat.eq_of_beq_eq_true e).symm h
    rw [if_neg h, this]
    simp

theorem any_ops {K : St → Tree} {R : Exit → Act → World → Prop} {ml : List MOper} {hs : List (List Nat)} {s : St} (hc : compOps P mu ops N ops.toList hs = some ml) (hd : drawOk ops ml = true) (hnx : ∀ b k, look b s.st = some k → b < nx)
    (hK : ∀ s' a' w', Sat P Q As (K s') → s'.nx = s.nx → RelS w0 N s'.tm s'.st (nx + 16 * ops.size) a' w' → R .normal a' w')
    (h : Sat P Q As (opsT nx ml 0 K s)) : ∀ (a : Act) (w : World), RelS w0 N s.tm s.st nx a w → wpAny P .any ops R ops.size (Array.replicate ops.size false) a w := by
  have hall := drawAll_spec 0 ops.toList ml hd
  obtain ⟨hlen, hone⟩ := hall
  have hlen' : ml.length = ops.size := by simpa using hlen
  have one : ∀ i o m, ops[i]? = some o → ml[i]? = some m → DOne (rowsOf ops.toList []) (ml.map (·.dst)) i o m := fun i o m ho hm => by
    have := hone i o m (by simpa using ho) hm
    rw [Nat.zero_add] at this
    exact drawOne_spec this
  have mlAt : ∀ i o, ops[i]? = some o → ∃ m, ml[i]? = some m := fun i o ho => by
    have := (Array.getElem?_eq_some_iff.1 ho).1
    exact ⟨ml[i]'(by omega), List.getElem?_eq_getElem _⟩
  have opsAt : ∀ i m, ml[i]? = some m → ∃ o, ops[i]? = some o := fun i m hm => by
    have := lt_of_get hm
    exact ⟨ops[i]'(by omega), Array.getElem?_eq_getElem _⟩
  obtain ⟨vs, tme, ste, hrun, hsat⟩ := drun_of ops.toList ml hs 0 hc (fun m hm => by
    obtain ⟨i, hi⟩ := List.getElem?_of_mem hm
    obtain ⟨o, ho⟩ := opsAt i m hi
    exact (one i o m ho hi).quiet) s h
  have hu : ∀ i d, (ml.map (·.dst))[i]? = some (some d) → wr d (ml.map (·.dst)) 0 = some i := fun i d hi => by
    rw [List.getElem?_map, Option.map_eq_some_iff] at hi
    obtain ⟨m, hm, hmd⟩ := hi
    obtain ⟨o, ho⟩ := opsAt i m hm
    exact (one i o m ho hm).dst d hmd
  have z1 : ∀ t, TL (ml.map (·.dst)) vs s.tm (fun q => Nat.blt q 0) t = slot t s.tm := fun t => by
    unfold TL
    cases wr t (ml.map (·.dst)) 0 with
    | none => rfl
    | some j =>
      have : Nat.blt j 0 = false := by
        cases e : Nat.blt j 0 with
        | false => rfl
        | true => rw [Nat.blt_eq] at e; omega
      simp only [this, cond_false]
  have z2 : ∀ (L : Nat → Bool), (∀ j, L j = false) → ∀ b, SL nx vs s.st L b = look b s.st := fun L hL b => by
    unfold SL
    by_cases hb : b < nx
    · rw [if_pos hb]
    · rw [if_neg hb, hL]
      cases e : look b s.st with
      | none => rfl
      | some k => exact absurd (hnx b k e) hb
  have z1' : ∀ (L : Nat → Bool), (∀ j, L j = false) → ∀ t, TL (ml.map (·.dst)) vs s.tm L t = slot t s.tm := fun L hL t => by
    unfold TL
    cases wr t (ml.map (·.dst)) 0 with
    | none => rfl
    | some j => simp only [hL, cond_false]
  have b0 : ∀ j, Nat.blt j 0 = false := fun j => by
    cases e : Nat.blt j 0 with
    | false => rfl
    | true => rw [Nat.blt_eq] at e; omega
  obtain ⟨hvl, hfacts, hend1, hend2⟩ := drun_facts (nx := nx) (ds := ml.map (·.dst)) (VS := vs) (tm0 := s.tm) (st0 := s.st) hu hrun (fun j => by simp) (fun j => by rw [Nat.zero_add]) (fun t => (z1 t).symm) (fun b => (z2 _ b0 b).symm)
  simp only [Nat.zero_add, Array.length_toList] at hfacts hend1 hend2 hvl
  -- the end
  have fin : ∀ (L : Nat → Bool) (a : Act) (w : World), (∀ j, j < ops.size → L j = true) → (∃ tm' st', Rel w0 N tm' st' a w ∧ (∀ t, slot t tm' = TL (ml.map (·.dst)) vs s.tm L t) ∧ (∀ b, st' b = SL nx vs s.st L b)) → R .normal a w := by
    intro L a w hL ⟨tm', st', ⟨at_, FP, hh⟩, h1, h2⟩
    refine hK _ a w hsat rfl ⟨⟨at_, FP, hh.congr (fun t => ?_) (fun b => ?_)⟩, fun b k hb => ?_⟩
    · rw [h1, hend1]
      refine TL_congr (fun j hj => ?_)
      have := lt_of_get (wr_some hj).2
      simp at this
      have hj' : j < ops.size := by omega
      rw [hL j hj']
      exact (blt_iff.2 hj').symm
    · rw [h2, hend2]
      unfold SL
      by_cases hb : b < nx
      · rw [if_pos hb, if_pos hb]
      · rw [if_neg hb, if_neg hb]
        by_cases hq : (b - nx) / 16 < ops.size
        · rw [hL _ hq]
          dsimp only
          rw [blt_iff.2 hq]
        · have e : vs[(b - nx) / 16]? = none := by
            rw [List.getElem?_eq_none_iff]
            omega
          rw [e]
          simp [look]
    · have hb' := hend2 b
      rw [show look b ste = some k from hb] at hb'
      unfold SL at hb'
      by_cases hbx : b < nx
      · omega
      · rw [if_neg hbx] at hb'
        cases e : Nat.blt ((b - nx) / 16) ops.size with
        | true => rw [Nat.blt_eq] at e; omega
        | false => dsimp only at hb'; rw [e] at hb'; simp at hb'
  -- the way
  have way : ∀ (fuel : Nat) (listed : Array Bool) (a : Act) (w : World), listed.size = ops.size → Closed ops (fun j => listed.getD j false) → ((List.range ops.size).filter (fun j => !(listed.getD j false))).length ≤ fuel →
      (∃ tm' st', Rel w0 N tm' st' a w ∧ (∀ t, slot t tm' = TL (ml.map (·.dst)) vs s.tm (fun j => listed.getD j false) t) ∧ (∀ b, st' b = SL nx vs s.st (fun j => listed.getD j false) b)) → wpAny P .any ops R fuel listed a w := by
    have unl : ∀ (listed : Array Bool) (j : Nat), listed.size = ops.size → j < ops.size → listed.getD j true = listed.getD j false := fun listed j h1 h2 => by
      rw [Array.getD_eq_getD_getElem?, Array.getD_eq_getD_getElem?, Array.getElem?_eq_getElem (by omega)]
      rfl
    have done : ∀ (listed : Array Bool), listed.size = ops.size → Region.ready .any ops listed = [] → ∀ j, j < ops.size → listed.getD j false = true := by
      intro listed hsz hr j
      induction j using Nat.strongRecOn with
      | _ j ih =>
        intro hj
        have ho : ops[j]? = some ops[j] := Array.getElem?_eq_getElem hj
        obtain ⟨m, hm⟩ := mlAt j _ ho
        cases e : listed.getD j false with
        | true => rfl
        | false =>
          have : j ∈ Region.ready .any ops listed := mem_ready.2 ⟨by rw [unl listed j hsz hj]; exact e, _, ho, fun e he hb => by
            have hlt := (one j _ m ho hm).lt e.on ((one j _ m ho hm).edges e he hb)
            exact ih e.on hlt (by omega)⟩
          rw [hr] at this
          cases this
    intro fuel
    induction fuel with
    | zero =>
      intro listed a w hsz hcl hf hst
      have hL : ∀ j, j < ops.size → listed.getD j false = true := fun j hj => by
        cases e : listed.getD j false with
        | true => rfl
        | false =>
          have : j ∈ (List.range ops.size).filter (fun j => !(listed.getD j false)) := List.mem_filter.2 ⟨List.mem_range.2 hj, by rw [e]; rfl⟩
          have := List.length_pos_of_mem this
          omega
      refine ⟨?_, fin _ a w hL hst⟩
      cases hr : Region.ready .any ops listed with
      | nil => rfl
      | cons i r =>
        have hi : i ∈ Region.ready .any ops listed := by rw [hr]; exact List.mem_cons_self ..
        obtain ⟨h1, o, ho, _⟩ := mem_ready.1 hi
        have hlt := (Array.getElem?_eq_some_iff.1 ho).1
        rw [unl listed i hsz hlt, hL i hlt] at h1
        cases h1
    | succ fuel ih =>
      intro listed a w hsz hcl hf hst
      refine ⟨fun hr => fin _ a w (done listed hsz hr) hst, fun i hi => ?_⟩
      obtain ⟨hun, o, ho, hpre⟩ := mem_ready.1 hi
      have hlt := (Array.getElem?_eq_some_iff.1 ho).1
      rw [unl listed i hsz hlt] at hun
      obtain ⟨m, hm⟩ := mlAt i o ho
      have d1 := one i o m ho hm
      obtain ⟨tmj, stj, v, new, hv, hstep, f1, f2⟩ := hfacts i o m (by simpa using ho) hm
      obtain ⟨tm', st', ⟨at_, FP, hh⟩, h1, h2⟩ := hst
      have pre : ∀ j, Pred ops i j → listed.getD j false = true := fun j hp => by
        cases hp with
        | one ho' he hb =>
          rw [ho] at ho'
          cases ho'
          exact hpre _ he hb
        | more ho' he hb hp =>
          rw [ho] at ho'
          cases ho'
          exact hcl.pred hp (hpre _ he hb)
      have post : ∀ j, Pred ops j i → listed.getD j false = false := fun j hp => by
        cases e : listed.getD j false with
        | false => rfl
        | true =>
          have := hcl.pred hp e
          rw [hun] at this
          cases this
      have same : ∀ t, (t ∈ tmpsOf o.op.operands.toList ∨ t ∈ gdOf m.gd) → slot t tm' = slot t tmj := fun t ht => by
        rw [h1, f1]
        refine TL_congr (fun j hj => ?_)
        have hs := d1.see t ht
        unfold seeOk at hs
        rw [hj] at hs
        simp only [Bool.or_eq_true] at hs
        rcases hs with (e | e) | e
        · have := Nat.eq_of_beq_eq_true e
          subst this
          show listed.getD j false = Nat.blt j j
          rw [hun]
          cases e2 : Nat.blt j j with
          | false => rfl
          | true => rw [Nat.blt_eq] at e2; omega
        · show listed.getD j false = Nat.blt j i
          rw [pre j (rowAt_spec e), blt_iff.2 (d1.lt j e)]
        · show listed.getD j false = Nat.blt j i
          rw [post j (rowAt_spec e)]
          have hjm : j < ops.size := by
            have := lt_of_get (wr_some hj).2
            simp at this
            omega
          have hoj : ops[j]? = some ops[j] := Array.getElem?_eq_getElem hjm
          obtain ⟨mj, hmj⟩ := mlAt j _ hoj
          have := (one j _ mj hoj hmj).lt i e
          cases e2 : Nat.blt j i with
          | false => rfl
          | true => rw [Nat.blt_eq] at e2; omega
      have cs : CompO P mu ops N o m := by
        have key : ∀ (l : List Oper) (ml : List MOper) (hs : List (List Nat)), compOps P mu ops N l hs = some ml → ∀ (i : Nat) (o : Oper) (m : MOper), l[i]? = some o → ml[i]? = some m → CompO P mu ops N o m := by
          intro l
          induction l with
          | nil => intro ml hs _ i o m ho; simp at ho
          | cons x l ihl =>
            intro ml hs hc i o m ho hm
            simp only [compOps, Option.bind_eq_some_iff, Option.map_eq_some_iff] at hc
            obtain ⟨m', hm', ml', hml, rfl⟩ := hc
            cases i with
            | zero => simp at ho hm; subst ho hm; exact compO_spec hm'
            | succ i => exact ihl ml' hs.tail hml i o m (by simpa using ho) (by simpa using hm)
        exact key _ ml hs hc i o m (by simpa using ho) hm
      have hL' : ∀ j, (listed.setIfInBounds i true).getD j false = (listed.getD j false || Nat.beq j i) := fun j => getD_setB listed i j (by omega)
      have next : ∀ (a' : Act) (w' : World) (at1 : Nat → Option (Nat × Nat)) (FP1 : Nat → List Nat), Here w0 N (putT m.dst v tm') (addAll new st') a' w' at1 FP1 → wpAny P .any ops R fuel (listed.setIfInBounds i true) a' w' := by
        intro a' w' at1 FP1 hh1
        refine ih (listed.setIfInBounds i true) a' w' (by simpa using hsz) (fun i' o' e hi' ho' he hb => ?_) ?_ ⟨_, _, ⟨at1, FP1, hh1⟩, fun t => ?_, fun b => ?_⟩
        · simp only [hL', Bool.or_eq_true] at hi' ⊢
          rcases hi' with hi' | hi'
          · exact .inl (hcl i' o' e hi' ho' he hb)
          · have := Nat.eq_of_beq_eq_true hi'
            subst this
            rw [ho] at ho'
            cases ho'
            exact .inl (hpre e he hb)
        · have := unl_lt (p := fun j => !(listed.getD j false)) (q := fun j => !((listed.setIfInBounds i true).getD j false)) (i := i) (fun j hq => by simp only [hL'] at hq ⊢; simp at hq ⊢; exact hq.1) (by simp only [hun]; rfl) (by simp only [hL', Nat.beq_refl]; simp) (l := List.range ops.size) (List.mem_range.2 hlt)
          omega
        · exact TL_step h1 (fun j => hL' j) (by rw [List.getElem?_map, hm]; rfl) d1.dst hv t
        · exact SL_step (nx := nx) h2 (fun j => hL' j) hun hv hstep.ids b
      have hput : ∀ (a' : Act) (w' : World) (st1 : Nat → Option Blk) (at1 : Nat → Option (Nat × Nat)) (FP1 : Nat → List Nat) (u : Value), Here w0 N tm' st1 a' w' at1 FP1 → Loc ⟨w0, w', at1, st1⟩ v u → Here w0 N (putT m.dst v tm') st1 (a'.put o.dst u) w' at1 FP1 := by
        intro a' w' st1 at1 FP1 u hh1 hl1
        rw [cs.dst]
        have hlt := cs.lt
        rw [cs.dst] at hlt
        cases hd : m.dst with
        | none => exact hh1
        | some d => exact hh1.put hl1 (hlt d hd)
      unfold wpOp
      rw [ho]
      simp only
      rcases hstep with ⟨hg, hok⟩ | ⟨d, want, hgd, hsl, rfl, rfl⟩
      · have hw : Region.wanted o (yielded ops a.tmps) = true := by
          rcases hg with hg | ⟨d, want, hg, hs⟩
          · exact guard_none cs hg _
          · have := same d (.inr (by rw [hg]; exact List.mem_cons_self ..))
            rw [(guard_run hh cs hg).1 want (by rw [this, hs])]
            simp
        rw [hw, if_pos rfl]
        refine .inl ((hok.2 w0 N tm' st' a w (fun x hx => ?_) (fun b k hb => ?_) (fun b hb1 hb2 => ?_) ⟨at_, FP, hh⟩).wp (fun u w' hu => ?_))
        · cases x with
          | tmp t => exact same t (.inl (mem_tmpsOf hx))
          | const => rfl
          | global => rfl
          | func => rfl
        · unfold used at hb
          cases hns : noStore m.op with
          | true => rw [hns] at hb; cases hb
          | false =>
            rw [hns, cond_false] at hb
            have hah := ahead_spec (d1.blocks.resolve_left (by rw [hns]; exact fun h => by cases h))
            have hb1 := hid_look hb
            rw [f2] at hb1
            rw [h2, ← hb1]
            unfold SL at hb1 ⊢
            by_cases hbx : b < nx
            · rw [if_pos hbx, if_pos hbx]
            · rw [if_neg hbx] at hb1
              rw [if_neg hbx, if_neg hbx]
              cases e : Nat.blt ((b - nx) / 16) i with
              | false => dsimp only at hb1; rw [e] at hb1; simp at hb1
              | true =>
                dsimp only
                rw [e, cond_true]
                rcases hah _ (blt_iff.1 e) with hp | hp
                · rw [pre _ (rowAt_spec hp), cond_true]
                · exfalso
                  unfold hid at hb
                  split at hb
                  · rename_i hnil
                    rw [hnil] at hp
                    cases hp
                  · rw [look_hidden] at hb
                    have : Nat.blt b nx = false := by
                      cases e : Nat.blt b nx with
                      | false => rfl
                      | true => rw [Nat.blt_eq] at e; omega
                    rw [this, cond_false, hp, cond_true] at hb
                    cases hb
        · rw [h2]
          unfold SL
          have : (b - nx) / 16 = i := by omega
          rw [if_neg (by omega), this]
          dsimp only
          rw [hun]
          rfl
        · obtain ⟨at1, FP1, hh1, hl1⟩ := hu
          exact next _ _ _ _ (hput _ _ _ _ _ _ hh1 hl1)
      · have hw : Region.wanted o (yielded ops a.tmps) = false := by
          have := same d (.inr (by rw [hgd]; exact List.mem_cons_self ..))
          rcases hsl with ⟨b, hb, hbw⟩ | hsl
          · rw [(guard_run hh cs hgd).1 b (by rw [this, hb])]
            exact hbw
          · exact (guard_run hh cs hgd).2 (by rw [this, hsl])
        rw [hw]
        simp only [Bool.false_eq_true, if_false]
        exact next _ _ at_ FP (hput _ _ _ _ _ _ hh .undef)
  intro a w hrel
  refine way ops.size (Array.replicate ops.size false) a w (by simp) (fun i o e hi => ?_) ?_ ⟨s.tm, fun b => look b s.st, hrel.1, fun t => (z1' _ (fun j => ?_) t).symm, fun b => (z2 _ (fun j => ?_) b).symm⟩
  · dsimp only at hi
    rw [Array.getD_eq_getD_getElem?, Array.getElem?_replicate] at hi
    split at hi <;> simp at hi
  · refine Nat.le_trans (List.length_filter_le _ _) (by simp)
  · rw [Array.getD_eq_getD_getElem?, Array.getElem?_replicate]
    split <;> rfl
  · rw [Array.getD_eq_getD_getElem?, Array.getElem?_replicate]
    split <;> rfl
end
end Go.V

namespace Go.V
open Go Go.RowKit
section
variable {P : Program} {Q : AV → Prop} {w0 : Base} {w : World} {N : Nat} {a : Act}

/-! ### A state that knows less -/
theorem LeV.loc {E E1 : Env} {st st1 : List (Nat × Blk)} (h0 : E1.w0 = E.w0) (hw : E1.w = E.w) (hE : ∀ b, E.st b = look b st) (hE1 : ∀ b, E1.st b = look b st1)
    (hk : ∀ b k, look b st1 = some k → (∃ k', look b st = some k' ∧ LeK st st1 k' k) ∨ (look b st = none ∧ phantom k))
    (ha : ∀ b, look b st ≠ none → E1.at_ b = E.at_ b) (ha' : ∀ b, look b st = none → E1.at_ b = none) {x y : AV} (h : LeV st st1 x y) : ∀ {v : Value}, Loc E x v → Loc E1 y v := by
  have refat : ∀ {b off n len sz : Nat} {v : Value}, look b st ≠ none → RefAt E b off n len sz v → RefAt E1 b off n len sz v := by
    intro b off n len sz v hb hr
    obtain ⟨h1, h2⟩ := hr
    refine ⟨h1, ?_⟩
    rw [ha b hb, hw]
    exact h2
  have ph : ∀ {b : Nat} {A : Option Addr} {off n : Unit → Nat}, look b st1 ≠ none → look b st = none → off () = 0 → n () = 0 → Loc E1 (.ref b off n) (.slice A 0 0) := by
    intro b A off n hb1 hb h1 h2
    cases e : look b st1 with
    | none => exact absurd e hb1
    | some k =>
      rcases hk b k e with ⟨k', hk', _⟩ | ⟨_, hp⟩
      · rw [hb] at hk'; cases hk'
      · cases k with
        | lit => exact hp.elim
        | row sz enc xs fx => exact .ref ((hE1 b).trans e) (.ofNone (ha' b hb) (by rw [h1, h2]; exact Nat.zero_le _))
  induction h with
  | any x => exact fun _ => .any _
  | undef => intro v hl; cases hl; exact .undef
  | int h => intro v hl; rw [hl.int_inv, h]; exact .int _ _
  | bo b => intro v hl; cases hl; exact .bo _
  | str h => intro v hl; rw [hl.str_inv, h]; exact .str _
  | nil => intro v hl; cases hl; exact .nil
  | emp => intro v hl; cases hl; exact .emp _
  | @sl α sz enc xs ys h =>
    intro v hl
    cases hl with
    | sl hd => exact .sl (by rw [h0]; exact ⟨(LeD.sl (sz := sz) (enc := enc) h).deep hd.deep, hd.old⟩)
  | @ref b off n off' n' hb hb' h hn =>
    intro v hl
    cases e : look b st1 with
    | none => exact absurd e hb
    | some k =>
      rcases hk b k e with ⟨k', hk', hle⟩ | ⟨hno, _⟩
      · cases hl with
        | ref hbb hr =>
          rw [hE, hk'] at hbb
          cases hbb
          cases hle with
          | row hxs => exact .ref ((hE1 b).trans e) (by rw [← h, ← hn, ← hxs]; exact refat hb' hr)
        | refl hbb hr =>
          rw [hE, hk'] at hbb
          cases hbb
          cases hle with
          | lit hl _ => exact .refl ((hE1 b).trans e) (by rw [← h, ← hn, hl]; exact refat hb' hr)
      · exact absurd hno hb'
  | nilref hb hb' h hn => intro v hl; cases hl; exact ph hb hb' h hn
  | empref hb hb' h hn => intro v hl; cases hl; exact ph hb hb' h hn
  | @ptr b j hb =>
    intro v hl
    cases e : look b st1 with
    | none => exact absurd e hb
    | some k =>
      cases hl with
      | @ptr sz cs _ _ g base hbb hat =>
        rcases hk b k e with ⟨k', hk', hle⟩ | ⟨hno, _⟩
        · rw [hE, hk'] at hbb
          cases hbb
          cases hle with
          | lit hl _ => exact .ptr ((hE1 b).trans e) ((ha b (by rw [hk']; exact fun h => by cases h)).trans hat)
        · rw [hE, hno] at hbb; cases hbb
  | rptr cs => intro v hl; cases hl with | rptr hd => exact .rptr (h0 ▸ hd)
  | lsl cs => intro v hl; cases hl with | lsl hd => exact .lsl (h0 ▸ hd)
  | agg hl h ih =>
    intro v hx
    obtain ⟨us, rfl, hs, hd⟩ := hx.agg_inv
    refine .agg (hs.trans hl.symm) (fun i y hy => ?_)
    obtain ⟨x, hx⟩ := get_of_len hl hy
    exact ih i x y hx hy (hd i x hx)
  | clo hl h ih =>
    intro v hx
    obtain ⟨us, rfl, hs, hd⟩ := hx.clo_inv
    refine .clo (hs.trans hl.symm) (fun i y hy => ?_)
    obtain ⟨x, hx⟩ := get_of_len hl hy
    exact ih i x y hx hy (hd i x hx)

theorem RelS.weak {s s1 : St} (h : RelS w0 N s.tm s.st s.nx a w) (hs : LeS s s1) : RelS w0 N s1.tm s1.st s1.nx a w := by
  obtain ⟨⟨at_, FP, hh⟩, hfr⟩ := h
  refine ⟨?_, hs.fresh⟩
  let at1 : Nat → Option (Nat × Nat) := fun b => match look b s.st with | none => none | some _ => at_ b
  let FP1 : Nat → List Nat := fun b => match look b s.st with | none => [] | some _ => FP b
  have e1 : ∀ b, look b s.st ≠ none → at1 b = at_ b ∧ FP1 b = FP b := fun b hb => by
    simp only [at1, FP1]
    cases e : look b s.st with
    | none => exact absurd e hb
    | some k => exact ⟨rfl, rfl⟩
  have e2 : ∀ b, look b s.st = none → at1 b = none ∧ FP1 b = [] := fun b hb => by
    simp only [at1, FP1, hb]
    exact ⟨trivial, trivial⟩
  have loc : ∀ {x y : AV} {v : Value}, LeV s.st s1.st x y → Loc ⟨w0, w, at_, fun b => look b s.st⟩ x v → Loc ⟨w0, w, at1, fun b => look b s1.st⟩ y v := fun h =>
    LeV.loc (E := ⟨w0, w, at_, fun b => look b s.st⟩) (E1 := ⟨w0, w, at1, fun b => look b s1.st⟩) rfl rfl (fun _ => rfl) (fun _ => rfl) hs.st (fun b hb => (e1 b hb).1) (fun b hb => (e2 b hb).1) h
  have own1 : ∀ b, look b s.st ≠ none → (⟨w0, w, at1, fun b => look b s1.st⟩ : Env).own FP1 b = (⟨w0, w, at_, fun b => look b s.st⟩ : Env).own FP b := fun b hb => by
    show ownOf (at1 b) (FP1 b) = ownOf (at_ b) (FP b)
    rw [(e1 b hb).1, (e1 b hb).2]
  have own2 : ∀ b, look b s.st = none → (⟨w0, w, at1, fun b => look b s1.st⟩ : Env).own FP1 b = [] := fun b hb => by
    show ownOf (at1 b) (FP1 b) = []
    rw [(e2 b hb).1]
    rfl
  have some_ne : ∀ {b : Nat} {k : Blk}, look b s.st = some k → look b s.st ≠ none := fun h => by rw [h]; exact fun c => by cases c
  refine ⟨at1, FP1, ⟨hh.good.below, fun b k hb => ?_, fun b k hb => ?_, fun b k hb => ?_, fun b b' k k' hb hb' hne => ?_, fun b k hb => ?_, fun b p hp => ?_⟩, hh.defers, hh.size, fun t => loc (hs.tm t) (hh.loc t)⟩
  · rcases hs.st b k hb with ⟨k', hk', hle⟩ | ⟨hno, hp⟩
    · rw [(e1 b (some_ne hk')).2]
      have r := hh.good.rep b k' hk'
      cases hle with
      | lit hl hle =>
        generalize FP b = fp at r
        cases r with
        | lit hat hg hc =>
          refine .lit ((e1 b (some_ne hk')).1.trans hat) hg (fun j y hy => ?_)
          obtain ⟨x, hx⟩ := get_of_len hl hy
          obtain ⟨u, hu, hlx⟩ := hc j x hx
          exact ⟨u, hu, loc (hle j x y hx hy) hlx⟩
      | row hxs =>
        generalize FP b = fp at r
        cases r with
        | row0 hat hx => exact .row0 ((e1 b (some_ne hk')).1.trans hat) (hxs ▸ hx)
        | row F hat hg hr hc =>
          rw [hxs] at hr hc ⊢
          exact .row F ((e1 b (some_ne hk')).1.trans hat) hg hr hc
    · rw [(e2 b hno).2]
      cases k with
      | lit => exact hp.elim
      | row sz enc xs fx => exact .row0 (e2 b hno).1 hp
  · rcases hs.st b k hb with ⟨k', hk', _⟩ | ⟨hno, _⟩
    · rw [own1 b (some_ne hk')]; exact hh.good.nodup b k' hk'
    · rw [own2 b hno]; exact List.nodup_nil
  · rcases hs.st b k hb with ⟨k', hk', _⟩ | ⟨hno, _⟩
    · rw [own1 b (some_ne hk')]; exact hh.good.base b k' hk'
    · rw [own2 b hno]; exact fun g hg => by cases hg
  · rcases hs.st b k hb with ⟨q, hq, _⟩ | ⟨hno, _⟩
    · rcases hs.st b' k' hb' with ⟨q', hq', _⟩ | ⟨hno', _⟩
      · rw [own1 b (some_ne hq), own1 b' (some_ne hq')]; exact hh.good.apart b b' q q' hq hq' hne
      · rw [own2 b' hno']; exact fun g _ hg => by cases hg
    · rw [own2 b hno]; exact fun g hg => by cases hg
  · rcases hs.st b k hb with ⟨k', hk', _⟩ | ⟨hno, _⟩
    · rw [own1 b (some_ne hk')]; exact hh.good.fresh b k' hk'
    · rw [own2 b hno]; exact fun g hg => by cases hg
  · obtain ⟨p1, p2, α, enc, xs, p3, p4⟩ := hh.good.pins b p hp
    have p3 : look b s.st = _ := p3
    have hne : look b s.st ≠ none := some_ne p3
    refine ⟨(e1 b hne).1.trans p1, (e1 b hne).2.trans p2, ?_⟩
    cases e : look b s1.st with
    | none => exact absurd e (hs.fxs b α p.sz enc xs p3)
    | some k =>
      rcases hs.st b k e with ⟨k', hk', hle⟩ | ⟨hno, _⟩
      · rw [p3] at hk'
        cases hk'
        cases hle with
        | row hxs => exact ⟨α, enc, _, e, by rw [← hxs]; exact p4⟩
      · exact absurd hno hne

theorem slot_keep {tm : List (Nat × AV)} {t : Nat} : ∀ {l : List Nat}, slot t (keepT tm l) = slot t tm ∨ slot t (keepT tm l) = .any
  | [] => .inr rfl
  | x :: r => by
    rw [keepT, slot]
    cases e : Nat.beq x t with
    | true => rw [Nat.eq_of_beq_eq_true e]; exact .inl rfl
    | false => exact slot_keep
theorem RelS.keep {tm : List (Nat × AV)} {st : List (Nat × Blk)} {n : Nat} (h : RelS w0 N tm st n a w) (l : List Nat) : RelS w0 N (keepT tm l) st n a w := by
  obtain ⟨⟨at_, FP, hh⟩, hfr⟩ := h
  refine ⟨⟨at_, FP, hh.good, hh.defers, hh.size, fun t => ?_⟩, hfr⟩
  rcases slot_keep (tm := tm) (t := t) (l := l) with e | e
  · rw [e]; exact hh.loc t
  · rw [e]; exact .any _
theorem RelS.drawn {tm : List (Nat × AV)} {st : List (Nat × Blk)} {n : Nat} (h : RelS w0 N tm st n a w) : RelS w0 N tm st n a { w with drawn := w.drawn + 1 } := by
  obtain ⟨⟨at_, FP, hh⟩, hfr⟩ := h
  exact ⟨⟨at_, FP, hh.world ⟨rfl, rfl, rfl, Nat.le_refl _, fun _ _ => rfl⟩⟩, hfr⟩
end

/-! ### The code -/
abbrev Hints := List (Nat × List Nat × List (List Nat))
def hintOf (id : Nat) : Hints → List Nat × List (List Nat)
  | [] => ([], [])
  | p :: r => bif Nat.beq p.1 id then p.2 else hintOf id r
def compC (P : Program) (mu : Nat → Bool) (N : Nat) (H : Hints) : Code → Option MCode
  | .skip => some .skip
  | .region id ops draw => (compOps P mu ops N ops.toList (hintOf id H).2).bind fun l => if (draw && !drawOk ops l) = true then none else some (.region l (hintOf id H).1)
  | .seq a b => (compC P mu N H a).bind fun x => (compC P mu N H b).map fun y => .seq (fun _ => x) (fun _ => y)
  | .cond c t e => (compC P mu N H t).bind fun x => (compC P mu N H e).map fun y => .cond c (fun _ => x) (fun _ => y)
  | .block id c => (compC P mu N H c).map fun x => .block id (fun _ => x)
  | .loop c => (compC P mu N H c).map fun x => .loop (fun _ => x)
  | .exit id => some (.exit id)
  | .ret => some .ret
  | _ => none

def exOf : Ex → Exit
  | .normal => .normal
  | .exit i => .exit i
  | .ret => .ret

theorem compOps_length {P : Program} {mu : Nat → Bool} {N : Nat} {ops : Array Oper} : ∀ {l : List Oper} {hs : List (List Nat)} {ml : List MOper}, compOps P mu ops N l hs = some ml → ml.length = l.length
  | [], hs, ml, h => by
    simp only [compOps, Option.some.injEq] at h
    subst h
    rfl
  | o :: l, hs, ml, h => by
    simp only [compOps, Option.bind_eq_some_iff, Option.map_eq_some_iff] at h
    obtain ⟨m, _, ml', hml, rfl⟩ := h
    simp [compOps_length hml]

theorem code_ok {P : Program} {Q : AV → Prop} {mu : Nat → Bool} {N : Nat} {H : Hints} {w0 : Base} (hm : P.follows .mixedOrders = true) : ∀ (c : Code) (m : MCode), compC P mu N H c = some m →
    ∀ (As : List (St → Prop)) (K : Ex → St → Tree) (R : Exit → Act → World → Prop) (s : St) (a : Act) (w : World), Sat P Q As (exec m K s) → RelS w0 N s.tm s.st s.nx a w →
      (∀ e s' a' w', Sat P Q As (K e s') → RelS w0 N s'.tm s'.st s'.nx a' w' → R (exOf e) a' w') → c.wp P R a w := by
  intro c
  induction c with
  | skip =>
    intro m hc As K R s a w h hr hK
    cases hc
    exact wp_skip (hK .normal s a w h hr)
  | region id ops draw =>
    intro m hc As K R s a w h hr hK
    simp only [compC, Option.bind_eq_some_iff] at hc
    obtain ⟨l, hl, hc⟩ := hc
    split at hc
    · cases hc
    · rename_i hd
      cases hc
      have hlen := compOps_length hl
      have hlen' : l.length = ops.size := by simpa using hlen
      rw [exec] at h
      have hK' : ∀ s' a' w', Sat P Q As ((fun s' : St => K .normal { tm := keepT s'.tm (hintOf id H).1, st := s'.st, nx := s.nx + 16 * l.length }) s') → s'.nx = s.nx → RelS w0 N s'.tm s'.st (s.nx + 16 * ops.size) a' w' → R .normal a' w' := fun s' a' w' hs _ hr' => by
        refine hK .normal _ a' w' hs ?_
        rw [hlen']
        exact hr'.keep _
      cases draw with
      | false =>
        refine wp_region ?_
        rw [List.range_eq_range']
        exact seq_ops (nx := s.nx) s.nx hK' ops.toList l _ 0 (fun j => by simp) (by simp) hl s a w rfl h hr
      | true =>
        have hd' : drawOk ops l = true := by
          cases e : drawOk ops l with
          | true => rfl
          | false => rw [e] at hd; exact absurd rfl hd
        exact wp_region_any hm (any_ops (nx := s.nx) hl hd' hr.2 hK' h a _ hr.drawn)
  | seq x y ihx ihy =>
    intro m hc As K R s a w h hr hK
    simp only [compC, Option.bind_eq_some_iff, Option.map_eq_some_iff] at hc
    obtain ⟨mx, hx, my, hy, rfl⟩ := hc
    rw [exec] at h
    refine wp_seq (ihx mx hx As _ _ s a w h hr (fun e s' a' w' hs hr' => ?_))
    cases e with
    | normal => exact ihy my hy As K R s' a' w' hs hr' hK
    | exit i => exact hK (.exit i) s' a' w' hs hr'
    | ret => exact hK .ret s' a' w' hs hr'
  | cond c t e iht ihe =>
    intro m hc As K R s a w h hr hK
    simp only [compC, Option.bind_eq_some_iff, Option.map_eq_some_iff] at hc
    obtain ⟨mt, ht, me, he, rfl⟩ := hc
    rw [exec] at h
    split at h
    · rename_i b hb
      obtain ⟨⟨at_, FP, hh⟩, _⟩ := id hr
      have hl := hh.ev c
      rw [hb] at hl
      refine wp_cond hl.bo_inv ?_
      cases b with
      | true => exact iht mt ht As K R s a w h hr hK
      | false => exact ihe me he As K R s a w h hr hK
    · exact (no_bad h).elim
  | block id c ih =>
    intro m hc As K R s a w h hr hK
    simp only [compC, Option.map_eq_some_iff] at hc
    obtain ⟨x, hx, rfl⟩ := hc
    rw [exec] at h
    refine wp_block (ih x hx As _ _ s a w h hr (fun e s' a' w' hs hr' => ?_))
    cases e with
    | normal => exact hK .normal s' a' w' hs hr'
    | ret => exact hK .ret s' a' w' hs hr'
    | exit i =>
      show (if i = id then R .normal a' w' else R (.exit i) a' w')
      cases e : Nat.beq i id with
      | true =>
        have := Nat.eq_of_beq_eq_true e
        subst this
        rw [if_pos rfl]
        simp only [e, cond_true] at hs
        exact hK .normal s' a' w' hs hr'
      | false =>
        rw [if_neg (fun h => by subst h; rw [Nat.beq_refl] at e; cases e)]
        simp only [e, cond_false] at hs
        exact hK (.exit i) s' a' w' hs hr'
  | loop c ih =>
    intro m hc As K R s a w h hr hK
    simp only [compC, Option.map_eq_some_iff] at hc
    obtain ⟨x, hx, rfl⟩ := hc
    rw [exec] at h
    cases h with
    | @loop _ _ _ ι S G μ x0 hs hg hb =>
      have rounds : ∀ (n : Nat) (y : ι) (a : Act) (w : World), μ y < n → G y → RelS w0 N (S y).tm (S y).st (S y).nx a w → Code.rounds P c R n a w := by
        intro n
        induction n with
        | zero => intro y a w h; exact absurd h (Nat.not_lt_zero _)
        | succ n ihn =>
          intro y a w hn hG hr'
          rw [rounds_succ]
          refine ih x hx _ _ _ (S y) a w (hb y hG) hr' (fun e s' a' w' hs' hr2 => ?_)
          cases e with
          | normal =>
            cases hs' with
            | again hA =>
              obtain ⟨z, hle, hGz, hμ⟩ := hA
              exact ihn z a' w' (by omega) hGz (hr2.weak hle)
          | exit i =>
            cases hs' with
            | pop hs' => exact hK (.exit i) s' a' w' hs' hr2
          | ret =>
            cases hs' with
            | pop hs' => exact hK .ret s' a' w' hs' hr2
      exact wp_loop_rounds (μ x0 + 1) (rounds _ x0 a w (Nat.lt_succ_self _) hg (hr.weak hs))
  | exit id =>
    intro m hc As K R s a w h hr hK
    cases hc
    exact wp_exit (hK (.exit id) s a w h hr)
  | ret =>
    intro m hc As K R s a w h hr hK
    cases hc
    exact wp_ret (hK .ret s a w h hr)
  | _ => intro m hc; cases hc
end Go.V

namespace Go.V
open Go Go.RowKit

/-! ### A function -/
theorem slot_number {t : Nat} : ∀ {l : List AV} {i : Nat}, slot t (number i l) = if i ≤ t ∧ t < i + l.length then l.getD (t - i) .any else .any
  | [], i => by
    rw [number, slot, if_neg (by simp only [List.length_nil]; omega)]
  | x :: r, i => by
    rw [number, slot]
    cases e : Nat.beq i t with
    | true =>
      have := Nat.eq_of_beq_eq_true e
      subst this
      rw [if_pos (by simp)]
      simp
    | false =>
      rw [cond_false, slot_number (l := r) (i := i + 1)]
      have hne : i ≠ t := fun h => by subst h; rw [Nat.beq_refl] at e; cases e
      by_cases h : i ≤ t ∧ t < i + (x :: r).length
      · rw [if_pos h, if_pos (by simp at h ⊢; omega)]
        rw [show t - i = (t - (i + 1)) + 1 by omega]
        simp
      · rw [if_neg h, if_neg (by simp at h ⊢; omega)]

def compR (P : Program) : ResultVar → Option RV
  | .tmp t => some (.t t)
  | .cell a t => (sizeOf? P t).bind fun n => (agg? P t).bind fun g => if g = false ∧ n ≠ 1 then none else some (.c a n g)

def resS (tmps : Array Value) : ResultVar → Sem Value
  | .tmp t => pure (tmps.getD t undef)
  | .cell a t => do loadVar t (← asAddr (tmps.getD a undef))
theorem results_eq (fn : Func) (tmps : Array Value) : results fn tmps = (do let vs ← fn.results.mapM (resS tmps); pure (if h : vs.size = 1 then vs[0] else .tuple vs)) := by
  unfold results
  congr 1
theorem res_run {P : Program} {w0 : Base} {w : World} {N : Nat} {s : St} {a : Act} {at_ : Nat → Option (Nat × Nat)} {FP : Nat → List Nat} (hh : Here w0 N s.tm (fun b => look b s.st) a w at_ FP) {r : ResultVar} {q : RV} {v : AV} (hc : compR P r = some q) (hv : resA s q = some v) :
    ∃ u, Loc ⟨w0, w, at_, fun b => look b s.st⟩ v u ∧ (resS a.tmps r).run P w = .ok u w := by
  cases r with
  | tmp t =>
    simp only [compR, Option.some.injEq] at hc
    subst hc
    simp only [resA, Option.some.injEq] at hv
    subst hv
    exact ⟨_, hh.loc t, by simp [resS]⟩
  | cell x t =>
    simp only [compR, Option.bind_eq_some_iff] at hc
    obtain ⟨n, hn, g, hg, hc⟩ := hc
    split at hc
    · cases hc
    · rename_i h1
      cases hc
      simp only [resA] at hv
      split at hv
      · rename_i b j hx
        split at hv
        · rename_i sz cs hb
          cases e : Nat.beq ((cs.drop j).take n).length n with
          | false => rw [e] at hv; cases hv
          | true =>
            rw [e, cond_true] at hv
            have hll := Nat.eq_of_beq_eq_true e
            have hr : resAV g ((cs.drop j).take n) = some v := by
              cases g with
              | true => exact hv
              | false => rw [cond_false] at hv; exact hv
            have hl := hh.loc x
            rw [hx] at hl
            obtain ⟨B, off, f, he, hcell, hloc⟩ := ld_ptr hh.good hb hll hl
            refine ⟨_, res_loc hr hloc, ?_⟩
            have h2 : g = false → n = 1 := fun e => by
              by_cases hh : n = 1
              · exact hh
              · exact absurd ⟨e, hh⟩ h1
            have := load_run (P := P) hn hg h2 f hcell
            rw [hll]
            simp only [resS, he, asAddr, Sem.run_bind, Sem.run_pure, Result.andThen_ok]
            exact this
        · cases hv
      · cases hv

theorem resL_run {P : Program} {w0 : Base} {w : World} {N : Nat} {s : St} {a : Act} {at_ : Nat → Option (Nat × Nat)} {FP : Nat → List Nat} (hh : Here w0 N s.tm (fun b => look b s.st) a w at_ FP) : ∀ {l : List ResultVar} {rs : List RV} {vs : List AV}, l.mapM (compR P) = some rs → resL s rs = some vs →
    ∃ us : List Value, us.length = vs.length ∧ (∀ i x, vs[i]? = some x → Loc ⟨w0, w, at_, fun b => look b s.st⟩ x (us.getD i undef)) ∧ (l.mapM (resS a.tmps)).run P w = .ok us w
  | [], rs, vs, hc, hv => by
    simp only [List.mapM_nil, Option.pure_def, Option.some.injEq] at hc
    subst hc
    simp only [resL, Option.some.injEq] at hv
    subst hv
    exact ⟨[], rfl, fun i x hx => by simp at hx, by simp⟩
  | r :: l, rs, vs, hc, hv => by
    rw [List.mapM_cons, Option.bind_eq_bind, Option.bind_eq_some_iff] at hc
    obtain ⟨q, hq, hc⟩ := hc
    rw [Option.bind_eq_bind, Option.bind_eq_some_iff] at hc
    obtain ⟨qs, hqs, hc⟩ := hc
    simp only [Option.pure_def, Option.some.injEq] at hc
    subst hc
    rw [resL] at hv
    split at hv
    · rename_i v hv1
      split at hv
      · rename_i vs' hv2
        cases hv
        obtain ⟨u, hl, hr⟩ := res_run hh hq hv1
        obtain ⟨us, e1, e2, e3⟩ := resL_run hh hqs hv2
        refine ⟨u :: us, by simp [e1], fun i x hx => ?_, ?_⟩
        · cases i with
          | zero => simp at hx; subst hx; exact hl
          | succ i => exact e2 i x (by simpa using hx)
        · rw [List.mapM_cons, Sem.run_bind, hr]
          simp only [Result.andThen_ok, Sem.run_bind, e3, Sem.run_pure]
      · cases hv
    · cases hv

theorem results_run {P : Program} {fn : Func} {w0 : Base} {w : World} {N : Nat} {s : St} {a : Act} {at_ : Nat → Option (Nat × Nat)} {FP : Nat → List Nat} (hh : Here w0 N s.tm (fun b => look b s.st) a w at_ FP) {rs : List RV} {vs : List AV} (hc : fn.results.toList.mapM (compR P) = some rs) (hv : resL s rs = some vs) :
    ∃ v, (results fn a.tmps).run P w = .ok v w ∧ Loc ⟨w0, w, at_, fun b => look b s.st⟩ (one vs) v := by
  obtain ⟨us, e1, e2, e3⟩ := resL_run hh hc hv
  have hrun : (results fn a.tmps).run P w = .ok (if h : us.toArray.size = 1 then us.toArray[0] else .tuple us.toArray) w := by
    rw [results_eq, Sem.run_bind, Array.mapM_eq_mapM_toList]
    have : (List.toArray <$> (fn.results.toList.mapM (resS a.tmps))).run P w = .ok us.toArray w := by
      rw [map_eq_pure_bind, Sem.run_bind, e3]
      simp
    rw [this]
    simp
  refine ⟨_, hrun, ?_⟩
  match vs, us, e1, e2 with
  | [], [], _, e2 => exact .tup rfl (fun i x hx => by simp at hx)
  | [v], [u], _, e2 => exact e2 0 v rfl
  | v1 :: v2 :: vs, u1 :: u2 :: us, e1, e2 =>
    have hne : ¬ (u1 :: u2 :: us).toArray.size = 1 := by simp
    rw [dif_neg hne]
    refine .tup (by simpa using e1) (fun i x hx => ?_)
    have := e2 i x hx
    simpa [Array.getD_eq_getD_getElem?, List.getD_eq_getElem?_getD] using this

/-- The contract of a function, off its code. -/
theorem fn_of {P : Program} {mu : Nat → Bool} {f : Nat} {fn : Func} {c : Code} {H : Hints} {m : MCode} {rs : List RV} {args : List AV} {r : AV} (hm : P.follows .mixedOrders = true) (hf : P.funcs[f]? = some fn) (hn : fn.name ≠ "runtime.NumGoroutine") (hb : fn.body = some c)
    (hc : compC P mu fn.ntmps H c = some m) (hrs : fn.results.toList.mapM (compR P) = some rs) (hl : args.length ≤ fn.ntmps) (h : Sat P (fun q => LeD q r) [] (runT m rs args)) : Fn P f args r := by
  refine ⟨⟨fn, hf, hn, by rw [hb]; rfl⟩, fun w vs F hsz hd => ?_⟩
  refine calls_of_wp hf hb ?_
  have h0 : RelS ⟨w, fun _ => False, fun _ => none⟩ fn.ntmps (start args).tm (start args).st (start args).nx { tmps := vs ++ Array.replicate (fn.ntmps - vs.size) undef, defers := [] } w := by
    refine ⟨⟨fun _ => none, fun _ => [], ⟨Kept.refl w _ _ (fun _ h => h.elim), fun b k hb => (by cases hb), fun b k hb => (by cases hb), fun b k hb => (by cases hb), fun b b' k k' hb => (by cases hb), fun b k hb => (by cases hb), fun b p hp => (by cases hp)⟩, rfl, (by simp; omega), fun t => ?_⟩, fun b k hb => (by cases hb)⟩
    show Loc _ (slot t (number 0 args)) _
    rw [slot_number]
    split
    · rename_i ht
      have hx : args[t]? = some (args.getD t .any) := by
        have : t < args.length := by omega
        simp [List.getD, this]
      have hv : (vs ++ Array.replicate (fn.ntmps - vs.size) undef).getD t undef = vs.getD t undef := by
        rw [Array.getD_eq_getD_getElem?, Array.getElem?_append_left (by omega), ← Array.getD_eq_getD_getElem?]
      rw [hv]
      exact deep_loc (hd t _ (by rw [Nat.sub_zero]; exact hx)) (fun _ _ h => h)
    · exact .any _
  have fin : ∀ (s' : St) (a' : Act) (w' : World), Sat P (fun q => LeD q r) [] (endT rs s') → RelS ⟨w, fun _ => False, fun _ => none⟩ fn.ntmps s'.tm s'.st s'.nx a' w' →
      a'.defers = [] ∧ ∃ v, (results fn a'.tmps).run P w' = .ok v w' ∧ ∃ v_1 fp, Ending.returned v = .returned v_1 ∧ Deep w' r v_1 fp ∧ fp.Nodup ∧ (∀ g ∈ fp, w.heap.size ≤ g ∧ ∃ cs t, w'.heap[g]? = some (.cells cs t (0, 0))) ∧ Below w.heap.size w w' := by
    intro s' a' w' hs hr
    obtain ⟨⟨at_, FP, hh⟩, _⟩ := hr
    have key : ∀ (x y : AV) (st' : List (Nat × Blk)) (v : Value), exp 3 s'.st x = some (y, st') → LeD y r → Loc ⟨⟨w, fun _ => False, fun _ => none⟩, w', at_, fun b => look b s'.st⟩ x v →
        ∃ v_1 fp, Ending.returned v = .returned v_1 ∧ Deep w' r v_1 fp ∧ fp.Nodup ∧ (∀ g ∈ fp, w.heap.size ≤ g ∧ ∃ cs t, w'.heap[g]? = some (.cells cs t (0, 0))) ∧ Below w.heap.size w w' := by
      intro x y st' v hx hle hl
      obtain ⟨fp, hd, ho⟩ := exp_ok 3 _ FP s'.st st' x y v hh.good (fun b k hb => hb) hx hl
      refine ⟨v, fp, rfl, hle.deep hd, ho.nodup, fun g hg => ?_, hh.good.below.below⟩
      obtain ⟨b, b1, _, b3⟩ := ho.from_ g hg
      cases q : look b s'.st with
      | none => exact absurd q b1
      | some k => exact ⟨(hh.good.base b k q g b3).elim id False.elim, hh.good.fresh b k q g b3⟩
    unfold endT at hs
    split at hs
    · rename_i vs hvs
      split at hs
      · rename_i q hq
        cases hs with
        | done hle =>
          obtain ⟨v, hrun, hloc⟩ := results_run hh hrs hvs
          exact ⟨hh.defers, v, hrun, key _ _ _ _ hq hle hloc⟩
      · exact (no_bad hs).elim
    · exact (no_bad hs).elim
  refine code_ok hm c m hc [] _ _ (start args) _ w h h0 (fun e s' a' w' hs hr => ?_)
  cases e with
  | normal => exact fin s' a' w' hs hr
  | ret => exact fin s' a' w' hs hr
  | exit i => exact (no_bad hs).elim
end Go.V

namespace Go.V
open Go Go.RowKit

/-! ### A function that writes into slices that are lent to it -/

/-- Where a slice that is lent lies. -/
inductive PlaceR (w : World) {α : Type} (sz : Nat) (enc : α → Nat → AV) (xs : List α) : Value → List Nat → Option (Nat × Nat) → List Nat → Prop
  | none (A : Option Addr) (fp : List Nat) (hx : xs = []) (hd : ∀ w' : World, (∀ g ∈ fp, SameShape w w' g) → Deep w' (.sl sz enc (fun _ => [])) (.slice A 0 0) fp) : PlaceR w sz enc xs (.slice A 0 0) fp none []
  | some (g off cap : Nat) (cs : Array Value) (t : TypeId) (F : Nat → Nat → List Nat) (hc : 0 < cap) (hn : xs.length ≤ cap) (hg : w.heap[g]? = some (.cells cs t (0, 0))) (hr : off + cap * sz ≤ cs.size)
      (hd : ∀ i x, xs[i]? = some x → ∀ j, j < sz → ∃ u, cs[off + i * sz + j]? = some u ∧ Deep w (enc x j) u (F i j)) :
      PlaceR w sz enc xs (.slice (some ⟨g, off, none⟩) xs.length cap) (g :: (List.range xs.length).flatMap fun i => (List.range sz).flatMap (F i)) (some (g, off)) ((List.range xs.length).flatMap fun i => (List.range sz).flatMap (F i))

theorem place_of {w : World} {α : Type} {sz : Nat} {enc : α → Nat → AV} {xs : Unit → List α} {v : Value} {fp : List Nat} (h : Deep w (.sl sz enc xs) v fp) (hf : ∀ g ∈ fp, Fresh w g) : ∃ p fi, PlaceR w sz enc (xs ()) v fp p fi := by
  cases h with
  | sl0 A he => exact ⟨_, _, .none A [] he (fun w' _ => .sl0 A rfl)⟩
  | @sl _ _ _ _ g off cap cs t fr u F hn hg hr hu hd =>
    obtain ⟨cs', t', hg'⟩ := hf g (List.mem_cons_self ..)
    rw [hg] at hg'
    cases hg'
    by_cases hc : cap = 0
    · have hx : xs () = [] := List.eq_nil_of_length_eq_zero (by omega)
      have e : (xs ()).length = 0 := by rw [hx]; rfl
      rw [e]
      subst hc
      refine ⟨_, _, .none _ _ hx (fun w' hfr => ?_)⟩
      obtain ⟨cs1, t2, cs2, hg1, hg2, hs⟩ := hfr g (List.mem_cons_self ..)
      rw [hg] at hg1
      cases hg1
      exact Deep.sl (w := w') (sz := sz) (enc := enc) (xs := fun _ => ([] : List α)) (g := g) (off := off) (cap := 0) (cs := cs2) (t := t) (fr := (0, 0)) (fun _ _ => Go.undef) F (Nat.le_refl _) hg2 (by omega) (fun i x hx => by simp at hx) (fun i x hx => by simp at hx)
    · exact ⟨_, _, .some g off cap cs t F (by omega) hn hg hr (fun i x hx j hj => ⟨u i j, hu i x hx j hj, hd i x hx j hj⟩)⟩

theorem PlaceR.own {w : World} {α : Type} {sz : Nat} {enc : α → Nat → AV} {xs : List α} {v : Value} {fp fi : List Nat} {p : Option (Nat × Nat)} (h : PlaceR w sz enc xs v fp p fi) : ∀ g ∈ ownOf p fi, g ∈ fp := by
  cases h with
  | none => intro g hg; cases hg
  | some => exact fun g hg => hg
theorem PlaceR.nodup {w : World} {α : Type} {sz : Nat} {enc : α → Nat → AV} {xs : List α} {v : Value} {fp fi : List Nat} {p : Option (Nat × Nat)} (h : PlaceR w sz enc xs v fp p fi) (hn : fp.Nodup) : (ownOf p fi).Nodup := by
  cases h with
  | none => exact List.nodup_nil
  | some => exact hn
theorem PlaceR.rep {E : Env} {b : Nat} {α : Type} {sz : Nat} {enc : α → Nat → AV} {xs : Unit → List α} {v : Value} {fp fi : List Nat} {p : Option (Nat × Nat)} (h : PlaceR E.w sz enc (xs ()) v fp p fi) (ha : E.at_ b = p) : BlkRep E b (.row sz enc xs true) fi := by
  cases h with
  | none A fp hx hd => exact .row0 ha hx
  | some g off cap cs t F hc hn hg hr hd => exact .row F ha hg (by have := Nat.mul_le_mul_right sz hn; omega) hd
theorem PlaceR.loc {E : Env} {b : Nat} {α : Type} {sz : Nat} {enc : α → Nat → AV} {xs : Unit → List α} {v : Value} {fp fi : List Nat} {p : Option (Nat × Nat)} (h : PlaceR E.w sz enc (xs ()) v fp p fi) (ha : E.at_ b = p) (hb : E.st b = Option.some (.row sz enc xs true)) : Loc E (.ref b (fun _ => 0) (fun _ => (xs ()).length)) v := by
  refine .ref hb ?_
  generalize hxs : xs () = l at h ⊢
  cases h with
  | none A fp hx hd =>
    rw [hx]
    exact .ofNone ha (by simp)
  | some g off cap cs t F hc hn hg hr hd => exact .ofSome ha (by simp) hn hg (.inr ⟨by simp, by simpa using hr⟩)
/-- Behind the call. -/
theorem PlaceR.back {w : World} {E : Env} {b : Nat} {α β : Type} {sz : Nat} {enc : α → Nat → AV} {enc' : β → Nat → AV} {xs : List α} {ys : Unit → List β} {v : Value} {fp fi : List Nat} {p : Option (Nat × Nat)} (h : PlaceR w sz enc xs v fp p fi)
    (hs : ∀ g ∈ fp, SameShape w E.w g) (ha : E.at_ b = p) (hr : BlkRep E b (.row sz enc' ys true) fi) (hl : (ys ()).length = xs.length) : Deep E.w (.sl sz enc' ys) v fp := by
  cases h with
  | none A fp hx hd =>
    have hy : ys () = [] := List.eq_nil_of_length_eq_zero (by rw [hl, hx]; rfl)
    have d := hd E.w hs
    generalize hv : Value.slice A 0 0 = v at d ⊢
    cases d with
    | sl0 A' _ => exact .sl0 A' hy
    | @sl _ _ _ _ g off cap cs t fr u F hn hg hr hu hd =>
      have e : ([] : List α).length = (ys ()).length := by rw [hy]; rfl
      have d2 := Deep.sl (w := E.w) (sz := sz) (enc := enc') (xs := ys) (g := g) (off := off) (cap := cap) (cs := cs) (t := t) (fr := fr) u F (by rw [hy]; exact Nat.zero_le _) hg hr (fun i x hx => by rw [hy] at hx; simp at hx) (fun i x hx => by rw [hy] at hx; simp at hx)
      rw [← e] at d2
      exact d2
  | some g off cap cs t F hc hn hg hrr hd =>
    generalize hfi : ((List.range xs.length).flatMap fun i => (List.range sz).flatMap (F i)) = fi at hr ⊢
    cases hr with
    | row0 ha' _ => rw [ha] at ha'; cases ha'
    | @row _ _ _ _ _ g' base' cells ty F' ha' hg' hr' hc' =>
      rw [ha] at ha'
      cases ha'
      obtain ⟨cs1, t1, cs2, s1, s2, s3⟩ := hs g (List.mem_cons_self ..)
      rw [hg] at s1
      cases s1
      rw [hg'] at s2
      cases s2
      have d := Deep.sl (w := E.w) (sz := sz) (enc := enc') (xs := ys) (g := g) (off := off) (cap := cap) (cs := cells) (t := t) (fr := (0, 0)) (fun i j => cells.getD (off + i * sz + j) Go.undef) F' (by omega) hg' (by omega)
        (fun i x hx j hj => by
          obtain ⟨u, hu, _⟩ := hc' i x hx j hj
          rw [Array.getD_eq_getD_getElem?, hu]
          rfl)
        (fun i x hx j hj => by
          obtain ⟨u, hu, hdd⟩ := hc' i x hx j hj
          rw [Array.getD_eq_getD_getElem?, hu]
          exact hdd)
      rw [hl] at d
      rw [hl]
      exact d

theorem look_rowsOfB : ∀ {bs : List AV} {k i : Nat}, (∀ B ∈ bs, ∃ (α : Type) (sz : Nat) (enc : α → Nat → AV) (xs : Unit → List α), B = .sl sz enc xs) → k ≤ i → ∀ blk, look i (rowsOfB bs k) = some blk → ∃ (α : Type) (sz : Nat) (enc : α → Nat → AV) (xs : Unit → List α), bs[i - k]? = some (.sl sz enc xs) ∧ blk = .row sz enc xs true
  | [], k, i, _, _, blk, h => by cases h
  | B :: r, k, i, hb, hk, blk, h => by
    obtain ⟨α, sz, enc, xs, rfl⟩ := hb B (List.mem_cons_self ..)
    rw [rowsOfB, look] at h
    cases e : Nat.beq k i with
    | true =>
      have := Nat.eq_of_beq_eq_true e
      subst this
      rw [e, cond_true] at h
      cases h
      exact ⟨α, sz, enc, xs, by simp, rfl⟩
    | false =>
      rw [e, cond_false] at h
      have hne : k ≠ i := fun h => by subst h; rw [Nat.beq_refl] at e; cases e
      obtain ⟨α, sz, enc, xs, h1, h2⟩ := look_rowsOfB (bs := r) (k := k + 1) (fun B hB => hb B (List.mem_cons_of_mem _ hB)) (by omega) blk h
      refine ⟨α, sz, enc, xs, ?_, h2⟩
      rw [show i - k = (i - (k + 1)) + 1 by omega]
      simpa using h1
theorem look_rowsOfB' : ∀ {bs : List AV} {k i : Nat}, (∀ B ∈ bs, ∃ (α : Type) (sz : Nat) (enc : α → Nat → AV) (xs : Unit → List α), B = .sl sz enc xs) → ∀ {α : Type} {sz : Nat} {enc : α → Nat → AV} {xs : Unit → List α}, bs[i]? = some (.sl sz enc xs) → look (k + i) (rowsOfB bs k) = some (.row sz enc xs true)
  | [], k, i, _, α, sz, enc, xs, h => by simp at h
  | B :: r, k, i, hb, α, sz, enc, xs, h => by
    obtain ⟨α', sz', enc', xs', rfl⟩ := hb B (List.mem_cons_self ..)
    rw [rowsOfB, look]
    cases i with
    | zero =>
      simp at h
      obtain ⟨rfl, rfl, h1, h2⟩ := h
      cases h1
      cases h2
      rw [Nat.add_zero, Nat.beq_refl]
      rfl
    | succ i =>
      have : Nat.beq k (k + (i + 1)) = false := by
        cases e : Nat.beq k (k + (i + 1)) with
        | false => rfl
        | true => have := Nat.eq_of_beq_eq_true e; omega
      rw [this, cond_false, show k + (i + 1) = (k + 1) + i by omega]
      exact look_rowsOfB' (bs := r) (fun B hB => hb B (List.mem_cons_of_mem _ hB)) (by simpa using h)

theorem led_tup_inv {l l' : List AV} (h : LeD (.tup l) (.tup l')) : l'.length = l.length ∧ ∀ (i : Nat) (x y : AV), l[i]? = some x → l'[i]? = some y → LeD x y := by
  cases h with
  | same => exact ⟨rfl, fun i x y hx hy => by rw [hx] at hy; cases hy; exact .same _⟩
  | tup hl h => exact ⟨hl, h⟩

theorem outsOf_at {st : List (Nat × Blk)} : ∀ {k i : Nat} {l : List AV}, outsOf st k i = some l → l.length = k ∧ ∀ j x, l[j]? = some x → ∃ (α : Type) (sz : Nat) (enc : α → Nat → AV) (ys : Unit → List α), x = .sl sz enc ys ∧ look (i + j) st = some (.row sz enc ys true)
  | 0, i, l, h => by
    simp only [outsOf, Option.some.injEq] at h
    subst h
    exact ⟨rfl, fun j x hx => by simp at hx⟩
  | k + 1, i, l, h => by
    rw [outsOf] at h
    split at h
    · rename_i α sz enc ys hb
      split at h
      · rename_i l' hl
        cases h
        obtain ⟨h1, h2⟩ := outsOf_at hl
        refine ⟨by simp [h1], fun j x hx => ?_⟩
        cases j with
        | zero => simp at hx; subst hx; exact ⟨α, sz, enc, ys, rfl, hb⟩
        | succ j =>
          obtain ⟨α', sz', enc', ys', h3, h4⟩ := h2 j x (by simpa using hx)
          exact ⟨α', sz', enc', ys', h3, by rw [show i + (j + 1) = i + 1 + j by omega]; exact h4⟩
      · cases h
    · cases h

/-- The contract, off the code. -/
theorem fn_of_m {P : Program} {mu : Nat → Bool} {f : Nat} {fn : Func} {c : Code} {H : Hints} {m : MCode} {rs : List RV} {args bs outs : List AV} {ret : AV} (hm : P.follows .mixedOrders = true) (hf : P.funcs[f]? = some fn) (hn : fn.name ≠ "runtime.NumGoroutine") (hb : fn.body = some c)
    (hc : compC P mu fn.ntmps H c = some m) (hrs : fn.results.toList.mapM (compR P) = some rs) (hl : args.length ≤ fn.ntmps) (hbs : ∀ B ∈ bs, ∃ (α : Type) (sz : Nat) (enc : α → Nat → AV) (xs : Unit → List α), B = .sl sz enc xs)
    (hsame : outs.length = bs.length ∧ ∀ (i : Nat) (B B' : AV), bs[i]? = some B → outs[i]? = some B' → SameRow B B') (h : Sat P (fun q => LeD q (.tup (ret :: outs))) [] (runM m rs args bs)) : FnM P f args bs ret outs := by
  refine ⟨⟨fn, hf, hn, by rw [hb]; rfl⟩, hsame, fun w vs sv fp hbk hap hsz hargs => ?_⟩
  refine calls_of_wp hf hb ?_
  have hpl : ∀ i, ∃ q : Option (Nat × Nat) × List Nat, ∀ (α : Type) (sz : Nat) (enc : α → Nat → AV) (xs : Unit → List α), bs[i]? = some (.sl sz enc xs) → PlaceR w sz enc (xs ()) (sv i) (fp i) q.1 q.2 := by
    intro i
    cases e : bs[i]? with
    | none => exact ⟨(none, []), fun α sz enc xs h => by cases h⟩
    | some B =>
      obtain ⟨α, sz, enc, xs, rfl⟩ := hbs B (List.mem_of_getElem? e)
      obtain ⟨hd, _, hfr⟩ := hbk i _ e
      obtain ⟨p, fi, hp⟩ := place_of hd hfr
      refine ⟨(p, fi), fun α' sz' enc' xs' h => ?_⟩
      cases h
      exact hp
  obtain ⟨q, hq⟩ := Classical.axiomOfChoice hpl
  let B : Base := ⟨w, fun g => ∃ i, i < bs.length ∧ g ∈ ownOf (q i).1 (q i).2, fun i => match bs[i]? with
    | some (.sl sz _ xs) => some ⟨(q i).1, (q i).2, sz, (xs ()).length⟩
    | _ => none⟩
  let at0 : Nat → Option (Nat × Nat) := fun i => if i < bs.length then (q i).1 else none
  let FP0 : Nat → List Nat := fun i => if i < bs.length then (q i).2 else []
  have at_lt : ∀ i, i < bs.length → at0 i = (q i).1 := fun i hi => if_pos hi
  have fp_lt : ∀ i, i < bs.length → FP0 i = (q i).2 := fun i hi => if_pos hi
  have row0 : ∀ i blk, look i (rowsOfB bs 0) = some blk → ∃ (α : Type) (sz : Nat) (enc : α → Nat → AV) (xs : Unit → List α), bs[i]? = some (.sl sz enc xs) ∧ blk = .row sz enc xs true ∧ i < bs.length := fun i blk hi => by
    obtain ⟨α, sz, enc, xs, h1, h2⟩ := look_rowsOfB hbs (Nat.zero_le i) blk hi
    rw [Nat.sub_zero] at h1
    exact ⟨α, sz, enc, xs, h1, h2, lt_of_get h1⟩
  have own0 : ∀ i, i < bs.length → (⟨B, w, at0, fun b => look b (rowsOfB bs 0)⟩ : Env).own FP0 i = ownOf (q i).1 (q i).2 := fun i hi => by
    show ownOf (at0 i) (FP0 i) = _
    rw [at_lt i hi, fp_lt i hi]
  have own_sub : ∀ i, i < bs.length → ∀ g ∈ ownOf (q i).1 (q i).2, g ∈ fp i := fun i hi g hg => by
    obtain ⟨α, sz, enc, xs, he⟩ := hbs bs[i] (List.getElem_mem _)
    have hi' : bs[i]? = some (.sl sz enc xs) := by rw [List.getElem?_eq_getElem hi, he]
    exact (hq i α sz enc xs hi').own g hg
  have good : Good ⟨B, w, at0, fun b => look b (rowsOfB bs 0)⟩ FP0 := by
    refine ⟨Kept.refl w _ _ (fun g hg => ?_), fun b blk hb => ?_, fun b blk hb => ?_, fun b blk hb => ?_, fun b b' blk blk' hb hb' hne => ?_, fun b blk hb => ?_, fun b p hp => ?_⟩
    · obtain ⟨i, hi, hg⟩ := hg
      exact (hbk i _ (List.getElem?_eq_getElem hi)).2.2 g (own_sub i hi g hg)
    · obtain ⟨α, sz, enc, xs, h1, rfl, h3⟩ := row0 b blk hb
      rw [fp_lt b h3]
      exact (hq b α sz enc xs h1).rep (at_lt b h3)
    · obtain ⟨α, sz, enc, xs, h1, rfl, h3⟩ := row0 b blk hb
      rw [own0 b h3]
      exact (hq b α sz enc xs h1).nodup (hbk b _ h1).2.1
    · obtain ⟨α, sz, enc, xs, h1, rfl, h3⟩ := row0 b blk hb
      rw [own0 b h3]
      exact fun g hg => .inr ⟨b, h3, hg⟩
    · obtain ⟨α, sz, enc, xs, h1, rfl, h3⟩ := row0 b blk hb
      obtain ⟨α', sz', enc', xs', h1', rfl, h3'⟩ := row0 b' blk' hb'
      rw [own0 b h3, own0 b' h3']
      exact fun g hg hg' => hap b b' h3 h3' hne g ((hq b α sz enc xs h1).own g hg) ((hq b' α' sz' enc' xs' h1').own g hg')
    · obtain ⟨α, sz, enc, xs, h1, rfl, h3⟩ := row0 b blk hb
      rw [own0 b h3]
      exact fun g hg => (hbk b _ h1).2.2 g ((hq b α sz enc xs h1).own g hg)
    · have hp' : (match bs[b]? with
        | some (.sl sz _ xs) => some (⟨(q b).1, (q b).2, sz, (xs ()).length⟩ : Pin)
        | _ => none) = some p := hp
      split at hp'
      · rename_i α sz enc xs hbb
        cases hp'
        have hlt := lt_of_get hbb
        exact ⟨at_lt b hlt, fp_lt b hlt, α, enc, xs, by have := look_rowsOfB' (k := 0) hbs hbb; rw [Nat.zero_add] at this; exact this, rfl⟩
      · cases hp'
  have argLoc : ∀ d x v, ArgRep w sv bs.length (fun g => ∃ i, i < bs.length ∧ g ∈ fp i) x v → Loc ⟨B, w, at0, fun b => look b (rowsOfB bs 0)⟩ (unptr bs d x) v := by
    intro d
    induction d with
    | zero => exact fun x v _ => .any v
    | succ d ih =>
      intro x v hx
      cases hx with
      | deep hd ho =>
        cases x with
        | ptr => cases hd
        | agg cs =>
          cases hd with
          | agg F hl hdd =>
            refine .agg (by simpa using hl) (fun i y hy => ?_)
            rw [List.getElem?_map, Option.map_eq_some_iff] at hy
            obtain ⟨z, hz, rfl⟩ := hy
            exact ih z _ (.deep (hdd i z hz) (fun g hg => ho g (mem_flat (lt_of_get hz) hg)))
        | _ => exact deep_loc hd (fun g hg ⟨i, hi, hm⟩ => ho g hg ⟨i, hi, own_sub i hi g hm⟩)
      | lent i hi =>
        obtain ⟨α, sz, enc, xs, he⟩ := hbs bs[i] (List.getElem_mem _)
        have hi' : bs[i]? = some (.sl sz enc xs) := by rw [List.getElem?_eq_getElem hi, he]
        have hu : unptr bs (d + 1) (.ptr i 0) = .ref i (fun _ => 0) (fun _ => (xs ()).length) := by
          rw [unptr, hi']
        rw [hu]
        exact (hq i α sz enc xs hi').loc (at_lt i hi) (by have := look_rowsOfB' (k := 0) hbs hi'; rw [Nat.zero_add] at this; exact this)
      | agg hl hd =>
        refine .agg (by simpa using hl) (fun i y hy => ?_)
        rw [List.getElem?_map, Option.map_eq_some_iff] at hy
        obtain ⟨z, hz, rfl⟩ := hy
        exact ih z _ (hd i z hz)
  have h0 : RelS B fn.ntmps (startM args bs).tm (startM args bs).st (startM args bs).nx { tmps := vs ++ Array.replicate (fn.ntmps - vs.size) undef, defers := [] } w := by
    refine ⟨⟨at0, FP0, good, rfl, (by simp; omega), fun t => ?_⟩, fun b k hb => ?_⟩
    · show Loc _ (slot t (number 0 (args.map (unptr bs 3)))) _
      rw [slot_number]
      split
      · rename_i ht
        have ht' : t < args.length := by have := ht.2; rw [List.length_map] at this; omega
        have hx : (args.map (unptr bs 3)).getD (t - 0) .any = unptr bs 3 args[t] := by
          rw [Nat.sub_zero, List.getD_eq_getElem?_getD, List.getElem?_map, List.getElem?_eq_getElem ht']
          rfl
        rw [hx]
        have hv : (vs ++ Array.replicate (fn.ntmps - vs.size) undef).getD t undef = vs.getD t undef := by
          rw [Array.getD_eq_getD_getElem?, Array.getElem?_append_left (by omega), ← Array.getD_eq_getD_getElem?]
        rw [hv]
        exact argLoc 3 _ _ (hargs t _ (List.getElem?_eq_getElem ht'))
      · exact .any _
    · obtain ⟨_, _, _, _, _, _, h3⟩ := row0 b k hb
      exact h3
  have fin : ∀ (s' : St) (a' : Act) (w' : World), Sat P (fun q => LeD q (.tup (ret :: outs))) [] (endM rs bs.length s') → RelS B fn.ntmps s'.tm s'.st s'.nx a' w' →
      a'.defers = [] ∧ ∃ v, (results fn a'.tmps).run P w' = .ok v w' ∧ ∃ v_1, Ending.returned v = .returned v_1 ∧ (∀ (i : Nat) (B : AV), outs[i]? = some B → Deep w' B (sv i) (fp i)) ∧ RetRep w w' sv bs ret v_1 ∧ Kept ⟨w, fun g => ∃ i, i < bs.length ∧ g ∈ fp i, fun _ => none⟩ w' := by
    intro s' a' w' hs hr
    obtain ⟨⟨at_, FP, hh⟩, _⟩ := hr
    have hk := hh.good.below
    have shape : ∀ i, i < bs.length → ∀ g ∈ fp i, SameShape w w' g := fun i hi g hg => by
      by_cases hm : B.mine g
      · exact hk.shape g hm
      · obtain ⟨cs, t, hcs⟩ := (hbk i _ (List.getElem?_eq_getElem hi)).2.2 g hg
        exact ⟨cs, t, cs, hcs, (hk.block g (heap_lt hcs) hm).trans hcs, rfl⟩
    have kept : Kept ⟨w, fun g => ∃ i, i < bs.length ∧ g ∈ fp i, fun _ => none⟩ w' := ⟨hk.os, hk.tape, hk.output, hk.size, fun k h1 h2 => hk.block k h1 (fun ⟨i, hi, hm⟩ => h2 ⟨i, hi, own_sub i hi k hm⟩), fun g ⟨i, hi, hg⟩ => shape i hi g hg⟩
    have pinAt : ∀ i (α : Type) (sz : Nat) (enc : α → Nat → AV) (xs : Unit → List α), bs[i]? = some (.sl sz enc xs) → at_ i = (q i).1 ∧ FP i = (q i).2 ∧ ∃ (β : Type) (enc' : β → Nat → AV) (ys : Unit → List β), look i s'.st = some (.row sz enc' ys true) ∧ (ys ()).length = (xs ()).length := fun i α sz enc xs hi => by
      have hp : B.pin i = some ⟨(q i).1, (q i).2, sz, (xs ()).length⟩ := by
        show (match bs[i]? with
          | some (.sl sz _ xs) => some (⟨(q i).1, (q i).2, sz, (xs ()).length⟩ : Pin)
          | _ => none) = _
        rw [hi]
      exact hh.good.pins i _ hp
    -- what the lent slices hold
    have backs : ∀ outs', outsOf s'.st bs.length 0 = some outs' → ∀ i x, outs'[i]? = some x → Deep w' x (sv i) (fp i) := fun outs' ho i x hx => by
      obtain ⟨h1, h2⟩ := outsOf_at ho
      obtain ⟨β, sz, enc', ys, rfl, hlk⟩ := h2 i x hx
      rw [Nat.zero_add] at hlk
      have hi : i < bs.length := by have := lt_of_get hx; omega
      obtain ⟨α, sz0, enc, xs, he⟩ := hbs bs[i] (List.getElem_mem _)
      have hi' : bs[i]? = some (.sl sz0 enc xs) := by rw [List.getElem?_eq_getElem hi, he]
      obtain ⟨p1, p2, β', enc2, ys2, p3, p4⟩ := pinAt i α sz0 enc xs hi'
      rw [hlk] at p3
      cases p3
      have r := hh.good.rep i _ hlk
      rw [p2] at r
      exact (hq i α sz enc xs hi').back (shape i hi) p1 r p4
    have fromOuts : ∀ outs', outsOf s'.st bs.length 0 = some outs' → (∀ (i : Nat) (x y : AV), outs'[i]? = some x → outs[i]? = some y → LeD x y) → ∀ (i : Nat) (B : AV), outs[i]? = some B → Deep w' B (sv i) (fp i) := fun outs' ho hle i Y hY => by
      obtain ⟨h1, _⟩ := outsOf_at ho
      have : i < outs'.length := by have := lt_of_get hY; rw [h1, ← hsame.1]; exact this
      exact (hle i _ Y (List.getElem?_eq_getElem this) hY).deep (backs outs' ho i _ (List.getElem?_eq_getElem this))
    have key : ∀ (x y : AV) (st' outs' : _) (v : Value), exp 3 s'.st x = some (y, st') → outsOf s'.st bs.length 0 = some outs' → LeD (.tup (.agg [y] :: outs')) (.tup (ret :: outs)) → Loc ⟨B, w', at_, fun b => look b s'.st⟩ x v →
        ∃ v_1, Ending.returned v = .returned v_1 ∧ (∀ (i : Nat) (B : AV), outs[i]? = some B → Deep w' B (sv i) (fp i)) ∧ RetRep w w' sv bs ret v_1 ∧ Kept ⟨w, fun g => ∃ i, i < bs.length ∧ g ∈ fp i, fun _ => none⟩ w' := by
      intro x y st' outs' v hx ho hle hl
      obtain ⟨l1, l2⟩ := led_tup_inv hle
      obtain ⟨fpv, hd, hout⟩ := exp_ok 3 _ FP s'.st st' x y v hh.good (fun b k hb => hb) hx hl
      refine ⟨v, rfl, fromOuts outs' ho (fun i x y hx hy => l2 (i + 1) x y (by simpa using hx) (by simpa using hy)), ?_, kept⟩
      have hle0 := l2 0 _ _ rfl rfl
      have fresh : ∀ g ∈ fpv, w.heap.size ≤ g ∧ ∃ cs t, w'.heap[g]? = some (.cells cs t (0, 0)) := fun g hg => by
        obtain ⟨b, b1, b2, b3⟩ := hout.from_ g hg
        cases e : look b s'.st with
        | none => exact absurd e b1
        | some k =>
          refine ⟨?_, hh.good.fresh b k e g b3⟩
          rcases hh.good.base b k e g b3 with h | ⟨i, hi, hgi⟩
          · exact h
          · exfalso
            obtain ⟨α, sz0, enc, xs, he⟩ := hbs bs[i] (List.getElem_mem _)
            have hi' : bs[i]? = some (.sl sz0 enc xs) := by rw [List.getElem?_eq_getElem hi, he]
            obtain ⟨p1, p2, β', enc2, ys2, p3, p4⟩ := pinAt i α sz0 enc xs hi'
            have hne : b ≠ i := fun e => by
              subst e
              have := exp_fx 3 _ _ _ _ hx b ⟨β', sz0, enc2, ys2, p3⟩
              rw [b2, p3] at this
              cases this
            refine hh.good.apart b i _ _ e p3 hne g b3 ?_
            show g ∈ ownOf (at_ i) (FP i)
            rw [p1, p2]
            exact hgi
      have d : ∀ x', LeD (.agg [y]) x' → RetRep w w' sv bs x' v := fun x' hx' => by
        cases hx' with
        | same => exact .val hd hout.nodup fresh
        | agg hl2 hh2 =>
          rename_i ds
          match ds, hl2, hh2 with
          | [z], _, hh2 => exact .val ((hh2 0 y z rfl rfl).deep hd) hout.nodup fresh
      exact d ret hle0
    unfold endM at hs
    split at hs
    · rename_i vs1 hvs
      split at hs
      · rename_i outs' ho
        obtain ⟨v, hrun, hloc⟩ := results_run hh hrs hvs
        generalize one vs1 = x at hs hloc
        split at hs
        · rename_i b off n
          cases hlt : Nat.blt b bs.length with
          | false => rw [hlt, cond_false] at hs; exact (no_bad hs).elim
          | true =>
            rw [hlt, cond_true] at hs
            rw [Nat.blt_eq] at hlt
            cases hs with
            | done hle =>
              obtain ⟨l1, l2⟩ := led_tup_inv hle
              refine ⟨hh.defers, v, hrun, v, rfl, fromOuts outs' ho (fun i x y hx hy => l2 (i + 1) x y (by simpa using hx) (by simpa using hy)), ?_, kept⟩
              have hle0 := l2 0 _ _ rfl rfl
              obtain ⟨α, sz0, enc, xs, he⟩ := hbs bs[b] (List.getElem_mem _)
              have hi' : bs[b]? = some (.sl sz0 enc xs) := by rw [List.getElem?_eq_getElem hlt, he]
              obtain ⟨p1, p2, β', enc2, ys2, p3, p4⟩ := pinAt b α sz0 enc xs hi'
              have hview : ViewOf w' (sv b) sz0 (off ()) (n ()) v := by
                cases hloc with
                | refl hb2 _ => have hb2 : look b s'.st = _ := hb2; rw [p3] at hb2; cases hb2
                | ref hb2 hr2 =>
                  have hb2 : look b s'.st = _ := hb2
                  rw [p3] at hb2
                  cases hb2
                  obtain ⟨hle2, hr2⟩ := hr2
                  have pr := hq b α sz0 enc xs hi'
                  have hat : (⟨B, w', at_, fun b => look b s'.st⟩ : Env).at_ b = (q b).1 := p1
                  rw [hat] at hr2
                  rw [p4] at hle2
                  generalize (q b).1 = qa at pr hr2
                  generalize (q b).2 = qb at pr
                  generalize sv b = svb at pr
                  generalize fp b = fpb at pr
                  generalize xs () = xl at pr hle2
                  cases pr with
                  | none A fp hx hd =>
                    obtain ⟨A', rfl⟩ := hr2
                    rw [hx] at hle2
                    simp only [List.length_nil] at hle2
                    have h1 : n () = 0 := by omega
                    exact ⟨A, 0, 0, rfl, by omega, A', 0, by rw [h1], by omega, .inl rfl⟩
                  | some g0 off0 cap0 cs0 t0 F hc hn hg hr hd =>
                    obtain ⟨A', cap', cs', t', rfl, hcap, hg', hA⟩ := hr2
                    refine ⟨_, _, cap0, rfl, hle2, A', cap', rfl, hcap, ?_⟩
                    rcases hA with h0 | ⟨hA, hrr⟩
                    · exact .inl h0
                    · exact .inr ⟨hc, g0, off0, cs', t', rfl, hA, hg', hrr⟩
              have d : ∀ x', LeD (.clo b [.int .i64 (fun _ => (off () : Int)), .int .i64 (fun _ => (n () : Int))]) x' → RetRep w w' sv bs x' v := fun x' hx' => by
                cases hx' with
                | same => exact .view hi' rfl rfl hview
                | clo hl2 hh2 =>
                  rename_i ds
                  match ds, hl2, hh2 with
                  | [z1, z2], _, hh2 =>
                    have c1 := hh2 0 _ _ rfl rfl
                    have c2 := hh2 1 _ _ rfl rfl
                    have k1 : ∃ k m, z1 = .int k m ∧ m () = (off () : Int) := by
                      cases c1 with
                      | same => exact ⟨_, _, rfl, rfl⟩
                      | int h => exact ⟨_, _, rfl, h.symm⟩
                    have k2 : ∃ k m, z2 = .int k m ∧ m () = (n () : Int) := by
                      cases c2 with
                      | same => exact ⟨_, _, rfl, rfl⟩
                      | int h => exact ⟨_, _, rfl, h.symm⟩
                    obtain ⟨_, m1, rfl, e1⟩ := k1
                    obtain ⟨_, m2, rfl, e2⟩ := k2
                    exact .view hi' e1 e2 hview
              exact d ret hle0
        · split at hs
          · rename_i a ha
            cases hs with
            | done hle => exact ⟨hh.defers, v, hrun, key _ _ _ _ v ha ho hle hloc⟩
          · exact (no_bad hs).elim
      · exact (no_bad hs).elim
    · exact (no_bad hs).elim
  refine code_ok hm c m hc [] _ _ (startM args bs) _ w h h0 (fun e s' a' w' hs hr => ?_)
  cases e with
  | normal => exact fin s' a' w' hs hr
  | ret => exact fin s' a' w' hs hr
  | exit i => exact (no_bad hs).elim
end Go.V
