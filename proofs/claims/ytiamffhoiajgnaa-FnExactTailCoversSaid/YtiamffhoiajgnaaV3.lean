/- A theory of its own: Go code in short, evaluated, with proof that the machine does what the evaluation tells. Conditions: those that each theorem states. Part 3. -/
import Derived.Test.YtiamffhoiajgnaaV2
import Derived.Orders
set_option linter.unusedVariables false
set_option linter.unusedSimpArgs false
namespace Go.V
open Go Go.RowKit

/-! ### Slices that are lent to a call -/
def FromOf (E : Env) (FP : Nat → List Nat) (st : List (Nat × Blk)) (g : Nat) : Prop := (g < E.w0.w.heap.size ∧ ¬ E.w0.mine g) ∨ ∃ b, look b st ≠ none ∧ g ∈ E.own FP b
theorem mat_from {E : Env} {FP : Nat → List Nat} (hG : Good E FP) {st : List (Nat × Blk)} (hst : ∀ b k, look b st = some k → E.st b = some k) :
    ∀ (d : Nat) (x y : AV), mat st d x = some y → ∀ v, Loc E x v → ∃ fp, Deep E.w y v fp ∧ ∀ g ∈ fp, FromOf E FP st g
  | 0, x, y, h, v, hv => by cases h
  | d + 1, x, y, h, v, hv => by
    have parts : ∀ {cs ds : List AV} (f : Nat → Value), cs.mapM (mat st d) = some ds → (∀ i x, cs[i]? = some x → Loc E x (f i)) → ds.length = cs.length ∧ ∃ F : Nat → List Nat, (∀ i y, ds[i]? = some y → Deep E.w y (f i) (F i)) ∧ ∀ i, i < ds.length → ∀ g ∈ F i, FromOf E FP st g := by
      intro cs ds f hm hl
      obtain ⟨h1, h2⟩ := mapM_get hm
      obtain ⟨F, hF⟩ := pick_fp (n := ds.length) (R := fun i fp => ∀ y, ds[i]? = some y → Deep E.w y (f i) fp ∧ ∀ g ∈ fp, FromOf E FP st g) (fun i hi => by
        have hx := List.getElem?_eq_getElem (show i < cs.length by omega)
        have hy := List.getElem?_eq_getElem hi
        obtain ⟨fp, hd⟩ := mat_from hG hst d _ _ (h2 i _ _ hx hy) _ (hl i _ hx)
        exact ⟨fp, fun y hy' => by rw [hy] at hy'; cases hy'; exact hd⟩)
      exact ⟨h1, F, fun i y hy => (hF i (lt_of_get hy) y hy).1, fun i hi => (hF i hi _ (List.getElem?_eq_getElem hi)).2⟩
    have flatF : ∀ {n : Nat} {F : Nat → List Nat}, (∀ i, i < n → ∀ g ∈ F i, FromOf E FP st g) → ∀ g ∈ (List.range n).flatMap F, FromOf E FP st g := fun h g hg => by
      obtain ⟨i, hi, hg⟩ := List.mem_flatMap.1 hg
      exact h i (List.mem_range.1 hi) g hg
    have old : ∀ {x : AV} {v : Value} {fp : List Nat}, DeepB E.w0 x v fp → ∀ g ∈ fp, FromOf E FP st g := fun h g hg => .inl ⟨h.deep.bound g hg, h.old g hg⟩
    cases x with
    | any => cases h
    | undef => cases h
    | own => cases h
    | eptr => cases h
    | int k n => cases h; rw [hv.int_inv]; exact ⟨_, .int k n, fun g hg => by cases hg⟩
    | bo b => cases h; rw [hv.bo_inv]; exact ⟨_, .bo b, fun g hg => by cases hg⟩
    | str s => cases h; rw [hv.str_inv]; exact ⟨_, .str s, fun g hg => by cases hg⟩
    | nil => cases h; rw [hv.nil_inv]; exact ⟨_, .nil, fun g hg => by cases hg⟩
    | emp => cases h; obtain ⟨A, rfl⟩ := hv.emp_inv; exact ⟨_, .emp A, fun g hg => by cases hg⟩
    | sl sz enc xs => cases h; cases hv with | sl hd => exact ⟨_, hd.under hG.below, old hd⟩
    | lsl es => cases h; cases hv with | lsl hd => exact ⟨_, hd.under hG.below, old hd⟩
    | rptr cs => cases h; cases hv with | rptr hd => exact ⟨_, hd.under hG.below, old hd⟩
    | ref b off n =>
      simp only [mat] at h
      split at h
      · rename_i sz enc xs fx hb
        cases h
        obtain ⟨fp, hd, hs⟩ := ref_deep hG (hst _ _ hb) hv
        exact ⟨fp, hd, fun g hg => .inr ⟨b, (by rw [hb]; exact fun h => by cases h), hs g hg⟩⟩
      · cases h
    | ptr b j =>
      simp only [mat] at h
      split at h
      · rename_i sz cs hb
        rw [Option.map_eq_some_iff] at h
        obtain ⟨ds, hm, rfl⟩ := h
        obtain ⟨sz', cs', g, base, hb', ha, rfl⟩ := hv.ptr_inv
        rw [hst _ _ hb] at hb'
        cases hb'
        have r := hG.rep b _ (hst _ _ hb)
        generalize FP b = fp at r
        cases r with
        | lit ha' hg hc =>
          rename_i cells t
          rw [ha] at ha'
          cases ha'
          have key : ∀ i x, (cs.drop j)[i]? = some x → ∃ u, cells[base + j + i]? = some u ∧ Loc E x u := fun i x hx => by
            rw [List.getElem?_drop] at hx
            obtain ⟨u, hu, hl⟩ := hc _ x hx
            exact ⟨u, by rw [Nat.add_assoc]; exact hu, hl⟩
          obtain ⟨hl, F, hF, hF2⟩ := parts (fun i => cells.getD (base + j + i) undef) hm (fun i x hx => by
            obtain ⟨u, hu, hl⟩ := key i x hx
            rw [Array.getD_eq_getD_getElem?, hu]
            exact hl)
          refine ⟨_, .rptr (fun i => cells.getD (base + j + i) undef) F hg (fun i y hy => by
            obtain ⟨x, hx⟩ := get_of_len hl hy
            obtain ⟨u, hu, _⟩ := key i x hx
            rw [Array.getD_eq_getD_getElem?, hu]
            rfl) hF, fun q hq => ?_⟩
          rcases List.mem_cons.1 hq with rfl | hq
          · refine .inr ⟨b, (by rw [hb]; exact fun h => by cases h), ?_⟩
            show q ∈ ownOf (E.at_ b) (FP b)
            rw [ha]
            exact List.mem_cons_self ..
          · exact flatF hF2 q hq
      · cases h
    | agg cs =>
      simp only [mat] at h
      rw [Option.map_eq_some_iff] at h
      obtain ⟨ds, hm, rfl⟩ := h
      obtain ⟨us, rfl, hs, hd⟩ := hv.agg_inv
      obtain ⟨hl, F, hF, hF2⟩ := parts (fun i => us.getD i undef) hm hd
      exact ⟨_, .agg F (by omega) hF, flatF hF2⟩
    | tup cs =>
      simp only [mat] at h
      rw [Option.map_eq_some_iff] at h
      obtain ⟨ds, hm, rfl⟩ := h
      obtain ⟨us, rfl, hs, hd⟩ := hv.tup_inv
      obtain ⟨hl, F, hF, hF2⟩ := parts (fun i => us.getD i undef) hm hd
      exact ⟨_, .tup F (by omega) hF, flatF hF2⟩
    | clo f cs =>
      simp only [mat] at h
      rw [Option.map_eq_some_iff] at h
      obtain ⟨ds, hm, rfl⟩ := h
      obtain ⟨us, rfl, hs, hd⟩ := hv.clo_inv
      obtain ⟨hl, F, hF, hF2⟩ := parts (fun i => us.getD i undef) hm hd
      exact ⟨_, .clo F (by omega) hF, flatF hF2⟩

/-- A value that is handed in: what of it is lent. -/
structure LendOk (E : Env) (FP : Nat → List Nat) (st st0 : List (Nat × Blk)) (acc acc' : List Nat) (y : AV) (v : Value) : Prop where
  ok : ∃ (nw : List Nat) (us : List Value), acc' = acc ++ nw ∧ us.length = nw.length ∧ (acc.Nodup → acc'.Nodup) ∧
    (∀ (j b : Nat) (u : Value), nw[j]? = some b → us[j]? = some u → ∃ (α : Type) (sz : Nat) (enc : α → Nat → AV) (xs : Unit → List α) (fx : Bool) (off n : Unit → Nat), look b st = some (.row sz enc xs fx) ∧ off () = 0 ∧ n () = (xs ()).length ∧ Loc E (.ref b off n) u) ∧
    ∀ (sv : Nat → Value) (nb : Nat) (lent : Nat → Prop), (∀ (j : Nat) (u : Value), us[j]? = some u → sv (acc.length + j) = u) → acc'.length ≤ nb → (∀ g, FromOf E FP st0 g → ¬ lent g) → ArgRep E.w sv nb lent y v

theorem memN_false {n : Nat} : ∀ {l : List Nat}, memN n l = false → n ∉ l
  | [], _ => fun h => by cases h
  | m :: r, h => fun hm => by
    rw [memN] at h
    cases e : Nat.beq m n with
    | true => rw [e] at h; cases h
    | false =>
      rw [e] at h
      rcases List.mem_cons.1 hm with rfl | hm
      · rw [Nat.beq_refl] at e; cases e
      · exact memN_false h hm
theorem lendA_ok {E : Env} {FP : Nat → List Nat} (hG : Good E FP) {st st0 : List (Nat × Blk)} (hst : ∀ b k, look b st0 = some k → E.st b = some k) :
    ∀ (d : Nat) (x y : AV) (acc acc' : List Nat) (v : Value), lendA st st0 d x acc = some (y, acc') → wholeA st d x → Loc E x v → LendOk E FP st st0 acc acc' y v
  | 0, x, y, acc, acc', v, h, _, _ => by cases h
  | d + 1, x, y, acc, acc', v, h, hw, hv => by
    have quiet : (match mat st0 4 x with | some y => some (y, acc) | none => none) = some (y, acc') → LendOk E FP st st0 acc acc' y v := fun h => by
      split at h
      · rename_i y' hm
        cases h
        obtain ⟨fp, hd, hf⟩ := mat_from hG hst 4 _ _ hm v hv
        exact ⟨[], [], by simp, rfl, fun h => h, fun j b u hj => by simp at hj, fun sv nb lent _ _ hl => .deep hd (fun g hg => hl g (hf g hg))⟩
      · cases h
    cases x with
    | ref b off n =>
      simp only [lendA] at h
      split at h
      · rename_i α sz enc xs fx hb
        cases e : memN b acc with
        | true => rw [e] at h; cases h
        | false =>
          rw [e, cond_false] at h
          cases h
          simp only [wholeA, hb] at hw
          refine ⟨[b], [v], rfl, rfl, fun hn => ?_, fun j c u hj hu => ?_, fun sv nb lent hs hnb _ => ?_⟩
          · rw [List.nodup_append]
            exact ⟨hn, by simp, fun p hp q hq => by simp at hq; subst hq; exact fun e2 => memN_false e (e2 ▸ hp)⟩
          · cases j with
            | zero => simp at hj hu; subst hj hu; exact ⟨α, sz, enc, xs, fx, off, n, hb, hw.1, hw.2, hv⟩
            | succ j => simp at hj
          · have := hs 0 v rfl
            rw [Nat.add_zero] at this
            rw [← this]
            exact .lent _ (by simp at hnb; omega)
      · cases h
    | agg cs =>
      simp only [lendA] at h
      split at h
      · rename_i p hp
        cases h
        obtain ⟨ys, acc'⟩ := p
        obtain ⟨us, rfl, hs, hd⟩ := hv.agg_inv
        have hwl : wholeL (wholeA st d) cs := hw
        have list : ∀ (l ys : List AV) (acc acc' : List Nat) (f : Nat → Value), lendL (lendA st st0 d) l acc = some (ys, acc') → wholeL (wholeA st d) l → (∀ i x, l[i]? = some x → Loc E x (f i)) →
            ys.length = l.length ∧ ∃ (nw : List Nat) (us : List Value), acc' = acc ++ nw ∧ us.length = nw.length ∧ (acc.Nodup → acc'.Nodup) ∧
              (∀ (j b : Nat) (u : Value), nw[j]? = some b → us[j]? = some u → ∃ (α : Type) (sz : Nat) (enc : α → Nat → AV) (xs : Unit → List α) (fx : Bool) (off n : Unit → Nat), look b st = some (.row sz enc xs fx) ∧ off () = 0 ∧ n () = (xs ()).length ∧ Loc E (.ref b off n) u) ∧
              ∀ (sv : Nat → Value) (nb : Nat) (lent : Nat → Prop), (∀ (j : Nat) (u : Value), us[j]? = some u → sv (acc.length + j) = u) → acc'.length ≤ nb → (∀ g, FromOf E FP st0 g → ¬ lent g) → ∀ i y, ys[i]? = some y → ArgRep E.w sv nb lent y (f i) := by
          intro l
          induction l with
          | nil =>
            intro ys acc acc' f h _ _
            simp only [lendL, Option.some.injEq, Prod.mk.injEq] at h
            obtain ⟨rfl, rfl⟩ := h
            exact ⟨rfl, [], [], by simp, rfl, fun h => h, fun j b u hj => by simp at hj, fun sv nb lent _ _ _ i y hy => by simp at hy⟩
          | cons x l ihl =>
            intro ys acc acc' f h hw hl
            rw [lendL] at h
            split at h
            · rename_i a ha
              split at h
              · rename_i b hb
                simp only [Option.some.injEq, Prod.mk.injEq] at h
                obtain ⟨rfl, rfl⟩ := h
                obtain ⟨a1, a2⟩ := a
                obtain ⟨b1, b2⟩ := b
                obtain ⟨nw, us, e1, e2, e3, e4, e5⟩ := (lendA_ok hG hst d x a1 acc a2 (f 0) ha hw.1 (hl 0 x rfl)).ok
                obtain ⟨l1, nw', us', e1', e2', e3', e4', e5'⟩ := ihl b1 a2 b2 (fun i => f (i + 1)) hb hw.2 (fun i x hx => hl (i + 1) x (by simpa using hx))
                refine ⟨by simp [l1], nw ++ nw', us ++ us', by rw [e1', e1, List.append_assoc], by simp [e2, e2'], fun h => e3' (e3 h), fun j b u hj hu => ?_, fun sv nb lent hs hnb hL i y hy => ?_⟩
                · by_cases hlt : j < nw.length
                  · rw [List.getElem?_append_left hlt] at hj
                    rw [List.getElem?_append_left (by omega)] at hu
                    exact e4 j b u hj hu
                  · rw [List.getElem?_append_right (by omega)] at hj
                    rw [List.getElem?_append_right (by omega), e2] at hu
                    exact e4' _ b u hj hu
                · cases i with
                  | zero =>
                    simp at hy
                    subst hy
                    refine e5 sv nb lent (fun j u hu => hs j u ?_) (Nat.le_trans (by rw [e1', List.length_append]; omega) hnb) hL
                    rw [List.getElem?_append_left (lt_of_get hu)]
                    exact hu
                  | succ i =>
                    refine e5' sv nb lent (fun j u hu => ?_) hnb hL i y (by simpa using hy)
                    have := hs (us.length + j) u (by rw [List.getElem?_append_right (by omega), Nat.add_sub_cancel_left]; exact hu)
                    rw [show a2.length + j = acc.length + (us.length + j) by rw [show a2.length = acc.length + nw.length by have : a2 = acc ++ nw := e1; rw [this, List.length_append], e2]; omega]
                    exact this
              · cases h
            · cases h
        obtain ⟨l1, nw, us2, e1, e2, e3, e4, e5⟩ := list cs ys acc acc' (fun i => us.getD i undef) hp hwl hd
        exact ⟨nw, us2, e1, e2, e3, e4, fun sv nb lent h1 h2 h3 => .agg (by have l1 : ys.length = cs.length := l1; show us.size = ys.length; omega) (e5 sv nb lent h1 h2 h3)⟩
      · cases h
    | _ => exact quiet h
end Go.V

namespace Go.V
open Go Go.RowKit

def SameShape (w w' : World) (g : Nat) : Prop := ∃ cs t cs', w.heap[g]? = some (.cells cs t (0, 0)) ∧ w'.heap[g]? = some (.cells cs' t (0, 0)) ∧ cs'.size = cs.size
inductive WholeR (E : Env) (FP : Nat → List Nat) (b sz : Nat) {α : Type} (xs : List α) : Value → List Nat → Prop
  | none (A : Option Addr) (hx : xs = []) : WholeR E FP b sz xs (.slice A 0 0) []
  | some (g base cap : Nat) (cells : Array Value) (t : TypeId) (ha : E.at_ b = some (g, base)) (hc : 0 < cap) (hn : xs.length ≤ cap) (hg : E.w.heap[g]? = some (.cells cells t (0, 0))) (hr : base + cap * sz ≤ cells.size) : WholeR E FP b sz xs (.slice (some ⟨g, base, none⟩) xs.length cap) (g :: FP b)

theorem whole_ref {E : Env} {FP : Nat → List Nat} {b sz : Nat} {off n : Unit → Nat} {α : Type} {enc : α → Nat → AV} {xs : Unit → List α} {fx : Bool} {v : Value} (hG : Good E FP) (hb : E.st b = some (.row sz enc xs fx)) (h0 : off () = 0) (hn : n () = (xs ()).length) (hl : Loc E (.ref b off n) v) :
    ∃ fp, WholeR E FP b sz (xs ()) v fp ∧ Deep E.w (.sl sz enc xs) v fp ∧ fp.Nodup ∧ ∀ g ∈ fp, g ∈ E.own FP b := by
  cases hl with
  | refl hb2 _ => rw [hb] at hb2; cases hb2
  | ref hb2 hr =>
    rw [hb] at hb2
    cases hb2
    obtain ⟨hle, hr⟩ := hr
    have r := hG.rep b _ hb
    have hnd := hG.nodup b _ hb
    have hown : E.own FP b = ownOf (E.at_ b) (FP b) := rfl
    rw [hown] at hnd ⊢
    generalize hfp : FP b = fpb at r hnd ⊢
    cases r with
    | row0 ha hx =>
      rw [ha] at hr
      obtain ⟨A, rfl⟩ := hr
      exact ⟨[], .none A hx, .sl0 A hx, List.nodup_nil, fun g hg => by cases hg⟩
    | @row _ _ _ _ _ g base cells t F ha hg hrr hc =>
      rw [ha] at hr hnd ⊢
      obtain ⟨A, cap, cs, t', rfl, hnc, hg', hA⟩ := hr
      rw [hg] at hg'
      cases hg'
      rw [h0] at hA
      by_cases hcap : cap = 0
      · have hx : xs () = [] := List.eq_nil_of_length_eq_zero (by omega)
        have e : n () = 0 := by omega
        subst hcap
        rw [e]
        exact ⟨[], .none A hx, .sl0 A hx, List.nodup_nil, fun g hg => by cases hg⟩
      · obtain ⟨rfl, hsz⟩ := hA.resolve_left hcap
        rw [Nat.zero_mul, Nat.add_zero, hn]
        rw [Nat.zero_add] at hsz
        refine ⟨g :: FP b, .some g base cap cells t ha (by omega) (by omega) hg hsz, ?_, by rw [hfp]; exact hnd, fun q hq => by rw [hfp] at hq; exact hq⟩
        rw [hfp]
        exact Deep.sl (w := E.w) (sz := sz) (enc := enc) (xs := xs) (g := g) (off := base) (cap := cap) (cs := cells) (t := t) (fr := (0, 0)) (fun i j => cells.getD (base + i * sz + j) Go.undef) F (by omega) hg hsz
          (fun i x hx j hj => by
            obtain ⟨u, hu, _⟩ := hc i x hx j hj
            rw [Array.getD_eq_getD_getElem?, hu]
            rfl)
          (fun i x hx j hj => by
            obtain ⟨u, hu, hd⟩ := hc i x hx j hj
            rw [Array.getD_eq_getD_getElem?, hu]
            exact hd)

theorem WholeR.back {E E' : Env} {FP : Nat → List Nat} {b sz : Nat} {α : Type} {enc : α → Nat → AV} {xs ys : Unit → List α} {fx : Bool} {v : Value} {fp : List Nat} (h : WholeR E FP b sz (xs ()) v fp) (hr : BlkRep E b (.row sz enc xs fx) (FP b)) (ha : E'.at_ b = E.at_ b)
    (hs : ∀ g, g ∈ E.own FP b → SameShape E.w E'.w g) (hd : Deep E'.w (.sl sz enc ys) v fp) (hl : (ys ()).length = (xs ()).length) : BlkRep E' b (.row sz enc ys fx) (FP b) := by
  generalize hx : xs () = xl at h
  cases h with
  | none A hx0 =>
    have hy : ys () = [] := List.eq_nil_of_length_eq_zero (by rw [hl, hx, hx0]; rfl)
    have hs' : ∀ g base, E.at_ b = Option.some (g, base) → SameShape E.w E'.w g := fun g base e => hs g (by show g ∈ ownOf (E.at_ b) (FP b); rw [e]; exact List.mem_cons_self ..)
    clear hs hd
    generalize FP b = fpb at hr ⊢
    cases hr with
    | row0 ha' _ => exact .row0 (ha.trans ha') hy
    | @row _ _ _ _ _ g base cells t F ha' hg hr' hc =>
      obtain ⟨cs, t1, cs', s1, s2, s3⟩ := hs' g base ha'
      rw [hg] at s1
      cases s1
      rw [← hl]
      exact .row F (ha.trans ha') s2 (by rw [hl]; omega) (fun i x hx j hj => by rw [hy] at hx; simp at hx)
  | some g base cap cells t ha' hc hn hg hrr =>
    have key : ∀ v fpv, Deep E'.w (.sl sz enc ys) v fpv → v = .slice (Option.some ⟨g, base, Option.none⟩) xl.length cap → fpv = g :: FP b → BlkRep E' b (.row sz enc ys fx) (FP b) := by
      intro v fpv hd hv hfp
      cases hd with
      | sl0 A _ =>
        simp only [Value.slice.injEq] at hv
        omega
      | @sl _ _ _ _ g' off' cap' cs t' fr u F' hn' hg' hr' hu' hd' =>
        simp only [Value.slice.injEq, Option.some.injEq, Addr.mk.injEq, and_true] at hv
        obtain ⟨⟨rfl, rfl⟩, _, rfl⟩ := hv
        simp only [List.cons.injEq, true_and] at hfp
        rw [← hfp]
        obtain ⟨cs1, t1, cs', s1, s2, s3⟩ := hs g' (by show g' ∈ ownOf (E.at_ b) (FP b); rw [ha']; exact List.mem_cons_self ..)
        rw [s2] at hg'
        cases hg'
        have hmul := Nat.mul_le_mul_right sz hn'
        exact .row F' (ha.trans ha') s2 (by omega) (fun i x hx j hj => ⟨u i j, hu' i x hx j hj, hd' i x hx j hj⟩)
    exact key _ _ hd rfl rfl

/-- The state behind a call that some rows were lent to. -/
theorem Here.lent {w0 : Base} {w w' : World} {N : Nat} {tm : List (Nat × AV)} {st st' : Nat → Option Blk} {a : Act} {at_ : Nat → Option (Nat × Nat)} {FP : Nat → List Nat} (h : Here w0 N tm st a w at_ FP) {T : Nat → Prop} {lent : Nat → Prop} {pn : Nat → Option Pin}
    (hlent : ∀ g, lent g → ∃ b k, T b ∧ st b = some k ∧ g ∈ (⟨w0, w, at_, st⟩ : Env).own FP b) (hk : Kept ⟨w, lent, pn⟩ w') (hT : ∀ c, ¬ T c → st' c = st c)
    (hT2 : ∀ c, T c → ∃ (α : Type) (sz : Nat) (enc : α → Nat → AV) (xs ys : Unit → List α) (fx : Bool), st c = some (.row sz enc xs fx) ∧ st' c = some (.row sz enc ys fx) ∧ (ys ()).length = (xs ()).length)
    (hrep : ∀ c k', T c → st' c = some k' → BlkRep ⟨w0, w', at_, st'⟩ c k' (FP c)) :
    Here w0 N tm st' a w' at_ FP ∧ ∀ x v, Loc ⟨w0, w, at_, st⟩ x v → Loc ⟨w0, w', at_, st'⟩ x v := by
  have same : ∀ k, k < w.heap.size → ¬ lent k → w'.heap[k]? = w.heap[k]? := hk.block
  have shape : ∀ b k, st b = some k → ∀ g ∈ (⟨w0, w, at_, st⟩ : Env).own FP b, SameShape w w' g := fun b k hb g hg => by
    by_cases hl : lent g
    · exact hk.shape g hl
    · obtain ⟨cs, t, hc⟩ := h.good.fresh b k hb g hg
      exact ⟨cs, t, cs, hc, (same g (heap_lt hc) hl).trans hc, rfl⟩
  have old : ∀ c k, ¬ T c → st c = some k → ∀ g ∈ (⟨w0, w, at_, st⟩ : Env).own FP c, w'.heap[g]? = w.heap[g]? := fun c k hc hk g hg => by
    refine same g (h.good.bound hk g hg) (fun hl => ?_)
    obtain ⟨b, k', hTb, hb, hgb⟩ := hlent g hl
    exact h.good.apart c b k k' hk hb (fun e => hc (e ▸ hTb)) g hg hgb
  have some_of : ∀ c k', st' c = some k' → ∃ k, st c = some k ∧ Alike k k' := fun c k' hc => by
    by_cases ht : T c
    · obtain ⟨α, sz, enc, xs, ys, fx, h1, h2, h3⟩ := hT2 c ht
      rw [h2] at hc
      cases hc
      exact ⟨_, h1, .row h3⟩
    · rw [hT c ht] at hc
      exact ⟨k', hc, Alike.refl _⟩
  have to_ : ∀ c k, st c = some k → ∃ k', st' c = some k' ∧ Alike k k' := fun c k hc => by
    by_cases ht : T c
    · obtain ⟨α, sz, enc, xs, ys, fx, h1, h2, h3⟩ := hT2 c ht
      rw [h1] at hc
      cases hc
      exact ⟨_, h2, .row h3⟩
    · exact ⟨k, (hT c ht).trans hc, Alike.refl _⟩
  have hs : ∀ c k, (⟨w0, w, at_, st⟩ : Env).st c = some k → Stays ⟨w0, w, at_, st⟩ ⟨w0, w', at_, st'⟩ c k := fun c k hc => by
    refine ⟨to_ c k hc, rfl, fun g base cs t ha hg => ?_⟩
    have ha' : at_ c = some (g, base) := ha
    obtain ⟨cs1, t1, cs2, s1, s2, s3⟩ := shape c k hc g (by show g ∈ ownOf (at_ c) (FP c); rw [ha']; exact List.mem_cons_self ..)
    have hg' : w.heap[g]? = some (.cells cs t (0, 0)) := hg
    rw [hg'] at s1
    cases s1
    exact ⟨cs2, s2, s3⟩
  have mv : ∀ x v, Loc ⟨w0, w, at_, st⟩ x v → Loc ⟨w0, w', at_, st'⟩ x v := fun x v hx => hx.move rfl hs
  have hmod : Mod w0 w w' := by
    refine ⟨hk.os, hk.tape, hk.output, hk.size, fun k h1 h2 => same k (Nat.lt_of_lt_of_le h1 h.good.below.size) (fun hl => ?_), fun g cs t hm hg => ?_⟩
    · obtain ⟨b, kb, _, hb, hgb⟩ := hlent k hl
      rcases h.good.base b kb hb k hgb with h3 | h3
      · have h3 : w0.w.heap.size ≤ k := h3; omega
      · exact h2 h3
    · by_cases hl : lent g
      · obtain ⟨cs1, t1, cs2, s1, s2, s3⟩ := hk.shape g hl
        have s1' : w.heap[g]? = _ := s1
        rw [hg] at s1'
        cases s1'
        exact ⟨cs2, s2, s3⟩
      · exact ⟨cs, (same g (heap_lt hg) hl).trans hg, rfl⟩
  refine ⟨⟨⟨h.good.below.mod hmod, fun c k' hc => ?_, fun c k' hc => ?_, fun c k' hc => ?_, fun c c' k k' hc hc' hne => ?_, fun c k' hc => ?_, fun c p hp => ?_⟩, h.defers, h.size, fun t => mv _ _ (h.loc t)⟩, mv⟩
  · by_cases ht : T c
    · exact hrep c k' ht hc
    · have hc' : st c = some k' := (hT c ht).symm.trans hc
      have r := h.good.rep c k' hc'
      refine r.move rfl rfl (fun g base ha => old c k' ht hc' g ?_) (fun q hq => ?_) hs
      · have ha' : at_ c = some (g, base) := ha
        show g ∈ ownOf (at_ c) (FP c)
        rw [ha']
        exact List.mem_cons_self ..
      · have hq' : q ∈ FP c := hq
        have hown : q ∈ (⟨w0, w, at_, st⟩ : Env).own FP c := by
          show q ∈ ownOf (at_ c) (FP c)
          cases hac : at_ c with
          | some p => exact List.mem_cons_of_mem _ hq'
          | none =>
            exfalso
            generalize FP c = fq at r hq'
            cases r with
            | lit ha _ _ => rw [show at_ c = _ from ha] at hac; cases hac
            | row0 _ _ => cases hq'
            | row F ha _ _ _ => rw [show at_ c = _ from ha] at hac; cases hac
        exact old c k' ht hc' q hown
  · obtain ⟨k, hk', _⟩ := some_of c k' hc
    exact h.good.nodup c k hk'
  · obtain ⟨k, hk', _⟩ := some_of c k' hc
    exact h.good.base c k hk'
  · obtain ⟨k1, h1, _⟩ := some_of c k hc
    obtain ⟨k2, h2, _⟩ := some_of c' k' hc'
    exact h.good.apart c c' k1 k2 h1 h2 hne
  · obtain ⟨k, hk', _⟩ := some_of c k' hc
    intro g hg
    obtain ⟨cs, t, cs', s1, s2, s3⟩ := shape c k hk' g hg
    exact ⟨cs', t, s2⟩
  · obtain ⟨p1, p2, α, enc, xs, p3, p4⟩ := h.good.pins c p hp
    have p3 : st c = some (.row p.sz enc xs true) := p3
    refine ⟨p1, p2, ?_⟩
    obtain ⟨k', hk', ha⟩ := to_ c _ p3
    cases ha with
    | row hl => exact ⟨α, enc, _, hk', hl.trans p4⟩
end Go.V

namespace Go.V
open Go Go.RowKit

theorem lendL_ok {E : Env} {FP : Nat → List Nat} (hG : Good E FP) {st st0 : List (Nat × Blk)} (hst : ∀ b k, look b st0 = some k → E.st b = some k) (d : Nat) : ∀ (l ys : List AV) (acc acc' : List Nat) (f : Nat → Value), lendL (lendA st st0 d) l acc = some (ys, acc') → wholeL (wholeA st d) l → (∀ i x, l[i]? = some x → Loc E x (f i)) →
    ys.length = l.length ∧ ∃ (nw : List Nat) (us : List Value), acc' = acc ++ nw ∧ us.length = nw.length ∧ (acc.Nodup → acc'.Nodup) ∧
      (∀ (j b : Nat) (u : Value), nw[j]? = some b → us[j]? = some u → ∃ (α : Type) (sz : Nat) (enc : α → Nat → AV) (xs : Unit → List α) (fx : Bool) (off n : Unit → Nat), look b st = some (.row sz enc xs fx) ∧ off () = 0 ∧ n () = (xs ()).length ∧ Loc E (.ref b off n) u) ∧
      ∀ (sv : Nat → Value) (nb : Nat) (lent : Nat → Prop), (∀ (j : Nat) (u : Value), us[j]? = some u → sv (acc.length + j) = u) → acc'.length ≤ nb → (∀ g, FromOf E FP st0 g → ¬ lent g) → ∀ i y, ys[i]? = some y → ArgRep E.w sv nb lent y (f i)
  | [], ys, acc, acc', f, h, _, _ => by
    simp only [lendL, Option.some.injEq, Prod.mk.injEq] at h
    obtain ⟨rfl, rfl⟩ := h
    exact ⟨rfl, [], [], by simp, rfl, fun h => h, fun j b u hj => by simp at hj, fun sv nb lent _ _ _ i y hy => by simp at hy⟩
  | x :: l, ys, acc, acc', f, h, hw, hl => by
    rw [lendL] at h
    split at h
    · rename_i a ha
      split at h
      · rename_i b hb
        simp only [Option.some.injEq, Prod.mk.injEq] at h
        obtain ⟨rfl, rfl⟩ := h
        obtain ⟨a1, a2⟩ := a
        obtain ⟨b1, b2⟩ := b
        obtain ⟨nw, us, e1, e2, e3, e4, e5⟩ := (lendA_ok hG hst d x a1 acc a2 (f 0) ha hw.1 (hl 0 x rfl)).ok
        obtain ⟨l1, nw', us', e1', e2', e3', e4', e5'⟩ := lendL_ok hG hst d l b1 a2 b2 (fun i => f (i + 1)) hb hw.2 (fun i x hx => hl (i + 1) x (by simpa using hx))
        refine ⟨by simp [l1], nw ++ nw', us ++ us', by rw [e1', e1, List.append_assoc], by simp [e2, e2'], fun h => e3' (e3 h), fun j b u hj hu => ?_, fun sv nb lent hs hnb hL i y hy => ?_⟩
        · by_cases hlt : j < nw.length
          · rw [List.getElem?_append_left hlt] at hj
            rw [List.getElem?_append_left (by omega)] at hu
            exact e4 j b u hj hu
          · rw [List.getElem?_append_right (by omega)] at hj
            rw [List.getElem?_append_right (by omega), e2] at hu
            exact e4' _ b u hj hu
        · cases i with
          | zero =>
            simp at hy
            subst hy
            refine e5 sv nb lent (fun j u hu => hs j u ?_) (Nat.le_trans (by rw [e1', List.length_append]; omega) hnb) hL
            rw [List.getElem?_append_left (lt_of_get hu)]
            exact hu
          | succ i =>
            refine e5' sv nb lent (fun j u hu => ?_) hnb hL i y (by simpa using hy)
            have := hs (us.length + j) u (by rw [List.getElem?_append_right (by omega), Nat.add_sub_cancel_left]; exact hu)
            rw [show a2.length + j = acc.length + (us.length + j) by rw [show a2.length = acc.length + nw.length by have : a2 = acc ++ nw := e1; rw [this, List.length_append], e2]; omega]
            exact this
      · cases h
    · cases h

theorem ArgRep.le {w : World} {sv : Nat → Value} {nb : Nat} {lent : Nat → Prop} {x : AV} {v : Value} (h : ArgRep w sv nb lent x v) : ∀ {y : AV}, LeD x y → ArgRep w sv nb lent y v := by
  induction h with
  | deep h ho => exact fun hle => .deep (hle.deep h) ho
  | lent i hi => intro y hle; cases hle with | same => exact .lent i hi
  | agg hl hd ih =>
    intro y hle
    cases hle with
    | same => exact .agg hl hd
    | agg hl2 h2 =>
      refine .agg (hl.trans hl2.symm) (fun i y hy => ?_)
      obtain ⟨x, hx⟩ := get_of_len hl2 hy
      exact ih i x hx (h2 i x y hx hy)
theorem rowsAt_ok {st : List (Nat × Blk)} : ∀ {acc : List Nat} {bs : List AV}, rowsAt st acc = some bs → bs.length = acc.length ∧ ∀ (j b : Nat), acc[j]? = some b → ∃ (α : Type) (sz : Nat) (enc : α → Nat → AV) (xs : Unit → List α) (fx : Bool), look b st = some (.row sz enc xs fx) ∧ bs[j]? = some (.sl sz enc xs)
  | [], bs, h => by
    simp only [rowsAt, Option.some.injEq] at h
    subst h
    exact ⟨rfl, fun j b hj => by simp at hj⟩
  | c :: acc, bs, h => by
    rw [rowsAt] at h
    split at h
    · rename_i α sz enc xs fx hb
      split at h
      · rename_i l hl
        cases h
        obtain ⟨h1, h2⟩ := rowsAt_ok hl
        refine ⟨by simp [h1], fun j b hj => ?_⟩
        cases j with
        | zero => simp at hj; subst hj; exact ⟨α, sz, enc, xs, fx, hb, rfl⟩
        | succ j => exact h2 j b (by simpa using hj)
      · cases h
    · cases h
theorem setRows_ok : ∀ {acc : List Nat} {outs : List AV} {st st' : List (Nat × Blk)}, setRows acc outs st = some st' → acc.Nodup → (∀ c, c ∉ acc → look c st' = look c st) ∧
    ∀ (j b : Nat), acc[j]? = some b → ∃ (α β : Type) (sz sz' : Nat) (enc : α → Nat → AV) (enc' : β → Nat → AV) (ys : Unit → List α) (xs : Unit → List β) (fx : Bool), outs[j]? = some (.sl sz enc ys) ∧ look b st = some (.row sz' enc' xs fx) ∧ look b st' = some (.row sz enc ys fx)
  | [], outs, st, st', h, _ => by
    cases outs with
    | nil => simp only [setRows, Option.some.injEq] at h; subst h; exact ⟨fun _ _ => rfl, fun j b hj => by simp at hj⟩
    | cons => simp [setRows] at h
  | c :: acc, outs, st, st', h, hn => by
    cases outs with
    | nil => simp [setRows] at h
    | cons x l =>
      cases x <;> first | (simp [setRows] at h; done) | skip
      rename_i α sz enc ys
      simp only [setRows] at h
      split at h
      · rename_i β sz' enc' xs fx hb
        obtain ⟨hc, hn⟩ := List.nodup_cons.1 hn
        obtain ⟨h1, h2⟩ := setRows_ok h hn
        have lk : ∀ b, look b (setB c (.row sz enc ys fx) st) = if b = c then some (.row sz enc ys fx) else look b st := fun b => by
          rw [look_setB, hb]
          cases e : Nat.beq c b with
          | true => have := Nat.eq_of_beq_eq_true e; rw [if_pos this.symm]; rfl
          | false => rw [if_neg (fun h => by subst h; rw [Nat.beq_refl] at e; cases e)]; rfl
        refine ⟨fun b hb' => ?_, fun j b hj => ?_⟩
        · rw [h1 b (fun h => hb' (List.mem_cons_of_mem _ h)), lk, if_neg (fun h => hb' (by rw [h]; exact List.mem_cons_self ..))]
        · cases j with
          | zero =>
            simp at hj
            subst hj
            exact ⟨α, β, sz, sz', enc, enc', ys, xs, fx, rfl, hb, by rw [h1 c hc, lk, if_pos rfl]⟩
          | succ j =>
            have hj' : acc[j]? = some b := by simpa using hj
            obtain ⟨α', β', sz2, sz2', enc2, enc2', ys2, xs2, fx2, h3, h4, h5⟩ := h2 j b hj'
            have hne : b ≠ c := fun e => hc (e ▸ List.mem_of_getElem? hj')
            rw [lk, if_neg hne] at h4
            exact ⟨α', β', sz2, sz2', enc2, enc2', ys2, xs2, fx2, by simpa using h3, h4, h5⟩
      · cases h
theorem look_dropAll {c : Nat} : ∀ {l : List Nat} {st : List (Nat × Blk)} {k : Blk}, look c (dropAll l st) = some k → look c st = some k ∧ c ∉ l
  | [], st, k, h => ⟨h, fun h => by cases h⟩
  | b :: l, st, k, h => by
    obtain ⟨h1, h2⟩ := look_dropAll (l := l) h
    obtain ⟨h3, h4⟩ := look_drop_some h1
    exact ⟨h4, fun hm => by rcases List.mem_cons.1 hm with e | hm; exact h3 e; exact h2 hm⟩
theorem memN_true {n : Nat} : ∀ {l : List Nat}, memN n l = true → n ∈ l
  | [], h => by cases h
  | m :: r, h => by
    rw [memN] at h
    cases e : Nat.beq m n with
    | true => have := Nat.eq_of_beq_eq_true e; subst this; exact List.mem_cons_self ..
    | false => rw [e] at h; exact List.mem_cons_of_mem _ (memN_true h)

section
variable {P : Program} {Q : AV → Prop} {As : List (St → Prop)} {mu : Nat → Bool} {nid : Nat} {o : Oper}

theorem m_callm {c : Go.Call} {f : Nat} {s : St} {K : AV → St → Tree} {w0 : Base} {w : World} {N : Nat} {a : Act} (ho : o.op = .call c) (hcal : c.callee = .value (.func f)) (h : Sat P Q As (mop (.callm f c.args.toList) s nid K))
    (hr : Rel w0 N s.tm (fun b => look b s.st) a w) (hfr : ∀ b k, look b s.st = some k → b < nid) : MD P Q As o s nid K w0 N a w := by
  obtain ⟨at_, FP, hh⟩ := hr
  simp only [mop] at h
  split at h
  · rename_i p hp
    obtain ⟨as, acc⟩ := p
    cases hall : acc.all (fun b => memN b (refsL (refsA 4) (c.args.toList.map (ev s.tm)))) with
    | false => simp only [hall, Bool.not_false, cond_true] at h; exact (no_bad h).elim
    | true =>
      simp only [hall, Bool.not_true, cond_false] at h
      split at h
      · rename_i bs hbs
        cases h with
        | need hw h =>
          cases h with
          | @callm _ _ _ cargs _ cbs outs ret _ hF hl ha hlb hb hcont =>
            have hG := hh.good
            have hvals : ∀ i x, (c.args.toList.map (ev s.tm))[i]? = some x → Loc ⟨w0, w, at_, fun b => look b s.st⟩ x ((c.args.map a.eval).getD i undef) := fun i x hx => by
              rw [List.getElem?_map, Option.map_eq_some_iff] at hx
              obtain ⟨z, hz, rfl⟩ := hx
              rw [map_getD hz]
              exact hh.ev z
            obtain ⟨l1, nw, us, e1, e2, e3, e4, e5⟩ := lendL_ok hG (st := s.st) (st0 := dropAll (refsL (refsA 4) (c.args.toList.map (ev s.tm))) s.st) (fun b k hk => (look_dropAll hk).1) 4 _ _ _ _ (fun i => (c.args.map a.eval).getD i undef) hp hw hvals
            rw [List.nil_append] at e1
            subst e1
            have hnd : acc.Nodup := e3 List.nodup_nil
            obtain ⟨r1, r2⟩ := rowsAt_ok hbs
            -- the footprint of each
            have hex : ∀ (j : Nat), ∃ fpj : List Nat, ∀ (b : Nat) (u : Value), acc[j]? = some b → us[j]? = some u → ∀ (α : Type) (sz : Nat) (enc : α → Nat → AV) (xs : Unit → List α) (fx : Bool), look b s.st = some (.row sz enc xs fx) →
                WholeR ⟨w0, w, at_, fun b => look b s.st⟩ FP b sz (xs ()) u fpj ∧ Deep w (.sl sz enc xs) u fpj ∧ fpj.Nodup ∧ ∀ g ∈ fpj, g ∈ (⟨w0, w, at_, fun b => look b s.st⟩ : Env).own FP b := fun j => by
              cases ej : acc[j]? with
              | none => exact ⟨[], fun b u hb => by cases hb⟩
              | some b =>
                have hj : j < acc.length := lt_of_get ej
                have eu : us[j]? = some (us[j]'(by omega)) := List.getElem?_eq_getElem (by omega)
                obtain ⟨α, sz, enc, xs, fx, off, n, h1, h2, h3, h4⟩ := e4 j b _ ej eu
                obtain ⟨fpj, w1, w2, w3, w4⟩ := whole_ref hG h1 h2 h3 h4
                refine ⟨fpj, fun b' u' hb' hu' α' sz' enc' xs' fx' hk => ?_⟩
                cases hb'
                rw [eu] at hu'
                cases hu'
                rw [h1] at hk
                cases hk
                exact ⟨w1, w2, w3, w4⟩
            obtain ⟨fp, hfp⟩ := Classical.axiomOfChoice hex
            let sv : Nat → Value := fun j => us.getD j undef
            have hsv : ∀ j, j < acc.length → us[j]? = some (sv j) := fun j hj => by
              show us[j]? = some (us.getD j undef)
              have : j < us.length := by omega
              simp [List.getD, this]
            have at_j : ∀ (j : Nat), j < acc.length → ∃ (b : Nat) (α : Type) (sz : Nat) (enc : α → Nat → AV) (xs : Unit → List α) (fx : Bool), acc[j]? = some b ∧ look b s.st = some (.row sz enc xs fx) ∧ bs[j]? = some (.sl sz enc xs) ∧
                WholeR ⟨w0, w, at_, fun b => look b s.st⟩ FP b sz (xs ()) (sv j) (fp j) ∧ Deep w (.sl sz enc xs) (sv j) (fp j) ∧ (fp j).Nodup ∧ ∀ g ∈ fp j, g ∈ (⟨w0, w, at_, fun b => look b s.st⟩ : Env).own FP b := fun j hj => by
              have ej := List.getElem?_eq_getElem hj
              obtain ⟨α, sz, enc, xs, fx, h1, h2⟩ := r2 j _ ej
              exact ⟨_, α, sz, enc, xs, fx, ej, h1, h2, hfp j _ _ ej (hsv j hj) α sz enc xs fx h1⟩
            have hlen : cbs.length = acc.length := by omega
            have inj : ∀ (i j b : Nat), acc[i]? = some b → acc[j]? = some b → i = j := fun i j b hi hj => by
              have h1 := lt_of_get hi
              have h2 := lt_of_get hj
              rw [List.getElem?_eq_getElem h1] at hi
              rw [List.getElem?_eq_getElem h2] at hj
              exact (List.getElem_inj hnd).1 ((Option.some.inj hi).trans (Option.some.inj hj).symm)
            have lentOwn : ∀ g, (∃ i, i < cbs.length ∧ g ∈ fp i) → ∃ b k, b ∈ acc ∧ look b s.st = some k ∧ g ∈ (⟨w0, w, at_, fun b => look b s.st⟩ : Env).own FP b := fun g ⟨i, hi, hg⟩ => by
              obtain ⟨b, α, sz, enc, xs, fx, h1, h2, h3, h4, h5, h6, h7⟩ := at_j i (by omega)
              exact ⟨b, _, List.mem_of_getElem? h1, h2, h7 g hg⟩
            have notLent : ∀ g, FromOf ⟨w0, w, at_, fun b => look b s.st⟩ FP (dropAll (refsL (refsA 4) (c.args.toList.map (ev s.tm))) s.st) g → ¬ ∃ i, i < cbs.length ∧ g ∈ fp i := fun g hg hlent => by
              obtain ⟨b, k, hb1, hb2, hb3⟩ := lentOwn g hlent
              rcases hg with ⟨g1, g2⟩ | ⟨b', g1, g2⟩
              · rcases hG.base b k hb2 g hb3 with h | h
                · have h : w0.w.heap.size ≤ g := h
                  have g1 : g < w0.w.heap.size := g1
                  omega
                · exact g2 h
              · cases e : look b' (dropAll (refsL (refsA 4) (c.args.toList.map (ev s.tm))) s.st) with
                | none => exact g1 e
                | some k' =>
                  obtain ⟨d1, d2⟩ := look_dropAll e
                  have hm := memN_true (List.all_eq_true.1 hall b hb1)
                  exact hG.apart b b' k k' hb2 d1 (fun e => d2 (e ▸ hm)) g hb3 g2
            have hrun : (execOp a.eval o).run P w = .ok (.enter f (c.args.map a.eval)) w := by
              simp only [execOp, ho, resolve, hcal, Act.eval, Deferred.ofValue, Sem.run_bind, Sem.run_pure, Result.andThen_ok, invoke, call_enter hF.1]
              simp
            refine .inr ⟨f, c.args.map a.eval, w, hrun, (hF.2.2 w (c.args.map a.eval) sv fp (fun i B hB => ?_) (fun i j hi hj hne g hg hg' => ?_) (by have : as.length = (c.args.toList.map (ev s.tm)).length := l1; simp at this ⊢; omega) (fun i y hy => ?_)).mono (fun e w' hpost => ?_)⟩
            · obtain ⟨b, α, sz, enc, xs, fx, h1, h2, h3, h4, h5, h6, h7⟩ := at_j i (by have := lt_of_get hB; omega)
              exact ⟨(hb i _ _ h3 hB).deep h5, h6, fun g hg => hG.fresh b _ h2 g (h7 g hg)⟩
            · obtain ⟨b, α, sz, enc, xs, fx, h1, h2, h3, h4, h5, h6, h7⟩ := at_j i (by omega)
              obtain ⟨b', α', sz', enc', xs', fx', h1', h2', h3', h4', h5', h6', h7'⟩ := at_j j (by omega)
              exact hG.apart b b' _ _ h2 h2' (fun e => hne (inj i j b h1 (e ▸ h1'))) g (h7 g hg) (h7' g hg')
            · obtain ⟨x, hx⟩ := get_of_len hl hy
              refine (e5 sv cbs.length _ (fun j u hu => ?_) (by omega) notLent i x hx).le (ha i x y hx hy)
              have := hsv j (by have := lt_of_get hu; omega)
              rw [hu] at this
              simp only [List.length_nil, Nat.zero_add]
              exact (Option.some.inj this).symm
            · obtain ⟨v, rfl, hout, hret, hk⟩ := hpost
              refine ⟨v, rfl, ?_⟩
              dsimp only at hcont
              split at hcont
              · rename_i st' hst'
                obtain ⟨s1, s2⟩ := setRows_ok hst' hnd
                have rowj : ∀ (j b : Nat), acc[j]? = some b → ∃ (α : Type) (sz : Nat) (enc : α → Nat → AV) (xs ys : Unit → List α) (fx : Bool), look b s.st = some (.row sz enc xs fx) ∧ look b st' = some (.row sz enc ys fx) ∧ (ys ()).length = (xs ()).length ∧ outs[j]? = some (.sl sz enc ys) ∧ bs[j]? = some (.sl sz enc xs) := fun j b hj => by
                  have hjl := lt_of_get hj
                  obtain ⟨α, sz, enc, xs, fx, h1, h2⟩ := r2 j b hj
                  obtain ⟨α', β', sz1, sz2, enc1, enc2, ys, xs2, fx2, h3, h4, h5⟩ := s2 j b hj
                  rw [h1] at h4
                  cases h4
                  have hcb : j < cbs.length := by omega
                  have hcb' := List.getElem?_eq_getElem hcb
                  have hle := hb j _ _ h2 hcb'
                  have hsame := hF.2.1.2 j _ _ hcb' h3
                  generalize cbs[j] = cb at hle hsame
                  cases hle with
                  | same =>
                    cases hsame with
                    | mk hlen => exact ⟨_, _, _, _, _, _, h1, h5, hlen, h3, h2⟩
                  | sl hxs =>
                    cases hsame with
                    | mk hlen => exact ⟨_, _, _, _, _, _, h1, h5, by rw [hlen, hxs], h3, h2⟩
                have hT : ∀ b, b ∈ acc → ∃ j, acc[j]? = some b := fun b hb => List.getElem?_of_mem hb
                obtain ⟨hh2, mv⟩ := hh.lent (st' := fun b => look b st') (w' := w') (T := fun b => b ∈ acc) (lent := fun g => ∃ i, i < cbs.length ∧ g ∈ fp i) (fun g hg => by
                    obtain ⟨b, k, h1, h2, h3⟩ := lentOwn g hg
                    exact ⟨b, k, h1, h2, h3⟩) hk (fun c hc => s1 c hc) (fun c hc => by
                    obtain ⟨j, hj⟩ := hT c hc
                    obtain ⟨α, sz, enc, xs, ys, fx, h1, h2, h3, _⟩ := rowj j c hj
                    exact ⟨α, sz, enc, xs, ys, fx, h1, h2, h3⟩) (fun c k' hc hk' => by
                    obtain ⟨j, hj⟩ := hT c hc
                    obtain ⟨α, sz, enc, xs, ys, fx, h1, h2, h3, h4, h5⟩ := rowj j c hj
                    have hk2 : look c st' = some k' := hk'
                    rw [h2] at hk2
                    cases hk2
                    obtain ⟨w1, w2, w3, w4⟩ := hfp j c _ hj (hsv j (lt_of_get hj)) α sz enc xs fx h1
                    exact w1.back (E' := ⟨w0, w', at_, fun b => look b st'⟩) (hG.rep c _ h1) rfl (fun g hg => by
                      by_cases hl : ∃ i, i < cbs.length ∧ g ∈ fp i
                      · exact hk.shape g hl
                      · obtain ⟨cs, t, hcs⟩ := hG.fresh c _ h1 g hg
                        exact ⟨cs, t, cs, hcs, (hk.block g (heap_lt hcs) hl).trans hcs, rfl⟩) (hout j _ h4) h3)
                have keys : ∀ b k, look b st' = some k → b < nid := fun b k hb => by
                  by_cases hm : b ∈ acc
                  · obtain ⟨j, hj⟩ := hT b hm
                    obtain ⟨α, sz, enc, xs, ys, fx, h1, _⟩ := rowj j b hj
                    exact hfr b _ h1
                  · rw [s1 b hm] at hb
                    exact hfr b k hb
                split at hcont
                · rename_i x
                  cases hle : Nat.ble (imp 3 x nid).2.2 (nid + 16) with
                  | false => simp only [hle, cond_false] at hcont; exact (no_bad hcont).elim
                  | true =>
                    simp only [hle, cond_true] at hcont
                    have hle := Nat.le_of_ble_eq_true hle
                    cases hret with
                    | val hd hn hf =>
                      obtain ⟨at1, FP1, i1, i2, _⟩ := (imp_ok 3 x nid w0 w' N s.tm a (fun b => look b st') at_ FP v _ hh2 hd hn (fun g hg => ⟨hG.below.free (hf g hg).1, (hf g hg).2⟩)
                        (fun c k hc g hg hg' => by
                          have hc' : ∃ k0, look c s.st = some k0 := by
                            by_cases hm : c ∈ acc
                            · obtain ⟨j, hj⟩ := hT c hm
                              obtain ⟨α, sz, enc, xs, ys, fx, h1, _⟩ := rowj j c hj
                              exact ⟨_, h1⟩
                            · exact ⟨k, (s1 c hm).symm.trans hc⟩
                          obtain ⟨k0, hk0⟩ := hc'
                          have h1 := hG.bound (show (⟨w0, w, at_, fun b => look b s.st⟩ : Env).st c = some k0 from hk0) g hg'
                          have h1 : g < w.heap.size := h1
                          have := (hf g hg).1
                          omega)
                        (fun b hb1 hb2 => by
                          show look b st' = none
                          cases e : look b st' with
                          | none => rfl
                          | some k => have := keys b k e; omega)).ok
                      refine ⟨_, _, hcont, rfl, fun b k hb => ?_, at1, FP1, i1.congr (fun _ => rfl) (fun b => ?_), ?_⟩
                      · have hb' : look b ((imp 3 x nid).2.1 ++ st') = some k := hb
                        rw [look_append] at hb'
                        split at hb'
                        · rename_i k' hk'
                          have := ((imp_ids 3 x nid).2 _ (look_mem hk')).2
                          have : b < (imp 3 x nid).2.2 := this
                          omega
                        · have := keys b k hb'; omega
                      · show (match look b (imp 3 x nid).2.1 with | some k => some k | none => look b st') = look b ((imp 3 x nid).2.1 ++ st')
                        rw [look_append]
                        cases look b (imp 3 x nid).2.1 <;> rfl
                      · have e : (fun b => look b ((imp 3 x nid).2.1 ++ st')) = addAll (imp 3 x nid).2.1 (fun b => look b st') := by
                          funext b
                          show look b ((imp 3 x nid).2.1 ++ st') = (match look b (imp 3 x nid).2.1 with | some k => some k | none => look b st')
                          rw [look_append]
                          cases look b (imp 3 x nid).2.1 <;> rfl
                        show Loc ⟨w0, w', at1, fun b => look b ((imp 3 x nid).2.1 ++ st')⟩ _ _
                        rw [e]
                        exact i2
                · rename_i i k1 off k2 n
                  split at hcont
                  · rename_i b hbi
                    cases hret with
                    | @view _ _ _ _ _ o m α sz enc xs _ hbb ho hm hv =>
                      obtain ⟨α0, sz0, enc0, xs0, ys0, fx0, h1, h2, h3, h4, h5⟩ := rowj i b hbi
                      have hsz : sz0 = sz := by
                        have hle := hb i _ _ h5 hbb
                        cases hle <;> rfl
                      subst hsz
                      refine ⟨_, _, hcont, rfl, fun b k hb => by have := keys b k hb; omega, at_, FP, hh2, .ref h2 ?_⟩
                      obtain ⟨w1, w2, w3, w4⟩ := hfp i b _ hbi (hsv i (lt_of_get hbi)) α0 sz0 enc0 xs0 fx0 h1
                      dsimp only
                      rw [ho, hm, Int.toNat_natCast, Int.toNat_natCast, h3]
                      obtain ⟨A, len, cap, q1, q2, A', cap', rfl, q3, q4⟩ := hv
                      rw [q1] at w1
                      generalize hfi : fp i = fpi at w1
                      generalize hx0 : xs0 () = xl at w1
                      cases w1 with
                      | none A hx =>
                        have hm0 : m = 0 := by omega
                        have ho0 : o = 0 := by omega
                        have hc0 : cap' = 0 := by rcases q4 with h | ⟨h, _⟩ <;> omega
                        subst hm0 ho0 hc0
                        cases hat : at_ b with
                        | none => exact .ofNone hat (by omega)
                        | some pl =>
                          obtain ⟨g, base⟩ := pl
                          have hown : g ∈ (⟨w0, w', at_, fun b => look b st'⟩ : Env).own FP b := by
                            show g ∈ ownOf (at_ b) (FP b)
                            rw [hat]
                            exact List.mem_cons_self ..
                          obtain ⟨cs, t, hcs⟩ := hh2.good.fresh b _ h2 g hown
                          exact .ofSome hat (by omega) (Nat.le_refl _) hcs (.inl rfl)
                      | some g base cap2 cells t hat hc hn hg hr =>
                        have hat' : at_ b = some (g, base) := hat
                        have hown : g ∈ (⟨w0, w', at_, fun b => look b st'⟩ : Env).own FP b := by
                          show g ∈ ownOf (at_ b) (FP b)
                          rw [hat']
                          exact List.mem_cons_self ..
                        obtain ⟨cs, t', hcs⟩ := hh2.good.fresh b _ h2 g hown
                        refine .ofSome hat' (by omega) q3 hcs ?_
                        rcases q4 with h | ⟨_, g2, o2, cs2, t2, z1, z2, z3, z4⟩
                        · exact .inl h
                        · simp only [Option.some.injEq, Addr.mk.injEq, and_true] at z1
                          obtain ⟨rfl, rfl⟩ := z1
                          have hcs' : w'.heap[g]? = some (.cells cs t' (0, 0)) := hcs
                          rw [hcs'] at z3
                          cases z3
                          exact .inr ⟨z2, z4⟩
                  · exact (no_bad hcont).elim
                · exact (no_bad hcont).elim
              · exact (no_bad hcont).elim
      · exact (no_bad h).elim
  · exact (no_bad h).elim
end
end Go.V

namespace Go.V
open Go Go.RowKit
section
variable {P : Program} {Q : AV → Prop} {As : List (St → Prop)} {mu : Nat → Bool} {nid : Nat} {o : Oper}

theorem exp_cellOk : ∀ (d : Nat) (st st' : List (Nat × Blk)) (x y : AV), exp d st x = some (y, st') → cellOk y = true → cellOk x = true := by
  intro d st st' x y h hy
  cases x <;> first | rfl | skip
  · cases d <;> simp [exp] at h
  · cases d <;> simp [exp] at h
  · cases d <;> simp [exp] at h
  · cases d with
    | zero => simp [exp] at h
    | succ d =>
      rw [exp] at h
      split at h
      · simp only [Option.some.injEq, Prod.mk.injEq] at h
        rw [← h.1] at hy
        cases hy
      · cases h
  · cases d with
    | zero => simp [exp] at h
    | succ d =>
      rw [exp] at h
      split at h
      · simp only [Option.some.injEq, Prod.mk.injEq] at h
        rw [← h.1] at hy
        cases hy
      · cases h
theorem expL_cellOk {d : Nat} : ∀ (l ys : List AV) (st st' : List (Nat × Blk)), expL (exp d) st l = some (ys, st') → ys.all cellOk = true → l.all cellOk = true
  | [], _, _, _, _, _ => rfl
  | x :: l, ys, st, st', h, hy => by
    rw [expL] at h
    split at h
    · rename_i a ha
      split at h
      · rename_i b hb
        simp only [Option.some.injEq, Prod.mk.injEq] at h
        obtain ⟨rfl, rfl⟩ := h
        simp only [List.all_cons, Bool.and_eq_true] at hy ⊢
        exact ⟨exp_cellOk d _ _ _ _ ha hy.1, expL_cellOk l _ _ _ hb hy.2⟩
      · cases h
    · cases h

/-- What an operation that writes is. -/
theorem mut_key {m : MOp} (hc : compOp P mu o.op = some m) (hm : isMut m = true) :
    (∃ t x y n, o.op = .store t x y ∧ sizeOf? P t = some n ∧ 0 < n ∧ m = .sto x y n) ∨ (∃ x y size bytes, AppInfo P o x y size bytes ∧ m = .app x y size bytes) ∨ ∃ c f, o.op = .call c ∧ c.callee = .value (.func f) ∧ m = .callm f c.args.toList := by
  cases ho : o.op with
  | store t x y =>
    simp only [ho, compOp, Option.bind_eq_some_iff] at hc
    obtain ⟨n, hn, hc⟩ := hc
    split at hc
    · cases hc
    · cases hc
      exact .inl ⟨t, x, y, n, rfl, hn, by omega, rfl⟩
  | call c =>
    simp only [ho, compOp] at hc
    split at hc
    · split at hc
      · split at hc <;> first | (cases hc; cases hm; done) | (cases hc; done)
      · cases hc
    · split at hc <;> first | (cases hc; cases hm; done) | (cases hc; done)
    · split at hc <;> first | (cases hc; cases hm; done) | (cases hc; done)
    · rename_i hcal
      split at hc
      · rename_i t u x y ht ha
        simp only [Option.bind_eq_some_iff] at hc
        obtain ⟨e, he, i, hi, zs, hz, hc⟩ := hc
        split at hc
        · rename_i e' hu
          split at hc
          · rename_i hh
            cases hc
            refine .inr (.inl ⟨x, y, i.size, i.bytes, ⟨?_⟩, rfl⟩)
            have he' : P.underlying t = some (.slice e) := by
              unfold elem? at he
              split at he
              · rename_i hu'; cases he; exact hu'
              · cases he
            unfold zero? at hz
            rw [hi, Option.bind_some, Option.map_eq_some_iff] at hz
            obtain ⟨z, hz, hzs⟩ := hz
            refine ⟨c, t, u, e, e', i, z, ho, hcal, ?_, ?_, he', hu, hi, hz, rfl, rfl, ?_, hh.2.1, hh.2.2.1, hh.2.2.2⟩
            · apply Array.ext'; exact ht
            · apply Array.ext'; exact ha
            · have := hh.1; rw [← hzs] at this; simpa using this
          · cases hc
        · cases hc
      · cases hc
    · split at hc <;> first | (cases hc; cases hm; done) | (cases hc; exact .inr (.inr ⟨c, _, rfl, ‹_›, rfl⟩))
    · cases hc; cases hm
    · cases hc
  | unOp u t x => cases u <;> simp only [ho, compOp, Option.some.injEq] at hc <;> first | (cases hc; done) | (subst hc; cases hm)
  | binOp op t x y t' =>
    simp only [ho, compOp] at hc
    split at hc
    · rw [Option.bind_eq_some_iff] at hc
      obtain ⟨ks, _, hc⟩ := hc
      split at hc <;> first | (cases hc; cases hm) | cases hc
    · cases hc; cases hm
    · cases hc; cases hm
    · cases hc; cases hm
    · cases hc; cases hm
    · cases hc
  | makeFunc f first caps =>
    cases f <;> simp only [ho, compOp] at hc <;> first | (cases hc; done) | (split at hc <;> first | (cases hc; cases hm) | cases hc)
  | _ =>
    simp only [ho, compOp] at hc
    first
      | (cases hc; done)
      | (simp only [Option.some.injEq] at hc; subst hc; cases hm; done)
      | (simp only [Option.map_eq_some_iff] at hc; obtain ⟨_, _, rfl⟩ := hc; cases hm; done)
      | (simp only [Option.bind_eq_some_iff, Option.map_eq_some_iff] at hc; obtain ⟨_, _, _, _, rfl⟩ := hc; cases hm; done)
      | (simp only [Option.bind_eq_some_iff] at hc; obtain ⟨_, _, hc⟩ := hc; split at hc <;> first | (cases hc; cases hm; done) | (cases hc; done))
      | (simp only [Option.bind_eq_some_iff] at hc; obtain ⟨_, _, _, _, hc⟩ := hc; split at hc <;> first | (cases hc; cases hm; done) | (cases hc; done))
      | (simp only [Option.bind_eq_some_iff] at hc; obtain ⟨_, _, _, _, _, _, hc⟩ := hc; split at hc <;> first | (cases hc; cases hm; done) | (cases hc; done))
      | (split at hc <;> first
          | (cases hc; cases hm; done)
          | (cases hc; done)
          | (simp only [Option.map_eq_some_iff] at hc; obtain ⟨_, _, rfl⟩ := hc; cases hm; done)
          | (simp only [Option.bind_eq_some_iff, Option.map_eq_some_iff] at hc; obtain ⟨_, _, _, _, _, _, rfl⟩ := hc; cases hm; done))

theorem sat_need {p : Unit → Prop} {c : Unit → Tree} (h : Sat P Q As (.need p c)) : p () ∧ Sat P Q As (c ()) := by
  cases h with
  | need h1 h2 => exact ⟨h1, h2⟩
theorem sat_typ {cells : List AV} {c : (α : Type) → (enc : α → Nat → AV) → α → Tree} (h : Sat P Q As (.typ cells c)) : ∃ α enc z, (∀ (j : Nat) (x : AV), cells[j]? = some x → LeD x (enc z j)) ∧ Sat P Q As (c α enc z) := by
  cases h with
  | typ enc z h1 h2 => exact ⟨_, enc, z, h1, h2⟩
theorem sat_typed {α : Type} {sz : Nat} {enc : α → Nat → AV} {cells : List AV} {c : α → Tree} (h : Sat P Q As (.typed sz enc cells c)) : ∃ z, (∀ (j : Nat) (x : AV), cells[j]? = some x → LeD x (enc z j)) ∧ Sat P Q As (c z) := by
  cases h with
  | typed z h1 h2 => exact ⟨z, h1, h2⟩
theorem sat_idx {α : Type} {xs : Unit → List α} {i : Unit → Nat} {c : α → Tree} (h : Sat P Q As (.idx xs i c)) : ∃ x, (xs ())[i ()]? = some x ∧ Sat P Q As (c x) := by
  cases h with
  | idx h0 h1 => exact ⟨_, List.getElem?_eq_getElem h0, h1 _ (List.getElem?_eq_getElem h0)⟩
theorem beq_ne {b c : Nat} (h : (!(Nat.beq b c)) = true) : b ≠ c := fun e => by subst e; rw [Nat.beq_refl] at h; cases h
theorem and3 {a b : Bool} (h : (a && b) = true) : a = true ∧ b = true := by simpa using h

theorem comp_mut {m : MOp} {s : St} {K : AV → St → Tree} {w0 : Base} {w : World} {N : Nat} {a : Act} (hc : compOp P mu o.op = some m) (hm : isMut m = true) (h : Sat P Q As (mop m s nid K))
    (hr : Rel w0 N s.tm (fun b => look b s.st) a w) (hfr : ∀ b k, look b s.st = some k → b < nid) : MD P Q As o s nid K w0 N a w := by
  rcases mut_key hc hm with ⟨t, x, y, n, ho, hn, h0, rfl⟩ | ⟨x, y, size, bytes, hI, rfl⟩ | ⟨c, f, ho, hcal, rfl⟩
  · simp only [mop] at h
    split at h
    · rename_i b j hx
      split at h
      · rename_i sz cs hb
        cases e : (Nat.beq (cellsOf (ev s.tm y)).length n && Nat.ble (j + n) cs.length && (cellsOf (ev s.tm y)).all cellOk) with
        | false => rw [e, cond_false] at h; exact (no_bad h).elim
        | true =>
          rw [e, cond_true] at h
          obtain ⟨e1, e3⟩ := and3 e
          obtain ⟨e1, e2⟩ := and3 e1
          exact m_sto_ptr ho hn h0 hx hb (Nat.eq_of_beq_eq_true e1) (Nat.le_of_ble_eq_true e2) e3 h hr hfr
      · exact (no_bad h).elim
    · rename_i b i j hx
      split at h
      · rename_i α sz enc xs fx hb
        split at h
        · rename_i p hp
          obtain ⟨ys, rest⟩ := p
          cases e : (Nat.beq ys.length n && Nat.ble (j + n) sz && ys.all cellOk) with
          | false => simp only [e, cond_false] at h; exact (no_bad h).elim
          | true =>
            simp only [e, cond_true] at h
            obtain ⟨e1, e3⟩ := and3 e
            obtain ⟨e1, e2⟩ := and3 e1
            obtain ⟨z, hz, h⟩ := sat_idx h
            cases e5 : (bif fx then ys.all flat && (List.range n).all (fun q => flat (enc z (j + q))) else true) with
            | false => simp only [e5, Bool.not_false, cond_true] at h; exact (no_bad h).elim
            | true =>
              simp only [e5, Bool.not_true, cond_false] at h
              obtain ⟨z', hty, h⟩ := sat_typed h
              refine m_sto_eptr ho hn h0 hx hb hp (Nat.eq_of_beq_eq_true e1) (Nat.le_of_ble_eq_true e2) hz (expL_cellOk _ _ _ _ hp e3) (fun hf => ?_) hty h hr hfr
              subst hf
              rw [cond_true] at e5
              obtain ⟨e6, e7⟩ := and3 e5
              refine ⟨e6, fun q h1 h2 => ?_⟩
              have := List.all_eq_true.1 e7 (q - j) (List.mem_range.2 (by omega))
              rwa [show j + (q - j) = q by omega] at this
        · exact (no_bad h).elim
      · exact (no_bad h).elim
    · exact (no_bad h).elim
  · have hsl : ∀ {α : Type} {z : Nat} {enc : α → Nat → AV} {ys : Unit → List α}, ev s.tm y = .sl z enc ys → ∀ at_ FP, Here w0 N s.tm (fun b => look b s.st) a w at_ FP → ∃ fp, Deep w (.sl z enc ys) (a.eval y) fp := fun e at_ FP hh => by
      have hl := hh.ev y
      rw [e] at hl
      cases hl with
      | sl hd => exact ⟨_, hd.under hh.good.below⟩
    have hrf : ∀ {α : Type} {z : Nat} {enc : α → Nat → AV} {xs : Unit → List α} {fx : Bool} {b : Nat} {off n : Unit → Nat}, ev s.tm y = .ref b off n → look b s.st = some (.row z enc xs fx) → ∀ at_ FP, Here w0 N s.tm (fun b => look b s.st) a w at_ FP →
        (∃ fp, Deep w (.sl z enc (fun _ => ((xs ()).drop (off ())).take (n ()))) (a.eval y) fp) ∧ (((xs ()).drop (off ())).take (n ())).length = n () := fun e hb at_ FP hh => by
      have hl := hh.ev y
      rw [e] at hl
      obtain ⟨fp, hd, _⟩ := ref_deep hh.good hb hl
      obtain ⟨_, _, _, _, hle, _⟩ := ref_row hh.good hb hl
      exact ⟨⟨fp, hd⟩, by rw [List.length_take, List.length_drop]; omega⟩
    have hnew : (ev s.tm x = .nil ∨ ev s.tm x = .emp) → Sat P Q As (match ev s.tm y with
        | .nil => K (ev s.tm x) s
        | .emp => K (ev s.tm x) s
        | .sl z enc ys => bif Nat.beq z size then .need (fun _ => (∀ y ∈ ys (), ∀ j, j < z → flat (enc y j) = true) ∧ (ys ()).length * bytes ≤ 140737488351232) (fun _ => K (.ref nid (fun _ => 0) (fun _ => (ys ()).length)) { s with st := (nid, .row z enc ys false) :: s.st }) else .bad 71
        | .ref b off n => match look b s.st with
          | some (.row z enc xs _) => bif Nat.beq z size then .need (fun _ => (∀ y ∈ xs (), ∀ j, j < z → flat (enc y j) = true) ∧ n () * bytes ≤ 140737488351232) (fun _ => K (.ref nid (fun _ => 0) n) { s with st := (nid, .row z enc (fun _ => ((xs ()).drop (off ())).take (n ())) false) :: s.st }) else .bad 72
          | some (.lit z cs) => bif Nat.beq z size && Nat.beq (cs.length) size then
              match expL (exp 3) (drop_ b s.st) cs with
              | some a => bif !(a.1.all cellOk) then .bad 86 else .need (fun _ => off () = 0 ∧ n () = 1) (fun _ => .typ a.1 (fun _ enc x =>
                  let gone : Nat → Bool := fun q => match look q s.st, look q a.2 with | some _, none => true | _, _ => false
                  K (.ref nid (fun _ => 0) (fun _ => 1)) { tm := scrubT gone s.tm, st := (nid, .row size enc (fun _ => [x]) false) :: a.2.map (scrubB gone), nx := s.nx }))
              | none => .bad 73
            else .bad 74
          | _ => .bad 75
        | _ => .bad 76) → MD P Q As o s nid K w0 N a w := by
      clear h
      intro hx h
      split at h
      · rename_i hy
        exact m_app_none hI (hx.elim .inl (fun e => .inr (.inl e))) (.inl hy) h hr hfr
      · rename_i hy
        exact m_app_none hI (hx.elim .inl (fun e => .inr (.inl e))) (.inr hy) h hr hfr
      · rename_i α z enc ys hy
        cases e : Nat.beq z size with
        | false => rw [e, cond_false] at h; exact (no_bad h).elim
        | true =>
          rw [e, cond_true] at h
          obtain rfl := Nat.eq_of_beq_eq_true e
          obtain ⟨⟨h1, h2⟩, h⟩ := sat_need h
          exact m_app_new hI hx (hsl hy) h1 rfl h2 h hr hfr
      · rename_i b off n hy
        split at h
        · rename_i α z enc xs fx hb
          cases e : Nat.beq z size with
          | false => rw [e, cond_false] at h; exact (no_bad h).elim
          | true =>
            rw [e, cond_true] at h
            obtain rfl := Nat.eq_of_beq_eq_true e
            obtain ⟨⟨h1, h2⟩, h⟩ := sat_need h
            obtain ⟨at_, FP, hh⟩ := hr
            have hlen := (hrf hy hb at_ FP hh).2
            exact m_app_new hI hx (fun at_ FP hh => (hrf hy hb at_ FP hh).1) (fun y hy j hj => h1 y (List.mem_of_mem_drop (List.mem_of_mem_take hy)) j hj) hlen.symm (by rw [hlen]; exact h2) h ⟨at_, FP, hh⟩ hfr
        · rename_i z cs hb
          cases e : (Nat.beq z size && Nat.beq cs.length size) with
          | false => rw [e, cond_false] at h; exact (no_bad h).elim
          | true =>
            rw [e, cond_true] at h
            obtain ⟨e1, e2⟩ := and3 e
            obtain rfl := Nat.eq_of_beq_eq_true e1
            have e2 := Nat.eq_of_beq_eq_true e2
            split at h
            · rename_i p hp
              obtain ⟨ys, rest⟩ := p
              cases e3 : ys.all cellOk with
              | false => simp only [e3, Bool.not_false, cond_true] at h; exact (no_bad h).elim
              | true =>
                simp only [e3, Bool.not_true, cond_false] at h
                obtain ⟨⟨h1, h2⟩, h⟩ := sat_need h
                obtain ⟨α, enc, z', hty, h⟩ := sat_typ h
                exact m_app_lit_new hI hx hy hb e2 hp e3 h1 h2 hty h hr hfr
            · exact (no_bad h).elim
        · exact (no_bad h).elim
      · exact (no_bad h).elim
    simp only [mop] at h
    split at h
    · rename_i hx
      exact hnew (.inl hx) h
    · rename_i hx
      exact hnew (.inr hx) h
    · rename_i b off n hx
      split at h
      · rename_i α z enc xs hb
        split at h
        · rename_i hy
          cases e : Nat.beq z size with
          | false => rw [e, cond_false] at h; exact (no_bad h).elim
          | true =>
            rw [e, cond_true] at h
            obtain rfl := Nat.eq_of_beq_eq_true e
            exact m_app_none hI (.inr (.inr ⟨b, off, n, α, enc, xs, false, hx, hb⟩)) (.inl hy) (by rw [hx]; exact h) hr hfr
        · rename_i hy
          cases e : Nat.beq z size with
          | false => rw [e, cond_false] at h; exact (no_bad h).elim
          | true =>
            rw [e, cond_true] at h
            obtain rfl := Nat.eq_of_beq_eq_true e
            exact m_app_none hI (.inr (.inr ⟨b, off, n, α, enc, xs, false, hx, hb⟩)) (.inr hy) (by rw [hx]; exact h) hr hfr
        · rename_i β z' enc' ys hy
          cases e : (Nat.beq z size && Nat.beq z' size) with
          | false => rw [e, cond_false] at h; exact (no_bad h).elim
          | true =>
            rw [e, cond_true] at h
            obtain ⟨e1, e2⟩ := and3 e
            obtain rfl := Nat.eq_of_beq_eq_true e1
            obtain rfl := Nat.eq_of_beq_eq_true e2
            obtain ⟨⟨h1, h2, h3⟩, h⟩ := sat_need h
            cases h with
            | same h => exact m_app_row hI hx hb h1 (hsl hy) h2 rfl h3 h hr hfr
        · rename_i b' off' n' hy
          split at h
          · rename_i β z' enc' ys fx hb'
            cases e : (Nat.beq z size && Nat.beq z' size && !(Nat.beq b' b)) with
            | false => rw [e, cond_false] at h; exact (no_bad h).elim
            | true =>
              rw [e, cond_true] at h
              obtain ⟨e1, _⟩ := and3 e
              obtain ⟨e1, e2⟩ := and3 e1
              obtain rfl := Nat.eq_of_beq_eq_true e1
              obtain rfl := Nat.eq_of_beq_eq_true e2
              obtain ⟨⟨h1, h2, h3⟩, h⟩ := sat_need h
              obtain ⟨at_, FP, hh⟩ := hr
              have hlen := (hrf hy hb' at_ FP hh).2
              cases h with
              | same h => exact m_app_row hI hx hb h1 (fun at_ FP hh => (hrf hy hb' at_ FP hh).1) (fun y hy j hj => h2 y (List.mem_of_mem_drop (List.mem_of_mem_take hy)) j hj) rfl (by rw [hlen]; exact h3) h ⟨at_, FP, hh⟩ hfr
          · rename_i z' cs hb'
            cases e : (Nat.beq z size && Nat.beq z' size && Nat.beq cs.length size && !(Nat.beq b' b)) with
            | false => rw [e, cond_false] at h; exact (no_bad h).elim
            | true =>
              rw [e, cond_true] at h
              obtain ⟨e1, e4⟩ := and3 e
              obtain ⟨e1, e3⟩ := and3 e1
              obtain ⟨e1, e2⟩ := and3 e1
              obtain rfl := Nat.eq_of_beq_eq_true e1
              obtain rfl := Nat.eq_of_beq_eq_true e2
              have e3 := Nat.eq_of_beq_eq_true e3
              split at h
              · rename_i p hp
                obtain ⟨zs, rest⟩ := p
                cases e5 : zs.all cellOk with
                | false => simp only [e5, Bool.not_false, cond_true] at h; exact (no_bad h).elim
                | true =>
                  simp only [e5, Bool.not_true, cond_false] at h
                  obtain ⟨⟨h1, h2, h3, h4⟩, h⟩ := sat_need h
                  obtain ⟨z', hty, h⟩ := sat_typed h
                  exact m_app_lit_row hI hx hb h1 hy hb' e3 (beq_ne e4) hp e5 h2 h3 hty h4 h hr hfr
              · exact (no_bad h).elim
          · exact (no_bad h).elim
        · exact (no_bad h).elim
      · exact (no_bad h).elim
    · exact (no_bad h).elim
  · exact m_callm ho hcal h hr hfr

theorem sat_may {p : Unit → Prop} {c d : Unit → Tree} (h : Sat P Q As (.may p c d)) : (p () → Sat P Q As (c ())) ∧ Sat P Q As (d ()) := by
  cases h with
  | may h1 h2 => exact ⟨h1, h2⟩

theorem comp_nbin {m : MOp} {tm : List (Nat × AV)} {st : List (Nat × Blk)} {K : AV → List (Nat × Blk) → Tree} {w0 : Base} {w : World} {N : Nat} {a : Act} {st' : Nat → Option Blk} (hc : compOp P mu o.op = some m) (hm : isNbin m = true) (h : Sat P Q As (qop m tm st nid K))
    (hr : Rel w0 N tm st' a w) :
    Does P o a w (fun u w' => ∃ v, Sat P Q As (K v []) ∧ ∃ at_ FP, Here w0 N tm st' a w' at_ FP ∧ Loc ⟨w0, w', at_, st'⟩ v u) := by
  have key : ∃ op t e x y t', o.op = .binOp op t x y t' ∧ P.underlying t = some (.slice e) ∧ m = .nbin op x y := by
    cases ho : o.op with
    | binOp op t x y t' =>
      simp only [ho, compOp] at hc
      split at hc
      · rw [Option.bind_eq_some_iff] at hc
        obtain ⟨ks, _, hc⟩ := hc
        split at hc <;> first | (cases hc; cases hm) | cases hc
      · cases hc; cases hm
      · cases hc; cases hm
      · cases hc; cases hm
      · rename_i e hu
        cases hc
        exact ⟨op, t, e, x, y, t', rfl, hu, rfl⟩
      · cases hc
    | call c =>
      simp only [ho, compOp] at hc
      split at hc
      · split at hc
        · split at hc <;> first | (cases hc; cases hm; done) | (cases hc; done)
        · cases hc
      · split at hc <;> first | (cases hc; cases hm; done) | (cases hc; done)
      · split at hc <;> first | (cases hc; cases hm; done) | (cases hc; done)
      · split at hc
        · simp only [Option.bind_eq_some_iff] at hc
          obtain ⟨_, _, _, _, _, _, hc⟩ := hc
          split at hc
          · split at hc <;> first | (cases hc; cases hm; done) | (cases hc; done)
          · cases hc
        · cases hc
      · split at hc <;> first | (cases hc; cases hm; done) | (cases hc; done)
      · cases hc; cases hm
      · cases hc
    | unOp u t x => cases u <;> simp only [ho, compOp, Option.some.injEq] at hc <;> first | (cases hc; done) | (subst hc; cases hm)
    | makeFunc f first caps =>
      cases f <;> simp only [ho, compOp] at hc <;> first | (cases hc; done) | (split at hc <;> first | (cases hc; cases hm) | cases hc)
    | _ =>
      simp only [ho, compOp] at hc
      first
        | (cases hc; done)
        | (simp only [Option.some.injEq] at hc; subst hc; cases hm; done)
        | (simp only [Option.map_eq_some_iff] at hc; obtain ⟨_, _, rfl⟩ := hc; cases hm; done)
        | (simp only [Option.bind_eq_some_iff, Option.map_eq_some_iff] at hc; obtain ⟨_, _, _, _, rfl⟩ := hc; cases hm; done)
        | (simp only [Option.bind_eq_some_iff] at hc; obtain ⟨_, _, hc⟩ := hc; split at hc <;> first | (cases hc; cases hm; done) | (cases hc; done))
        | (simp only [Option.bind_eq_some_iff] at hc; obtain ⟨_, _, _, _, hc⟩ := hc; split at hc <;> first | (cases hc; cases hm; done) | (cases hc; done))
        | (simp only [Option.bind_eq_some_iff] at hc; obtain ⟨_, _, _, _, _, _, hc⟩ := hc; split at hc <;> first | (cases hc; cases hm; done) | (cases hc; done))
        | (split at hc <;> first
            | (cases hc; cases hm; done)
            | (cases hc; done)
            | (simp only [Option.map_eq_some_iff] at hc; obtain ⟨_, _, rfl⟩ := hc; cases hm; done)
            | (simp only [Option.bind_eq_some_iff, Option.map_eq_some_iff] at hc; obtain ⟨_, _, _, _, _, _, rfl⟩ := hc; cases hm; done))
  obtain ⟨op, t, e, x, y, t', ho, hu, rfl⟩ := key
  obtain ⟨at_, FP, hh⟩ := hr
  have fin : ∀ p : Unit → Prop, nilP (ev tm x) = some p → ev tm y = .nil → Sat P Q As (nilT op p K) → Does P o a w (fun u w' => ∃ v, Sat P Q As (K v []) ∧ ∃ at_ FP, Here w0 N tm st' a w' at_ FP ∧ Loc ⟨w0, w', at_, st'⟩ v u) := by
    intro p hp hy h
    have h2 := hh.ev y
    rw [hy] at h2
    unfold nilT at h
    split at h
    · obtain ⟨r, hr, hrun⟩ := nbin_run ho (.inl rfl) hu hh (hh.ev x) hp h2.nil_inv
      obtain ⟨h3, h4⟩ := sat_may h
      refine .inl ⟨_, w, .inl hrun, ?_⟩
      simp only [if_true]
      cases r with
      | true => exact ⟨_, h3 (hr rfl), at_, FP, hh, .bo _⟩
      | false => exact ⟨_, h4, at_, FP, hh, .bo _⟩
    · obtain ⟨r, hr, hrun⟩ := nbin_run ho (.inr rfl) hu hh (hh.ev x) hp h2.nil_inv
      obtain ⟨h3, h4⟩ := sat_may h
      refine .inl ⟨_, w, .inl hrun, ?_⟩
      simp only [reduceCtorEq, if_false]
      cases r with
      | true => exact ⟨_, h3 (hr rfl), at_, FP, hh, .bo _⟩
      | false => exact ⟨_, h4, at_, FP, hh, .bo _⟩
    · exact (no_bad h).elim
  simp only [qop] at h
  split at h
  · rename_i hx hy
    have h1 := hh.ev x
    rw [hx] at h1
    have h2 := hh.ev y
    rw [hy] at h2
    split at h
    · exact .inl ⟨_, w, .inl (by simp [execOp, ho, h1.nil_inv, h2.nil_inv, eqGuard, binOp, equal_nil hu]), _, h, at_, FP, hh, .bo _⟩
    · exact .inl ⟨_, w, .inl (by simp [execOp, ho, h1.nil_inv, h2.nil_inv, eqGuard, binOp, equal_nil hu]), _, h, at_, FP, hh, .bo _⟩
    · exact (no_bad h).elim
  · rename_i hx hy
    exact fin _ (by rw [hx]; rfl) hy h
  · rename_i hx hy
    exact fin _ (by rw [hx]; rfl) hy h
  · rename_i hx hy
    exact fin _ (by rw [hx]; rfl) hy h
  · exact (no_bad h).elim
end
end Go.V

namespace Go.V
open Go Go.RowKit

/-! ### The code, in short -/
def compGd (ops : Array Oper) (N : Nat) : Option (Nat × Bool) → Option (Option (Nat × Bool))
  | none => some none
  | some (g, want) => match (ops[g]?).bind (·.dst) with
    | some d => if d < N then some (some (d, want)) else none
    | none => none
def compO (P : Program) (mu : Nat → Bool) (ops : Array Oper) (N : Nat) (o : Oper) (h : List Nat) : Option MOper :=
  (compOp P mu o.op).bind fun m => (compGd ops N o.guard).bind fun gd => match o.dst with
    | none => some ⟨none, m, gd, h⟩
    | some d => if d < N then some ⟨some d, m, gd, h⟩ else none
def compOps (P : Program) (mu : Nat → Bool) (ops : Array Oper) (N : Nat) : List Oper → List (List Nat) → Option (List MOper)
  | [], _ => some []
  | o :: r, hs => (compO P mu ops N o (hs.headD [])).bind fun m => (compOps P mu ops N r hs.tail).map fun l => m :: l

section
variable {P : Program} {Q : AV → Prop} {As : List (St → Prop)} {mu : Nat → Bool} {N nx : Nat} {ops : Array Oper} {w0 : Base} {w : World} {a : Act}

structure CompO (P : Program) (mu : Nat → Bool) (ops : Array Oper) (N : Nat) (o : Oper) (m : MOper) : Prop where
  op : compOp P mu o.op = some m.op
  dst : o.dst = m.dst
  lt : ∀ d, o.dst = some d → d < N
  gd : ∀ d want, m.gd = some (d, want) → ∃ g, o.guard = some (g, want) ∧ (ops[g]?).bind (·.dst) = some d ∧ d < N
  gd0 : m.gd = none → o.guard = none
theorem compO_spec {o : Oper} {h : List Nat} {m : MOper} (hc : compO P mu ops N o h = some m) : CompO P mu ops N o m := by
  unfold compO at hc
  simp only [Option.bind_eq_some_iff] at hc
  obtain ⟨mm, h1, gd, h2, hc⟩ := hc
  have hg : (∀ d want, gd = some (d, want) → ∃ g, o.guard = some (g, want) ∧ (ops[g]?).bind (·.dst) = some d ∧ d < N) ∧ (gd = none → o.guard = none) := by
    unfold compGd at h2
    split at h2
    · rename_i hg
      cases h2
      exact ⟨fun d want h => (by cases h), fun _ => hg⟩
    · rename_i g want hg
      split at h2
      · rename_i d hd
        split at h2
        · cases h2
          refine ⟨fun d' want' h => ?_, fun h => by cases h⟩
          cases h
          exact ⟨g, hg, hd, ‹_›⟩
        · cases h2
      · cases h2
  split at hc
  · rename_i hd
    cases hc
    exact ⟨h1, hd, fun d h => (by rw [hd] at h; cases h), hg.1, hg.2⟩
  · rename_i d hd
    split at hc
    · cases hc
      exact ⟨h1, hd, fun d' h => (by rw [hd] at h; cases h; assumption), hg.1, hg.2⟩
    · cases hc

/-- Whether an operation runs. -/
theorem guard_run {tm : List (Nat × AV)} {st : Nat → Option Blk} {at_ : Nat → Option (Nat × Nat)} {FP : Nat → List Nat} (hh : Here w0 N tm st a w at_ FP) {o : Oper} {m : MOper} (hc : CompO P mu ops N o m) {d : Nat} {want : Bool} (hg : m.gd = some (d, want)) :
    (∀ b, slot d tm = .bo b → Region.wanted o (yielded ops a.tmps) = (b == want)) ∧ (slot d tm = .undef → Region.wanted o (yielded ops a.tmps) = false) := by
  obtain ⟨g, h1, h2, h3⟩ := hc.gd d want hg
  have hl := hh.loc d
  have hd : a.tmps[d]? = some (a.tmps.getD d Go.undef) := by
    have : d < a.tmps.size := by rw [hh.size]; exact h3
    simp [Array.getD, this]
  refine ⟨fun b hb => ?_, fun hb => ?_⟩
  · rw [hb] at hl
    have := hl.bo_inv
    rw [this] at hd
    simp [Region.wanted, h1, yielded, h2, hd]
  · rw [hb] at hl
    have := hl.undef_inv
    rw [this] at hd
    simp [Region.wanted, h1, yielded, h2, hd, Go.undef]
theorem guard_none {o : Oper} {m : MOper} (hc : CompO P mu ops N o m) (hg : m.gd = none) (y : Nat → Option Bool) : Region.wanted o y = true := by
  simp [Region.wanted, hc.gd0 hg]

def hid (nx : Nat) (h : List Nat) (st : List (Nat × Blk)) : List (Nat × Blk) := match h with | [] => st | h => hidden nx h st

/-- Blocks of these numbers are hidden, the others are as they were. -/
theorem look_hidden {h : List Nat} {b : Nat} : ∀ {st : List (Nat × Blk)}, look b (hidden nx h st) = bif Nat.blt b nx then look b st else bif memN ((b - nx) / 16) h then none else look b st
  | [] => by
    cases h1 : Nat.blt b nx <;> cases h2 : memN ((b - nx) / 16) h <;> simp [hidden, look]
  | p :: r => by
    rw [hidden]
    cases h1 : Nat.blt p.1 nx with
    | true =>
      rw [cond_true, look, look_hidden (st := r)]
      cases e : Nat.beq p.1 b with
      | true =>
        have := Nat.eq_of_beq_eq_true e
        subst this
        rw [h1]
        simp [look, beq_self]
      | false => simp [look, e]
    | false =>
      rw [cond_false]
      cases h2 : memN ((p.1 - nx) / 16) h with
      | true =>
        rw [cond_true, look_hidden (st := r)]
        cases e : Nat.beq p.1 b with
        | true =>
          have := Nat.eq_of_beq_eq_true e
          subst this
          rw [h1, h2]
          simp
        | false => simp [look, e]
      | false =>
        rw [cond_false, look, look_hidden (st := r)]
        cases e : Nat.beq p.1 b with
        | true =>
          have := Nat.eq_of_beq_eq_true e
          subst this
          rw [h1, h2]
          simp [look, beq_self]
        | false => simp [look, e]
theorem hid_look {h : List Nat} {st : List (Nat × Blk)} {b : Nat} {k : Blk} (hk : look b (hid nx h st) = some k) : look b st = some k := by
  unfold hid at hk
  split at hk
  · exact hk
  · rw [look_hidden] at hk
    cases h1 : Nat.blt b nx with
    | true => rw [h1] at hk; exact hk
    | false =>
      rw [h1, cond_false] at hk
      cases h2 : memN ((b - nx) / 16) h with
      | true => rw [h2] at hk; cases hk
      | false => rw [h2] at hk; exact hk

/-- Where the call stands, and each of its blocks has a number below. -/
def RelS (w0 : Base) (N : Nat) (tm : List (Nat × AV)) (st : List (Nat × Blk)) (n : Nat) (a : Act) (w : World) : Prop :=
  Rel w0 N tm (fun b => look b st) a w ∧ ∀ b k, look b st = some k → b < n

theorem addAll_look {new st : List (Nat × Blk)} : addAll new (fun b => look b st) = fun b => look b (new ++ st) := by
  funext b
  rw [look_append]
  unfold addAll
  cases look b new <;> rfl
theorem look_none {l : List (Nat × Blk)} {b : Nat} (h : ∀ p ∈ l, p.1 ≠ b) : look b l = none := by
  cases e : look b l with
  | none => rfl
  | some k => exact absurd rfl (h _ (look_mem e))

theorem Here.putS {tm : List (Nat × AV)} {st : Nat → Option Blk} {at_ : Nat → Option (Nat × Nat)} {FP : Nat → List Nat} {s : St} {x : AV} {v : Value} {o : Option Nat} (hs : s.tm = tm) (h : Here w0 N tm st a w at_ FP) (hx : Loc ⟨w0, w, at_, st⟩ x v) (hd : ∀ d, o = some d → d < N) : Here w0 N (putS s o x) st (a.put o v) w at_ FP := by
  subst hs
  cases o with
  | none => exact h
  | some d => exact h.put hx (hd d rfl)

/-- A region's operations, in the order of the text. -/
theorem seq_ops {K : St → Tree} {R : Exit → Act → World → Prop} (n : Nat) (hK : ∀ s' a' w', Sat P Q As (K s') → s'.nx = n → RelS w0 N s'.tm s'.st (nx + 16 * ops.size) a' w' → R .normal a' w') :
    ∀ (l : List Oper) (ml : List MOper) (hs : List (List Nat)) (i : Nat), (∀ j, l[j]? = ops[i + j]?) → i + l.length = ops.size → compOps P mu ops N l hs = some ml →
      ∀ (s : St) (a : Act) (w : World), s.nx = n → Sat P Q As (opsT nx ml i K s) → RelS w0 N s.tm s.st (nx + 16 * i) a w → wpOps P ops R (List.range' i l.length) a w
  | [], ml, hs, i, _, hsz, hc, s, a, w, hn, h, hr => by
    simp only [compOps, Option.some.injEq] at hc
    subst hc
    have hsz' : i = ops.size := by simpa using hsz
    subst hsz'
    exact hK s a w h hn hr
  | o :: l, ml, hs, i, hl, hsz, hc, s, a, w, hn, h, hr => by
    simp only [compOps, Option.bind_eq_some_iff, Option.map_eq_some_iff] at hc
    obtain ⟨m, hm, ml', hml, rfl⟩ := hc
    have cs := compO_spec hm
    have ho : ops[i]? = some o := by have := hl 0; simpa using this.symm
    have next : ∀ (s' : St) (a' : Act) (w' : World), s'.nx = n → Sat P Q As (opsT nx ml' (i + 1) K s') → RelS w0 N s'.tm s'.st (nx + 16 * (i + 1)) a' w' → wpOps P ops R (List.range' (i + 1) l.length) a' w' :=
      seq_ops n hK l ml' hs.tail (i + 1) (fun j => by have := hl (j + 1); rw [show i + 1 + j = i + (j + 1) by omega]; simpa using this) (by simp at hsz; omega) hml
    obtain ⟨⟨at_, FP, hh⟩, hfr⟩ := hr
    have go : Sat P Q As (bif isMut m.op then mop m.op s (nx + 16 * i) (fun v s' => opsT nx ml' (i + 1) K { s' with tm := putS s' m.dst v })
        else qop m.op s.tm (hid nx m.hide s.st) (nx + 16 * i) (fun v new => opsT nx ml' (i + 1) K { s with tm := putS s m.dst v, st := new ++ s.st })) → o.wp P a w (wpOps P ops R (List.range' (i + 1) l.length)) R := by
      intro h
      cases hmu : isMut m.op with
      | true =>
        rw [hmu, cond_true] at h
        refine (comp_mut cs.op hmu h ⟨at_, FP, hh⟩ hfr).wp (fun u w' hu => ?_)
        obtain ⟨v, s', hsat, hnx, hfr', at1, FP1, hh1, hl1⟩ := hu
        refine next { s' with tm := putS s' m.dst v } _ _ (hnx.trans hn) hsat ⟨⟨at1, FP1, ?_⟩, fun b k hb => by have := hfr' b k hb; omega⟩
        rw [cs.dst]
        exact Here.putS rfl hh1 hl1 (fun d hd => cs.lt d (cs.dst.trans hd))
      | false =>
        rw [hmu, cond_false] at h
        cases hnb : isNbin m.op with
        | true =>
          refine (comp_nbin cs.op hnb h ⟨at_, FP, hh⟩).wp (fun u w' hu => ?_)
          obtain ⟨v, hsat, at1, FP1, hh1, hl1⟩ := hu
          refine next { s with tm := putS s m.dst v, st := [] ++ s.st } _ _ hn hsat ⟨⟨at1, FP1, ?_⟩, fun b k hb => by have := hfr b k hb; omega⟩
          rw [cs.dst]
          exact Here.putS rfl hh1 hl1 (fun d hd => cs.lt d (cs.dst.trans hd))
        | false =>
          obtain ⟨v, new, ⟨hid, hok⟩, hsat⟩ := comp_quiet cs.op hmu hnb h
          refine (hok w0 N s.tm (fun b => look b s.st) a w (fun _ _ => rfl) (fun b k hb => hid_look hb) (fun b h1 h2 => ?_) ⟨at_, FP, hh⟩).wp (fun u w' hu => ?_)
          · cases e : look b s.st with
            | none => rfl
            | some k => exact absurd (hfr b k e) (by omega)
          · obtain ⟨at1, FP1, hh1, hl1⟩ := hu
            rw [addAll_look] at hh1 hl1
            refine next { s with tm := putS s m.dst v, st := new ++ s.st } _ _ hn hsat ⟨⟨at1, FP1, ?_⟩, fun b k hb => ?_⟩
            · rw [cs.dst]
              exact Here.putS rfl hh1 hl1 (fun d hd => cs.lt d (cs.dst.trans hd))
            · have hb' : look b (new ++ s.st) = some k := hb
              rw [look_append] at hb'
              split at hb'
              · rename_i k' hk'
                have := (hid _ (look_mem hk')).2
                simp only at this
                omega
              · have := hfr b k hb'
                omega
    have skip : Sat P Q As (opsT nx ml' (i + 1) K { s with tm := putS s m.dst .undef }) → wpOps P ops R (List.range' (i + 1) l.length) (a.put o.dst undef) w := by
      intro h
      refine next { s with tm := putS s m.dst .undef } _ _ hn h ⟨⟨at_, FP, ?_⟩, fun b k hb => by have := hfr b k hb; omega⟩
      rw [cs.dst]
      exact Here.putS rfl hh .undef (fun d hd => cs.lt d (cs.dst.trans hd))
    rw [List.length_cons, List.range'_succ, wpOps_cons]
    unfold wpOp
    rw [ho]
    simp only
    unfold opsT at h
    simp only at h
    cases hg : m.gd with
    | none =>
      rw [hg] at h
      simp only at h
      rw [guard_none cs hg, if_pos rfl]
      exact .inl (go h)
    | some q =>
      obtain ⟨d, want⟩ := q
      rw [hg] at h
      simp only at h
      obtain ⟨g1, g2⟩ := guard_run hh cs hg
      split at h
      · rename_i b hb
        rw [g1 b hb]
        split at h
        · rename_i e1; exact .inl (go h)
        · exact .inl (go h)
        · rename_i n1 n2
          have : (b == want) = false := by
            cases b <;> cases want <;> first | rfl | (exact absurd rfl (n1 rfl)) | (exact absurd rfl (n2 rfl))
          rw [this]
          exact skip h
      · rename_i hb
        rw [g2 hb]
        exact skip h
      · exact (no_bad h).elim
end
end Go.V

namespace Go.V
open Go Go.RowKit

/-! ### Regions that draw their order -/
def addN (x : Nat) (l : List Nat) : List Nat := bif memN x l then l else x :: l
def unionN : List Nat → List Nat → List Nat
  | [], b => b
  | x :: a, b => addN x (unionN a b)
def rowOf (rows : List (List Nat)) : List Edge → List Nat
  | [] => []
  | e :: r => if Region.binds .any e then addN e.on (unionN ((rows[e.on]?).getD []) (rowOf rows r)) else rowOf rows r
def rowsOf : List Oper → List (List Nat) → List (List Nat)
  | [], rows => rows
  | o :: r, rows => rowsOf r (rows ++ [rowOf rows o.after.toList])
def wr (t : Nat) : List (Option Nat) → Nat → Option Nat
  | [], _ => none
  | some d :: r, i => bif Nat.beq d t then some i else wr t r (i + 1)
  | none :: r, i => wr t r (i + 1)
def rowAt (rows : List (List Nat)) (i : Nat) : List Nat := (rows[i]?).getD []
def seeOk (rows : List (List Nat)) (ds : List (Option Nat)) (i t : Nat) : Bool := match wr t ds 0 with
  | none => true
  | some j => Nat.beq j i || memN j (rowAt rows i) || memN i (rowAt rows j)
def tmpsOf : List Operand → List Nat
  | [] => []
  | .tmp t :: r => t :: tmpsOf r
  | _ :: r => tmpsOf r
def gdOf : Option (Nat × Bool) → List Nat
  | some (d, _) => [d]
  | none => []
/-- The operations that look at no block of the call's own. -/
def noStore : MOp → Bool
  | .mv .. | .pick .. | .not .. | .bin .. | .bbin .. | .aeq .. | .box .. | .alloc .. | .fld .. | .sidx .. | .len .. | .mx .. | .bld .. | .bsl .. | .mks .. | .conv .. | .ext .. | .mkf .. | .nck .. => true
  | _ => false
def ahead (rows : List (List Nat)) (hide : List Nat) (i : Nat) : Nat → Bool
  | 0 => true
  | j + 1 => (memN j (rowAt rows i) || memN j hide) && ahead rows hide i j
def drawOne (rows : List (List Nat)) (ds : List (Option Nat)) (i : Nat) (o : Oper) (m : MOper) : Bool :=
  !isMut m.op && !isNbin m.op && (tmpsOf o.op.operands.toList ++ gdOf m.gd).all (seeOk rows ds i) && (rowAt rows i).all (fun j => Nat.blt j i) && (noStore m.op || ahead rows m.hide i i) &&
    (match m.dst with | some d => (match wr d ds 0 with | some j => Nat.beq j i | none => false) | none => true) && o.after.toList.all (fun e => !Region.binds .any e || memN e.on (rowAt rows i))
def drawAll (rows : List (List Nat)) (ds : List (Option Nat)) : Nat → List Oper → List MOper → Bool
  | _, [], [] => true
  | i, o :: r, m :: q => drawOne rows ds i o m && drawAll rows ds (i + 1) r q
  | _, _, _ => false
def drawOk (ops : Array Oper) (ml : List MOper) : Bool := drawAll (rowsOf ops.toList []) (ml.map (·.dst)) 0 ops.toList ml

theorem memN_spec {n : Nat} : ∀ {l : List Nat}, memN n l = true ↔ n ∈ l
  | [] => by simp [memN]
  | m :: r => by
    rw [memN]
    cases h : Nat.beq m n with
    | true =>
      have := Nat.eq_of_beq_eq_true h
      simp [this]
    | false =>
      rw [cond_false, memN_spec]
      constructor
      · exact fun h => List.mem_cons_of_mem _ h
      · intro h'
        rcases List.mem_cons.1 h' with e | e
        · subst e; rw [Nat.beq_refl] at h; cases h
        · exact e

/-- j stands ahead of i. -/
inductive Pred (ops : Array Oper) : Nat → Nat → Prop
  | one {i : Nat} {o : Oper} {e : Edge} (ho : ops[i]? = some o) (he : e ∈ o.after) (hb : Region.binds .any e = true) : Pred ops i e.on
  | more {i k : Nat} {o : Oper} {e : Edge} (ho : ops[i]? = some o) (he : e ∈ o.after) (hb : Region.binds .any e = true) (h : Pred ops e.on k) : Pred ops i k

theorem mem_addN {x y : Nat} {l : List Nat} (h : y ∈ addN x l) : y = x ∨ y ∈ l := by
  unfold addN at h
  cases e : memN x l with
  | true => rw [e] at h; exact .inr h
  | false => rw [e] at h; exact List.mem_cons.1 h
theorem mem_unionN {y : Nat} : ∀ {a b : List Nat}, y ∈ unionN a b → y ∈ a ∨ y ∈ b
  | [], b, h => .inr h
  | x :: a, b, h => by
    rcases mem_addN h with e | e
    · exact .inl (e ▸ List.mem_cons_self ..)
    · rcases mem_unionN e with e | e
      · exact .inl (List.mem_cons_of_mem _ e)
      · exact .inr e
theorem rowOf_spec {ops : Array Oper} {rows : List (List Nat)} (hr : ∀ i r, rows[i]? = some r → ∀ j ∈ r, Pred ops i j) {i : Nat} {o : Oper} (ho : ops[i]? = some o) : ∀ (es : List Edge), (∀ e ∈ es, e ∈ o.after) → ∀ j ∈ rowOf rows es, Pred ops i j
  | [], _, j, hj => by cases hj
  | e :: r, hes, j, hj => by
    rw [rowOf] at hj
    split at hj
    · rename_i hb
      rcases mem_addN hj with rfl | hj
      · exact .one ho (hes e (List.mem_cons_self ..)) hb
      · rcases mem_unionN hj with hj | hj
        · cases hrow : rows[e.on]? with
          | none => rw [hrow] at hj; cases hj
          | some row => rw [hrow] at hj; exact .more ho (hes e (List.mem_cons_self ..)) hb (hr _ _ hrow j hj)
        · exact rowOf_spec hr ho r (fun e he => hes e (List.mem_cons_of_mem _ he)) j hj
    · exact rowOf_spec hr ho r (fun e he => hes e (List.mem_cons_of_mem _ he)) j hj
theorem rowsOf_spec {ops : Array Oper} : ∀ (l : List Oper) (rows : List (List Nat)), (∀ j, l[j]? = ops[rows.length + j]?) → (∀ i r, rows[i]? = some r → ∀ j ∈ r, Pred ops i j) → ∀ i r, (rowsOf l rows)[i]? = some r → ∀ j ∈ r, Pred ops i j
  | [], rows, _, h => h
  | o :: l, rows, hl, h => by
    have ho : ops[rows.length]? = some o := by have := hl 0; simpa using this.symm
    refine rowsOf_spec l _ (fun j => by have := hl (j + 1); rw [List.length_append, List.length_singleton, show rows.length + 1 + j = rows.length + (j + 1) by omega]; simpa using this) (fun i r hi => ?_)
    by_cases hlt : i < rows.length
    · rw [List.getElem?_append_left hlt] at hi
      exact h i r hi
    · rw [List.getElem?_append_right (by omega)] at hi
      have : i - rows.length = 0 := by
        have := lt_of_get hi
        simp at this
        omega
      have hii : i = rows.length := by omega
      subst hii
      rw [Nat.sub_self] at hi
      simp only [List.getElem?_cons_zero, Option.some.injEq] at hi
      subst hi
      exact rowOf_spec h ho _ (fun e he => by simpa using he)
theorem rowAt_spec {ops : Array Oper} {i j : Nat} (h : memN j (rowAt (rowsOf ops.toList []) i) = true) : Pred ops i j := by
  have h := memN_spec.1 h
  unfold rowAt at h
  cases hr : (rowsOf ops.toList [])[i]? with
  | none => rw [hr] at h; cases h
  | some r => rw [hr] at h; exact rowsOf_spec ops.toList [] (by simp) (fun i r hi => by simp at hi) i r hr j h

theorem drawAll_spec {rows : List (List Nat)} {ds : List (Option Nat)} : ∀ (i : Nat) (l : List Oper) (ml : List MOper), drawAll rows ds i l ml = true → ml.length = l.length ∧ ∀ j o m, l[j]? = some o → ml[j]? = some m → drawOne rows ds (i + j) o m = true
  | _, [], [], _ => ⟨rfl, fun j o m h => by simp at h⟩
  | _, [], _ :: _, h => by cases h
  | _, _ :: _, [], h => by cases h
  | i, o :: r, m :: q, h => by
    rw [drawAll, Bool.and_eq_true] at h
    obtain ⟨h1, h2⟩ := drawAll_spec (i + 1) r q h.2
    refine ⟨by simp [h1], fun j o' m' hj hm => ?_⟩
    cases j with
    | zero => simp at hj hm; subst hj hm; exact h.1
    | succ j =>
      have := h2 j o' m' (by simpa using hj) (by simpa using hm)
      rw [show i + (j + 1) = i + 1 + j by omega]
      exact this

theorem qop_noStore {m : MOp} (h : noStore m = true) (tm : List (Nat × AV)) (st : List (Nat × Blk)) (nid : Nat) (K : AV → List (Nat × Blk) → Tree) : qop m tm st nid K = qop m tm [] nid K := by
  cases m <;> first | rfl | (cases h; done)

theorem wr_none {t : Nat} : ∀ {l : List (Option Nat)} {k : Nat}, wr t l k = none → ∀ i : Nat, l[i]? ≠ some (some t)
  | [], k, h, i, c => by simp at c
  | some d :: r, k, h, i, c => by
    rw [wr] at h
    cases e : Nat.beq d t with
    | true => rw [e] at h; cases h
    | false =>
      rw [e] at h
      cases i with
      | zero => simp at c; subst c; rw [Nat.beq_refl] at e; cases e
      | succ i => exact wr_none h i (by simpa using c)
  | none :: r, k, h, i, c => by
    cases i with
    | zero => simp at c
    | succ i => exact wr_none (k := k + 1) h i (by simpa using c)
theorem wr_some {t : Nat} : ∀ {l : List (Option Nat)} {k j : Nat}, wr t l k = some j → k ≤ j ∧ l[j - k]? = some (some t)
  | [], k, j, h => by cases h
  | some d :: r, k, j, h => by
    rw [wr] at h
    cases e : Nat.beq d t with
    | true =>
      rw [e] at h
      cases h
      have := Nat.eq_of_beq_eq_true e
      subst this
      exact ⟨Nat.le_refl _, by simp⟩
    | false =>
      rw [e, cond_false] at h
      obtain ⟨h1, h2⟩ := wr_some h
      refine ⟨by omega, ?_⟩
      rw [show j - k = (j - (k + 1)) + 1 by omega]
      simpa using h2
  | none :: r, k, j, h => by
    obtain ⟨h1, h2⟩ := wr_some (l := r) (k := k + 1) h
    refine ⟨by omega, ?_⟩
    rw [show j - k = (j - (k + 1)) + 1 by omega]
    simpa using h2

section
variable {P : Program} {Q : AV → Prop} {As : List (St → Prop)} {mu : Nat → Bool} {N nx : Nat} {ops : Array Oper} {w0 : Base}

def used (nx : Nat) (m : MOper) (st : List (Nat × Blk)) : List (Nat × Blk) := bif noStore m.op then [] else hid nx m.hide st

/-- One operation, as the text has it. -/
def DStep (P : Program) (nx i : Nat) (o : Oper) (m : MOper) (tm : List (Nat × AV)) (st : List (Nat × Blk)) (v : AV) (new : List (Nat × Blk)) : Prop :=
  (((m.gd = none) ∨ ∃ d want, m.gd = some (d, want) ∧ slot d tm = .bo want) ∧ QOK P o tm (used nx m st) (nx + 16 * i) v new) ∨
  (∃ d want, m.gd = some (d, want) ∧ ((∃ b, slot d tm = .bo b ∧ (b == want) = false) ∨ slot d tm = .undef) ∧ v = .undef ∧ new = [])

def putT (d : Option Nat) (v : AV) (tm : List (Nat × AV)) : List (Nat × AV) := match d with | some d => (d, v) :: tm | none => tm
/-- The text's run. -/
inductive DRun (P : Program) (nx : Nat) : Nat → List Oper → List MOper → List (Nat × AV) → List (Nat × Blk) → List (AV × List (Nat × Blk)) → List (Nat × AV) → List (Nat × Blk) → Prop
  | nil {i : Nat} {tm : List (Nat × AV)} {st : List (Nat × Blk)} : DRun P nx i [] [] tm st [] tm st
  | cons {i : Nat} {o : Oper} {m : MOper} {l : List Oper} {ml : List MOper} {tm tm' : List (Nat × AV)} {st st' : List (Nat × Blk)} {v : AV} {new : List (Nat × Blk)} {vs : List (AV × List (Nat × Blk))}
      (h : DStep P nx i o m tm st v new) (hr : DRun P nx (i + 1) l ml (putT m.dst v tm) (new ++ st) vs tm' st') : DRun P nx i (o :: l) (m :: ml) tm st ((v, new) :: vs) tm' st'

theorem drun_of {K : St → Tree} : ∀ (l : List Oper) (ml : List MOper) (hs : List (List Nat)) (i : Nat), compOps P mu ops N l hs = some ml → (∀ m ∈ ml, isMut m.op = false ∧ isNbin m.op = false) →
    ∀ s, Sat P Q As (opsT nx ml i K s) → ∃ vs tm' st', DRun P nx i l ml s.tm s.st vs tm' st' ∧ Sat P Q As (K { tm := tm', st := st', nx := s.nx })
  | [], ml, hs, i, hc, _, s, h => by
    simp only [compOps, Option.some.injEq] at hc
    subst hc
    exact ⟨[], s.tm, s.st, .nil, h⟩
  | o :: l, ml, hs, i, hc, hq, s, h => by
    simp only [compOps, Option.bind_eq_some_iff, Option.map_eq_some_iff] at hc
    obtain ⟨m, hm, ml', hml, rfl⟩ := hc
    have cs := compO_spec hm
    obtain ⟨q1, q2⟩ := hq m (List.mem_cons_self ..)
    have go : (m.gd = none ∨ ∃ d want, m.gd = some (d, want) ∧ slot d s.tm = .bo want) → Sat P Q As (bif isMut m.op then mop m.op s (nx + 16 * i) (fun v s' => opsT nx ml' (i + 1) K { s' with tm := putS s' m.dst v })
        else qop m.op s.tm (hid nx m.hide s.st) (nx + 16 * i) (fun v new => opsT nx ml' (i + 1) K { s with tm := putS s m.dst v, st := new ++ s.st })) →
        ∃ vs tm' st', DRun P nx i (o :: l) (m :: ml') s.tm s.st vs tm' st' ∧ Sat P Q As (K { tm := tm', st := st', nx := s.nx }) := by
      intro hg h
      rw [q1, cond_false] at h
      have h' : Sat P Q As (qop m.op s.tm (used nx m s.st) (nx + 16 * i) (fun v new => opsT nx ml' (i + 1) K { s with tm := putS s m.dst v, st := new ++ s.st })) := by
        unfold used
        cases e : noStore m.op with
        | true => rw [cond_true, ← qop_noStore e]; exact h
        | false => exact h
      obtain ⟨v, new, hok, hsat⟩ := comp_quiet cs.op q1 q2 h'
      obtain ⟨vs, tm', st', hr, hs⟩ := drun_of l ml' hs.tail (i + 1) hml (fun m hm => hq m (List.mem_cons_of_mem _ hm)) _ hsat
      exact ⟨(v, new) :: vs, tm', st', .cons (.inl ⟨hg, hok⟩) hr, hs⟩
    have skip : (∃ d want, m.gd = some (d, want) ∧ ((∃ b, slot d s.tm = .bo b ∧ (b == want) = false) ∨ slot d s.tm = .undef)) → Sat P Q As (opsT nx ml' (i + 1) K { s with tm := putS s m.dst .undef }) →
        ∃ vs tm' st', DRun P nx i (o :: l) (m :: ml') s.tm s.st vs tm' st' ∧ Sat P Q As (K { tm := tm', st := st', nx := s.nx }) := by
      intro hg h
      obtain ⟨vs, tm', st', hr, hs⟩ := drun_of l ml' hs.tail (i + 1) hml (fun m hm => hq m (List.mem_cons_of_mem _ hm)) _ h
      obtain ⟨d, want, h1, h2⟩ := hg
      exact ⟨(.undef, []) :: vs, tm', st', .cons (.inr ⟨d, want, h1, h2, rfl, rfl⟩) hr, hs⟩
    unfold opsT at h
    simp only at h
    cases hg : m.gd with
    | none => rw [hg] at h; exact go (.inl hg) h
    | some q =>
      obtain ⟨d, want⟩ := q
      rw [hg] at h
      simp only at h
      split at h
      · rename_i b hb
        split at h
        · exact go (.inr ⟨d, true, hg, hb⟩) h
        · exact go (.inr ⟨d, false, hg, hb⟩) h
        · rename_i n1 n2
          have : (b == want) = false := by
            cases b <;> cases want <;> first | rfl | (exact absurd rfl (n1 rfl)) | (exact absurd rfl (n2 rfl))
          exact skip ⟨d, want, hg, .inl ⟨b, hb, this⟩⟩ h
      · rename_i hb
        exact skip ⟨d, want, hg, .inr hb⟩ h
      · exact (no_bad h).elim

/-- What the temps, the blocks are behind the operations of L. -/
def TL (ds : List (Option Nat)) (vs : List (AV × List (Nat × Blk))) (tm0 : List (Nat × AV)) (L : Nat → Bool) (t : Nat) : AV := match wr t ds 0 with
  | some j => bif L j then ((vs[j]?).map (·.1)).getD .any else slot t tm0
  | none => slot t tm0
def SL (nx : Nat) (vs : List (AV × List (Nat × Blk))) (st0 : List (Nat × Blk)) (L : Nat → Bool) (b : Nat) : Option Blk :=
  if b < nx then look b st0 else bif L ((b - nx) / 16) then look b (((vs[(b - nx) / 16]?).map (·.2)).getD []) else none

theorem TL_step {ds : List (Option Nat)} {vs : List (AV × List (Nat × Blk))} {tm0 tm : List (Nat × AV)} {L L' : Nat → Bool} {i : Nat} {dst : Option Nat} {v : AV} {new : List (Nat × Blk)} (h : ∀ t, slot t tm = TL ds vs tm0 L t) (hL : ∀ j, L' j = (L j || Nat.beq j i))
    (hd : ds[i]? = some dst) (hu : ∀ d, dst = some d → wr d ds 0 = some i) (hv : vs[i]? = some (v, new)) (t : Nat) : slot t (putT dst v tm) = TL ds vs tm0 L' t := by
  have other : wr t ds 0 ≠ some i → TL ds vs tm0 L' t = TL ds vs tm0 L t := fun hne => by
    unfold TL
    cases hw : wr t ds 0 with
    | none => rfl
    | some j =>
      have : Nat.beq j i = false := by
        cases e : Nat.beq j i with
        | false => rfl
        | true => exact absurd (by rw [hw, Nat.eq_of_beq_eq_true e]) hne
      simp only [hL, this, Bool.or_false]
  cases dst with
  | none =>
    rw [other (fun hw => by have := (wr_some hw).2; rw [Nat.sub_zero, hd] at this; cases this)]
    exact h t
  | some d =>
    show (bif Nat.beq d t then v else slot t tm) = _
    cases e : Nat.beq d t with
    | true =>
      have := Nat.eq_of_beq_eq_true e
      subst this
      unfold TL
      rw [hu d rfl]
      simp [hL, beq_self, hv]
    | false =>
      rw [other (fun hw => by
        have := (wr_some hw).2
        rw [Nat.sub_zero, hd] at this
        cases this
        rw [Nat.beq_refl] at e
        cases e)]
      exact h t
theorem SL_step {vs : List (AV × List (Nat × Blk))} {st0 : List (Nat × Blk)} {st : Nat → Option Blk} {L L' : Nat → Bool} {i : Nat} {v : AV} {new : List (Nat × Blk)} (h : ∀ b, st b = SL nx vs st0 L b) (hL : ∀ j, L' j = (L j || Nat.beq j i)) (hi : L i = false)
    (hv : vs[i]? = some (v, new)) (hn : ∀ p ∈ new, nx + 16 * i ≤ p.1 ∧ p.1 < nx + 16 * i + 16) (b : Nat) : addAll new st b = SL nx vs st0 L' b := by
  unfold addAll SL
  by_cases hb : b < nx
  · have e : look b new = none := look_none (fun p hp e => by have := hn p hp; omega)
    rw [e, if_pos hb]
    have := h b
    unfold SL at this
    rw [if_pos hb] at this
    exact this
  · rw [if_neg hb]
    have hb2 := h b
    unfold SL at hb2
    rw [if_neg hb] at hb2
    by_cases hq : (b - nx) / 16 = i
    · rw [hq, hL, Nat.beq_refl, Bool.or_true, cond_true, hv]
      rw [hq, hi] at hb2
      simp only [Option.map_some, Option.getD_some]
      cases e : look b new with
      | some k => rfl
      | none => simpa using hb2
    · have e : look b new = none := look_none (fun p hp e => by have := hn p hp; omega)
      have e2 : Nat.beq ((b - nx) / 16) i = false := by
        cases e : Nat.beq ((b - nx) / 16) i with
        | false => rfl
        | true => exact absurd (Nat.eq_of_beq_eq_true e) hq
      rw [e, hL, e2, Bool.or_false]
      exact hb2
theorem DStep.ids {i : Nat} {o : Oper} {m : MOper} {tm : List (Nat × AV)} {st new : List (Nat × Blk)} {v : AV} (h : DStep P nx i o m tm st v new) : ∀ p ∈ new, nx + 16 * i ≤ p.1 ∧ p.1 < nx + 16 * i + 16 := by
  rcases h with ⟨_, h⟩ | ⟨_, _, _, _, _, rfl⟩
  · exact h.1
  · intro p hp; cases hp

theorem drun_facts {ds : List (Option Nat)} {VS : List (AV × List (Nat × Blk))} {tm0 : List (Nat × AV)} {st0 : List (Nat × Blk)} (hu : ∀ i d, ds[i]? = some (some d) → wr d ds 0 = some i) :
    ∀ {i : Nat} {l : List Oper} {ml : List MOper} {tm tm' : List (Nat × AV)} {st st' : List (Nat × Blk)} {vs : List (AV × List (Nat × Blk))}, DRun P nx i l ml tm st vs tm' st' → (∀ j : Nat, (ml[j]?).map (·.dst) = ds[i + j]?) → (∀ j : Nat, vs[j]? = VS[i + j]?) →
      (∀ t, slot t tm = TL ds VS tm0 (fun q => Nat.blt q i) t) → (∀ b, look b st = SL nx VS st0 (fun q => Nat.blt q i) b) →
      vs.length = l.length ∧ (∀ (j : Nat) (o : Oper) (m : MOper), l[j]? = some o → ml[j]? = some m → ∃ tmj stj v new, vs[j]? = some (v, new) ∧ DStep P nx (i + j) o m tmj stj v new ∧ (∀ t, slot t tmj = TL ds VS tm0 (fun q => Nat.blt q (i + j)) t) ∧ (∀ b, look b stj = SL nx VS st0 (fun q => Nat.blt q (i + j)) b)) ∧
      (∀ t, slot t tm' = TL ds VS tm0 (fun q => Nat.blt q (i + l.length)) t) ∧ (∀ b, look b st' = SL nx VS st0 (fun q => Nat.blt q (i + l.length)) b) := by
  intro i l ml tm tm' st st' vs h
  induction h with
  | nil => exact fun _ _ h1 h2 => ⟨rfl, fun j o m hj => by simp at hj, h1, h2⟩
  | @cons i o m l ml tm tm' st st' v new vs h hr ih =>
    intro hds hvs h1 h2
    have hvi : VS[i]? = some (v, new) := by have := hvs 0; simpa using this.symm
    have hdi : ds[i]? = some m.dst := by have := hds 0; simpa using this.symm
    have hL : ∀ j, Nat.blt j (i + 1) = (Nat.blt j i || Nat.beq j i) := fun j => by
      rw [Bool.eq_iff_iff, Bool.or_eq_true, Nat.blt_eq, Nat.blt_eq, Nat.beq_eq]
      omega
    have hi0 : Nat.blt i i = false := by
      cases e : Nat.blt i i with
      | false => rfl
      | true => rw [Nat.blt_eq] at e; omega
    have g1 := TL_step (v := v) (new := new) h1 hL hdi (fun d hd => hu i d (by rw [hdi, hd])) hvi
    have g2 := SL_step (nx := nx) (st := fun b => look b st) h2 hL hi0 hvi h.ids
    obtain ⟨r0, r1, r2, r3⟩ := ih (fun j => by have := hds (j + 1); rw [show i + 1 + j = i + (j + 1) by omega]; simpa using this) (fun j => by have := hvs (j + 1); rw [show i + 1 + j = i + (j + 1) by omega]; simpa using this) g1
      (fun b => by have := g2 b; rw [addAll_look] at this; exact this)
    refine ⟨by simp [r0], fun j o' m' hj hm => ?_, ?_, ?_⟩
    · cases j with
      | zero =>
        simp at hj hm
        subst hj hm
        exact ⟨tm, st, v, new, rfl, h, h1, h2⟩
      | succ j =>
        obtain ⟨tmj, stj, v', new', e1, e2, e3, e4⟩ := r1 j o' m' (by simpa using hj) (by simpa using hm)
        rw [show i + 1 + j = i + (j + 1) by omega] at e2 e3 e4
        exact ⟨tmj, stj, v', new', by simpa using e1, e2, e3, e4⟩
    · rw [List.length_cons, show i + (l.length + 1) = i + 1 + l.length by omega]; exact r2
    · rw [List.length_cons, show i + (l.length + 1) = i + 1 + l.length by omega]; exact r3

theorem TL_congr {ds : List (Option Nat)} {vs : List (AV × List (Nat × Blk))} {tm0 : List (Nat × AV)} {L L' : Nat → Bool} {t : Nat} (h : ∀ j, wr t ds 0 = some j → L j = L' j) : TL ds vs tm0 L t = TL ds vs tm0 L' t := by
  unfold TL
  cases hw : wr t ds 0 with
  | none => rfl
  | some j => simp only [h j hw]

theorem unl_lt {p q : Nat → Bool} {i : Nat} (hpq : ∀ j, q j = true → p j = true) (hi : p i = true) (hi' : q i = false) : ∀ {l : List Nat}, i ∈ l → (l.filter q).length < (l.filter p).length
  | [], h => by cases h
  | x :: l, h => by
    have le : ∀ l : List Nat, (l.filter q).length ≤ (l.filter p).length := by
      intro l
      induction l with
      | nil => exact Nat.le_refl _
      | cons y l ih =>
        rw [List.filter_cons, List.filter_cons]
        cases hq : q y with
        | true => rw [hpq y hq]; simpa using ih
        | false => cases p y <;> simp <;> omega
    rw [List.filter_cons, List.filter_cons]
    rcases List.mem_cons.1 h with e | e
    · subst e
      rw [hi, hi']
      have := le l
      simp
      omega
    · have ih := unl_lt hpq hi hi' e
      cases hq : q x with
      | true => rw [hpq x hq]; simpa using ih
      | false => cases p x <;> simp <;> omega
end
end Go.V

namespace Go.V
open Go Go.RowKit
section
variable {P : Program} {Q : AV → Prop} {As : List (St → Prop)} {mu : Nat → Bool} {N nx : Nat} {ops : Array Oper} {w0 : Base}

theorem blt_iff {a b : Nat} : Nat.blt a b = true ↔ a < b := by rw [Nat.blt_eq]
structure DOne (rows : List (List Nat)) (ds : List (Option Nat)) (i : Nat) (o : Oper) (m : MOper) : Prop where
  quiet : isMut m.op = false ∧ isNbin m.op = false
  see : ∀ t, (t ∈ tmpsOf o.op.operands.toList ∨ t ∈ gdOf m.gd) → seeOk rows ds i t = true
  lt : ∀ j, memN j (rowAt rows i) = true → j < i
  blocks : noStore m.op = true ∨ ahead rows m.hide i i = true
  dst : ∀ d, m.dst = some d → wr d ds 0 = some i
  edges : ∀ e ∈ o.after, Region.binds .any e = true → memN e.on (rowAt rows i) = true
theorem drawOne_spec {rows : List (List Nat)} {ds : List (Option Nat)} {i : Nat} {o : Oper} {m : MOper} (h : drawOne rows ds i o m = true) : DOne rows ds i o m := by
  unfold drawOne at h
  simp only [Bool.and_eq_true, Bool.not_eq_true', Bool.or_eq_true, List.all_eq_true, List.mem_append] at h
  obtain ⟨⟨⟨⟨⟨⟨h1, h2⟩, h3⟩, h4⟩, h5⟩, h6⟩, h7⟩ := h
  refine ⟨⟨h1, h2⟩, h3, fun j hj => ?_, h5, fun d hd => ?_, fun e he hb => ?_⟩
  · have := h4 j (memN_spec.1 hj)
    rwa [Nat.blt_eq] at this
  · rw [hd] at h6
    simp only at h6
    cases hw : wr d ds 0 with
    | none => rw [hw] at h6; cases h6
    | some j => rw [hw] at h6; rw [Nat.eq_of_beq_eq_true h6]
  · rcases h7 e (by simpa using he) with h | h
    · rw [hb] at h; cases h
    · exact h
theorem ahead_spec {rows : List (List Nat)} {hide : List Nat} {i : Nat} : ∀ {k : Nat}, ahead rows hide i k = true → ∀ j, j < k → memN j (rowAt rows i) = true ∨ memN j hide = true
  | 0, _, j, hj => by omega
  | k + 1, h, j, hj => by
    rw [ahead, Bool.and_eq_true, Bool.or_eq_true] at h
    by_cases e : j = k
    · subst e; exact h.1
    · exact ahead_spec h.2 j (by omega)
theorem mem_tmpsOf {t : Nat} : ∀ {l : List Operand}, Operand.tmp t ∈ l → t ∈ tmpsOf l
  | x :: r, h => by
    rcases List.mem_cons.1 h with e | e
    · subst e; exact List.mem_cons_self ..
    · have := mem_tmpsOf e
      cases x <;> simp [tmpsOf, this]

/-- Listed, and all that stands ahead of it. -/
def Closed (ops : Array Oper) (L : Nat → Bool) : Prop := ∀ i o e, L i = true → ops[i]? = some o → e ∈ o.after → Region.binds .any e = true → L e.on = true
theorem Closed.pred {L : Nat → Bool} (h : Closed ops L) {i j : Nat} (hp : Pred ops i j) : L i = true → L j = true := by
  induction hp with
  | one ho he hb => exact fun hi => h _ _ _ hi ho he hb
  | more ho he hb _ ih => exact fun hi => ih (h _ _ _ hi ho he hb)

theorem getD_setB (listed : Array Bool) (i j : Nat) (hi : i < listed.size) : (listed.setIfInBounds i true).getD j false = (listed.getD j false || Nat.beq j i) := by
  rw [Array.getD_eq_getD_getElem?, Array.getD_eq_getD_getElem?, Array.getElem?_setIfInBounds]
  by_cases h : i = j
  · subst h
    simp [hi, Nat.beq_refl]
  · have : Nat.beq j i = false := by
      cases e : Nat.beq j i with
      | false => rfl
      | true => exact absurd (Nat.eq_of_beq_eq_true e).symm h
    rw [if_neg h, this]
    simp

theorem any_ops {K : St → Tree} {R : Exit → Act → World → Prop} {ml : List MOper} {hs : List (List Nat)} {s : St} (hc : compOps P mu ops N ops.toList hs = some ml) (hd : drawOk ops ml = true) (hnx : ∀ b k, look b s.st = some k → b < nx)
    (hK : ∀ s' a' w', Sat P Q As (K s') → s'.nx = s.nx → RelS w0 N s'.tm s'.st (nx + 16 * ops.size) a' w' → R .normal a' w')
    (h : Sat P Q As (opsT nx ml 0 K s)) : ∀ (a : Act) (w : World), RelS w0 N s.tm s.st nx a w → wpAny P .any ops R ops.size (Array.replicate ops.size false) a w := by
  have hall := drawAll_spec 0 ops.toList ml hd
  obtain ⟨hlen, hone⟩ := hall
  have hlen' : ml.length = ops.size := by simpa using hlen
  have one : ∀ i o m, ops[i]? = some o → ml[i]? = some m → DOne (rowsOf ops.toList []) (ml.map (·.dst)) i o m := fun i o m ho hm => by
    have := hone i o m (by simpa using ho) hm
    rw [Nat.zero_add] at this
    exact drawOne_spec this
  have mlAt : ∀ i o, ops[i]? = some o → ∃ m, ml[i]? = some m := fun i o ho => by
    have := (Array.getElem?_eq_some_iff.1 ho).1
    exact ⟨ml[i]'(by omega), List.getElem?_eq_getElem _⟩
  have opsAt : ∀ i m, ml[i]? = some m → ∃ o, ops[i]? = some o := fun i m hm => by
    have := lt_of_get hm
    exact ⟨ops[i]'(by omega), Array.getElem?_eq_getElem _⟩
  obtain ⟨vs, tme, ste, hrun, hsat⟩ := drun_of ops.toList ml hs 0 hc (fun m hm => by
    obtain ⟨i, hi⟩ := List.getElem?_of_mem hm
    obtain ⟨o, ho⟩ := opsAt i m hi
    exact (one i o m ho hi).quiet) s h
  have hu : ∀ i d, (ml.map (·.dst))[i]? = some (some d) → wr d (ml.map (·.dst)) 0 = some i := fun i d hi => by
    rw [List.getElem?_map, Option.map_eq_some_iff] at hi
    obtain ⟨m, hm, hmd⟩ := hi
    obtain ⟨o, ho⟩ := opsAt i m hm
    exact (one i o m ho hm).dst d hmd
  have z1 : ∀ t, TL (ml.map (·.dst)) vs s.tm (fun q => Nat.blt q 0) t = slot t s.tm := fun t => by
    unfold TL
    cases wr t (ml.map (·.dst)) 0 with
    | none => rfl
    | some j =>
      have : Nat.blt j 0 = false := by
        cases e : Nat.blt j 0 with
        | false => rfl
        | true => rw [Nat.blt_eq] at e; omega
      simp only [this, cond_false]
  have z2 : ∀ (L : Nat → Bool), (∀ j, L j = false) → ∀ b, SL nx vs s.st L b = look b s.st := fun L hL b => by
    unfold SL
    by_cases hb : b < nx
    · rw [if_pos hb]
    · rw [if_neg hb, hL]
      cases e : look b s.st with
      | none => rfl
      | some k => exact absurd (hnx b k e) hb
  have z1' : ∀ (L : Nat → Bool), (∀ j, L j = false) → ∀ t, TL (ml.map (·.dst)) vs s.tm L t = slot t s.tm := fun L hL t => by
    unfold TL
    cases wr t (ml.map (·.dst)) 0 with
    | none => rfl
    | some j => simp only [hL, cond_false]
  have b0 : ∀ j, Nat.blt j 0 = false := fun j => by
    cases e : Nat.blt j 0 with
    | false => rfl
    | true => rw [Nat.blt_eq] at e; omega
  obtain ⟨hvl, hfacts, hend1, hend2⟩ := drun_facts (nx := nx) (ds := ml.map (·.dst)) (VS := vs) (tm0 := s.tm) (st0 := s.st) hu hrun (fun j => by simp) (fun j => by rw [Nat.zero_add]) (fun t => (z1 t).symm) (fun b => (z2 _ b0 b).symm)
  simp only [Nat.zero_add, Array.length_toList] at hfacts hend1 hend2 hvl
  -- the end
  have fin : ∀ (L : Nat → Bool) (a : Act) (w : World), (∀ j, j < ops.size → L j = true) → (∃ tm' st', Rel w0 N tm' st' a w ∧ (∀ t, slot t tm' = TL (ml.map (·.dst)) vs s.tm L t) ∧ (∀ b, st' b = SL nx vs s.st L b)) → R .normal a w := by
    intro L a w hL ⟨tm', st', ⟨at_, FP, hh⟩, h1, h2⟩
    refine hK _ a w hsat rfl ⟨⟨at_, FP, hh.congr (fun t => ?_) (fun b => ?_)⟩, fun b k hb => ?_⟩
    · rw [h1, hend1]
      refine TL_congr (fun j hj => ?_)
      have := lt_of_get (wr_some hj).2
      simp at this
      have hj' : j < ops.size := by omega
      rw [hL j hj']
      exact (blt_iff.2 hj').symm
    · rw [h2, hend2]
      unfold SL
      by_cases hb : b < nx
      · rw [if_pos hb, if_pos hb]
      · rw [if_neg hb, if_neg hb]
        by_cases hq : (b - nx) / 16 < ops.size
        · rw [hL _ hq]
          dsimp only
          rw [blt_iff.2 hq]
        · have e : vs[(b - nx) / 16]? = none := by
            rw [List.getElem?_eq_none_iff]
            omega
          rw [e]
          simp [look]
    · have hb' := hend2 b
      rw [show look b ste = some k from hb] at hb'
      unfold SL at hb'
      by_cases hbx : b < nx
      · omega
      · rw [if_neg hbx] at hb'
        cases e : Nat.blt ((b - nx) / 16) ops.size with
        | true => rw [Nat.blt_eq] at e; omega
        | false => dsimp only at hb'; rw [e] at hb'; simp at hb'
  -- the way
  have way : ∀ (fuel : Nat) (listed : Array Bool) (a : Act) (w : World), listed.size = ops.size → Closed ops (fun j => listed.getD j false) → ((List.range ops.size).filter (fun j => !(listed.getD j false))).length ≤ fuel →
      (∃ tm' st', Rel w0 N tm' st' a w ∧ (∀ t, slot t tm' = TL (ml.map (·.dst)) vs s.tm (fun j => listed.getD j false) t) ∧ (∀ b, st' b = SL nx vs s.st (fun j => listed.getD j false) b)) → wpAny P .any ops R fuel listed a w := by
    have unl : ∀ (listed : Array Bool) (j : Nat), listed.size = ops.size → j < ops.size → listed.getD j true = listed.getD j false := fun listed j h1 h2 => by
      rw [Array.getD_eq_getD_getElem?, Array.getD_eq_getD_getElem?, Array.getElem?_eq_getElem (by omega)]
      rfl
    have done : ∀ (listed : Array Bool), listed.size = ops.size → Region.ready .any ops listed = [] → ∀ j, j < ops.size → listed.getD j false = true := by
      intro listed hsz hr j
      induction j using Nat.strongRecOn with
      | _ j ih =>
        intro hj
        have ho : ops[j]? = some ops[j] := Array.getElem?_eq_getElem hj
        obtain ⟨m, hm⟩ := mlAt j _ ho
        cases e : listed.getD j false with
        | true => rfl
        | false =>
          have : j ∈ Region.ready .any ops listed := mem_ready.2 ⟨by rw [unl listed j hsz hj]; exact e, _, ho, fun e he hb => by
            have hlt := (one j _ m ho hm).lt e.on ((one j _ m ho hm).edges e he hb)
            exact ih e.on hlt (by omega)⟩
          rw [hr] at this
          cases this
    intro fuel
    induction fuel with
    | zero =>
      intro listed a w hsz hcl hf hst
      have hL : ∀ j, j < ops.size → listed.getD j false = true := fun j hj => by
        cases e : listed.getD j false with
        | true => rfl
        | false =>
          have : j ∈ (List.range ops.size).filter (fun j => !(listed.getD j false)) := List.mem_filter.2 ⟨List.mem_range.2 hj, by rw [e]; rfl⟩
          have := List.length_pos_of_mem this
          omega
      refine ⟨?_, fin _ a w hL hst⟩
      cases hr : Region.ready .any ops listed with
      | nil => rfl
      | cons i r =>
        have hi : i ∈ Region.ready .any ops listed := by rw [hr]; exact List.mem_cons_self ..
        obtain ⟨h1, o, ho, _⟩ := mem_ready.1 hi
        have hlt := (Array.getElem?_eq_some_iff.1 ho).1
        rw [unl listed i hsz hlt, hL i hlt] at h1
        cases h1
    | succ fuel ih =>
      intro listed a w hsz hcl hf hst
      refine ⟨fun hr => fin _ a w (done listed hsz hr) hst, fun i hi => ?_⟩
      obtain ⟨hun, o, ho, hpre⟩ := mem_ready.1 hi
      have hlt := (Array.getElem?_eq_some_iff.1 ho).1
      rw [unl listed i hsz hlt] at hun
      obtain ⟨m, hm⟩ := mlAt i o ho
      have d1 := one i o m ho hm
      obtain ⟨tmj, stj, v, new, hv, hstep, f1, f2⟩ := hfacts i o m (by simpa using ho) hm
      obtain ⟨tm', st', ⟨at_, FP, hh⟩, h1, h2⟩ := hst
      have pre : ∀ j, Pred ops i j → listed.getD j false = true := fun j hp => by
        cases hp with
        | one ho' he hb =>
          rw [ho] at ho'
          cases ho'
          exact hpre _ he hb
        | more ho' he hb hp =>
          rw [ho] at ho'
          cases ho'
          exact hcl.pred hp (hpre _ he hb)
      have post : ∀ j, Pred ops j i → listed.getD j false = false := fun j hp => by
        cases e : listed.getD j false with
        | false => rfl
        | true =>
          have := hcl.pred hp e
          rw [hun] at this
          cases this
      have same : ∀ t, (t ∈ tmpsOf o.op.operands.toList ∨ t ∈ gdOf m.gd) → slot t tm' = slot t tmj := fun t ht => by
        rw [h1, f1]
        refine TL_congr (fun j hj => ?_)
        have hs := d1.see t ht
        unfold seeOk at hs
        rw [hj] at hs
        simp only [Bool.or_eq_true] at hs
        rcases hs with (e | e) | e
        · have := Nat.eq_of_beq_eq_true e
          subst this
          show listed.getD j false = Nat.blt j j
          rw [hun]
          cases e2 : Nat.blt j j with
          | false => rfl
          | true => rw [Nat.blt_eq] at e2; omega
        · show listed.getD j false = Nat.blt j i
          rw [pre j (rowAt_spec e), blt_iff.2 (d1.lt j e)]
        · show listed.getD j false = Nat.blt j i
          rw [post j (rowAt_spec e)]
          have hjm : j < ops.size := by
            have := lt_of_get (wr_some hj).2
            simp at this
            omega
          have hoj : ops[j]? = some ops[j] := Array.getElem?_eq_getElem hjm
          obtain ⟨mj, hmj⟩ := mlAt j _ hoj
          have := (one j _ mj hoj hmj).lt i e
          cases e2 : Nat.blt j i with
          | false => rfl
          | true => rw [Nat.blt_eq] at e2; omega
      have cs : CompO P mu ops N o m := by
        have key : ∀ (l : List Oper) (ml : List MOper) (hs : List (List Nat)), compOps P mu ops N l hs = some ml → ∀ (i : Nat) (o : Oper) (m : MOper), l[i]? = some o → ml[i]? = some m → CompO P mu ops N o m := by
          intro l
          induction l with
          | nil => intro ml hs _ i o m ho; simp at ho
          | cons x l ihl =>
            intro ml hs hc i o m ho hm
            simp only [compOps, Option.bind_eq_some_iff, Option.map_eq_some_iff] at hc
            obtain ⟨m', hm', ml', hml, rfl⟩ := hc
            cases i with
            | zero => simp at ho hm; subst ho hm; exact compO_spec hm'
            | succ i => exact ihl ml' hs.tail hml i o m (by simpa using ho) (by simpa using hm)
        exact key _ ml hs hc i o m (by simpa using ho) hm
      have hL' : ∀ j, (listed.setIfInBounds i true).getD j false = (listed.getD j false || Nat.beq j i) := fun j => getD_setB listed i j (by omega)
      have next : ∀ (a' : Act) (w' : World) (at1 : Nat → Option (Nat × Nat)) (FP1 : Nat → List Nat), Here w0 N (putT m.dst v tm') (addAll new st') a' w' at1 FP1 → wpAny P .any ops R fuel (listed.setIfInBounds i true) a' w' := by
        intro a' w' at1 FP1 hh1
        refine ih (listed.setIfInBounds i true) a' w' (by simpa using hsz) (fun i' o' e hi' ho' he hb => ?_) ?_ ⟨_, _, ⟨at1, FP1, hh1⟩, fun t => ?_, fun b => ?_⟩
        · simp only [hL', Bool.or_eq_true] at hi' ⊢
          rcases hi' with hi' | hi'
          · exact .inl (hcl i' o' e hi' ho' he hb)
          · have := Nat.eq_of_beq_eq_true hi'
            subst this
            rw [ho] at ho'
            cases ho'
            exact .inl (hpre e he hb)
        · have := unl_lt (p := fun j => !(listed.getD j false)) (q := fun j => !((listed.setIfInBounds i true).getD j false)) (i := i) (fun j hq => by simp only [hL'] at hq ⊢; simp at hq ⊢; exact hq.1) (by simp only [hun]; rfl) (by simp only [hL', Nat.beq_refl]; simp) (l := List.range ops.size) (List.mem_range.2 hlt)
          omega
        · exact TL_step h1 (fun j => hL' j) (by rw [List.getElem?_map, hm]; rfl) d1.dst hv t
        · exact SL_step (nx := nx) h2 (fun j => hL' j) hun hv hstep.ids b
      have hput : ∀ (a' : Act) (w' : World) (st1 : Nat → Option Blk) (at1 : Nat → Option (Nat × Nat)) (FP1 : Nat → List Nat) (u : Value), Here w0 N tm' st1 a' w' at1 FP1 → Loc ⟨w0, w', at1, st1⟩ v u → Here w0 N (putT m.dst v tm') st1 (a'.put o.dst u) w' at1 FP1 := by
        intro a' w' st1 at1 FP1 u hh1 hl1
        rw [cs.dst]
        have hlt := cs.lt
        rw [cs.dst] at hlt
        cases hd : m.dst with
        | none => exact hh1
        | some d => exact hh1.put hl1 (hlt d hd)
      unfold wpOp
      rw [ho]
      simp only
      rcases hstep with ⟨hg, hok⟩ | ⟨d, want, hgd, hsl, rfl, rfl⟩
      · have hw : Region.wanted o (yielded ops a.tmps) = true := by
          rcases hg with hg | ⟨d, want, hg, hs⟩
          · exact guard_none cs hg _
          · have := same d (.inr (by rw [hg]; exact List.mem_cons_self ..))
            rw [(guard_run hh cs hg).1 want (by rw [this, hs])]
            simp
        rw [hw, if_pos rfl]
        refine .inl ((hok.2 w0 N tm' st' a w (fun x hx => ?_) (fun b k hb => ?_) (fun b hb1 hb2 => ?_) ⟨at_, FP, hh⟩).wp (fun u w' hu => ?_))
        · cases x with
          | tmp t => exact same t (.inl (mem_tmpsOf hx))
          | const => rfl
          | global => rfl
          | func => rfl
        · unfold used at hb
          cases hns : noStore m.op with
          | true => rw [hns] at hb; cases hb
          | false =>
            rw [hns, cond_false] at hb
            have hah := ahead_spec (d1.blocks.resolve_left (by rw [hns]; exact fun h => by cases h))
            have hb1 := hid_look hb
            rw [f2] at hb1
            rw [h2, ← hb1]
            unfold SL at hb1 ⊢
            by_cases hbx : b < nx
            · rw [if_pos hbx, if_pos hbx]
            · rw [if_neg hbx] at hb1
              rw [if_neg hbx, if_neg hbx]
              cases e : Nat.blt ((b - nx) / 16) i with
              | false => dsimp only at hb1; rw [e] at hb1; simp at hb1
              | true =>
                dsimp only
                rw [e, cond_true]
                rcases hah _ (blt_iff.1 e) with hp | hp
                · rw [pre _ (rowAt_spec hp), cond_true]
                · exfalso
                  unfold hid at hb
                  split at hb
                  · rename_i hnil
                    rw [hnil] at hp
                    cases hp
                  · rw [look_hidden] at hb
                    have : Nat.blt b nx = false := by
                      cases e : Nat.blt b nx with
                      | false => rfl
                      | true => rw [Nat.blt_eq] at e; omega
                    rw [this, cond_false, hp, cond_true] at hb
                    cases hb
        · rw [h2]
          unfold SL
          have : (b - nx) / 16 = i := by omega
          rw [if_neg (by omega), this]
          dsimp only
          rw [hun]
          rfl
        · obtain ⟨at1, FP1, hh1, hl1⟩ := hu
          exact next _ _ _ _ (hput _ _ _ _ _ _ hh1 hl1)
      · have hw : Region.wanted o (yielded ops a.tmps) = false := by
          have := same d (.inr (by rw [hgd]; exact List.mem_cons_self ..))
          rcases hsl with ⟨b, hb, hbw⟩ | hsl
          · rw [(guard_run hh cs hgd).1 b (by rw [this, hb])]
            exact hbw
          · exact (guard_run hh cs hgd).2 (by rw [this, hsl])
        rw [hw]
        simp only [Bool.false_eq_true, if_false]
        exact next _ _ at_ FP (hput _ _ _ _ _ _ hh .undef)
  intro a w hrel
  refine way ops.size (Array.replicate ops.size false) a w (by simp) (fun i o e hi => ?_) ?_ ⟨s.tm, fun b => look b s.st, hrel.1, fun t => (z1' _ (fun j => ?_) t).symm, fun b => (z2 _ (fun j => ?_) b).symm⟩
  · dsimp only at hi
    rw [Array.getD_eq_getD_getElem?, Array.getElem?_replicate] at hi
    split at hi <;> simp at hi
  · refine Nat.le_trans (List.length_filter_le _ _) (by simp)
  · rw [Array.getD_eq_getD_getElem?, Array.getElem?_replicate]
    split <;> rfl
  · rw [Array.getD_eq_getD_getElem?, Array.getElem?_replicate]
    split <;> rfl
end
end Go.V

namespace Go.V
open Go Go.RowKit

/-! ### Operations that look at no memory: they may be met first -/
def compFloat (P : Program) (N : Nat) (o : Oper) : Option MOper := match o.guard, o.dst with
  | none, some d => if d < N then (match o.op with
    | .move x => some ⟨some d, .mv x, none, []⟩
    | .assign x => some ⟨some d, .mv x, none, []⟩
    | .extract x i => some ⟨some d, .ext x i, none, []⟩
    | .binOp op t x y _ => match P.underlying t, op with
      | some (.int _), .add => some ⟨some d, .bin .add x y, none, []⟩
      | some (.int _), .sub => some ⟨some d, .bin .sub x y, none, []⟩
      | some (.int _), .mul => some ⟨some d, .bin .mul x y, none, []⟩
      | _, _ => none
    | .slice t x lo hi none => match P.underlying t with
      | some (.slice e) => (sizeOf? P e).map fun n => ⟨some d, .slf x lo hi n, none, []⟩
      | _ => none
    | _ => none) else none
  | _, _ => none

/-- What it comes to, whatever the memory. -/
def YOK (P : Program) (o : Oper) (tm : List (Nat × AV)) (v : AV) : Prop :=
  ∀ (w0 : Base) (N : Nat) (tm' : List (Nat × AV)) (st' : Nat → Option Blk) (a : Act) (w : World) (at_ : Nat → Option (Nat × Nat)) (FP : Nat → List Nat), (∀ x ∈ o.op.operands.toList, ev tm' x = ev tm x) → Here w0 N tm' st' a w at_ FP →
    ∃ u, (∀ w2, (execOp a.eval o).run P w2 = .ok (.value u) w2) ∧ Loc ⟨w0, w, at_, st'⟩ v u
structure CompF (P : Program) (N : Nat) (o : Oper) (m : MOper) : Prop where
  gd : m.gd = none
  guard : o.guard = none
  dst : o.dst = m.dst
  some_ : ∃ d, m.dst = some d ∧ d < N
  quiet : isMut m.op = false ∧ isNbin m.op = false
  yields : ∀ (Q : AV → Prop) (As : List (St → Prop)) (tm : List (Nat × AV)) (st : List (Nat × Blk)) (nid : Nat) (K : AV → List (Nat × Blk) → Tree), Sat P Q As (qop m.op tm st nid K) → ∃ v, Sat P Q As (K v []) ∧ YOK P o tm v

section
variable {P : Program} {N : Nat}
theorem y_mv {o : Oper} {x : Operand} (ho : o.op = .move x ∨ o.op = .assign x) (tm : List (Nat × AV)) : YOK P o tm (ev tm x) := by
  intro w0 N tm' st' a w at_ FP hx hh
  refine ⟨a.eval x, fun w2 => ?_, ?_⟩
  · rcases ho with ho | ho <;> simp [execOp, ho]
  · have hm : x ∈ o.op.operands.toList := by rcases ho with ho | ho <;> simp [ho, Op.operands]
    rw [← hx x hm]
    exact hh.ev x
theorem y_ext {o : Oper} {x : Operand} {i : Nat} {tm : List (Nat × AV)} {vs : List AV} {v : AV} (ho : o.op = .extract x i) (hx0 : ev tm x = .tup vs) (hv : vs[i]? = some v) : YOK P o tm v := by
  intro w0 N tm' st' a w at_ FP hx hh
  have h1 := hh.ev x
  rw [hx x (by simp [ho, Op.operands]), hx0] at h1
  obtain ⟨us, he, hl, hd⟩ := h1.tup_inv
  have hi : i < us.size := by rw [hl]; exact lt_of_get hv
  exact ⟨us.getD i Go.undef, fun w2 => by simp [execOp, ho, he, Instr.extract, Array.getD, hi], hd i v hv⟩
theorem y_arith {o : Oper} {op : BinOp} {t t' : TypeId} {x y : Operand} {tm : List (Nat × AV)} {k : IntKind} {a b v : Unit → Int} {r : Int} (ho : o.op = .binOp op t x y t') (hx0 : ev tm x = .int k a) (hy0 : ev tm y = .int k b)
    (hop : (op = .add ∧ r = a () + b ()) ∨ (op = .sub ∧ r = a () - b ()) ∨ (op = .mul ∧ r = a () * b ())) (hv : k.wrap r = v ()) : YOK P o tm (.int k v) := by
  intro w0 N tm' st' A w at_ FP hx hh
  have h1 := hh.ev x
  rw [hx x (by simp [ho, Op.operands]), hx0] at h1
  have h2 := hh.ev y
  rw [hx y (by simp [ho, Op.operands]), hy0] at h2
  refine ⟨.int k (v ()), fun w2 => ?_, .int k v⟩
  rcases hop with ⟨rfl, rfl⟩ | ⟨rfl, rfl⟩ | ⟨rfl, rfl⟩ <;> simp [execOp, ho, h1.int_inv, h2.int_inv, eqGuard, binOp, Op.intArith, hv]
theorem y_bin {o : Oper} {op : BinOp} {t t' : TypeId} {x y : Operand} (ho : o.op = .binOp op t x y t') (hop : op = .add ∨ op = .sub ∨ op = .mul) (Q : AV → Prop) (As : List (St → Prop)) (tm : List (Nat × AV)) (st : List (Nat × Blk)) (nid : Nat) (K : AV → List (Nat × Blk) → Tree)
    (h : Sat P Q As (qop (.bin op x y) tm st nid K)) : ∃ v, Sat P Q As (K v []) ∧ YOK P o tm v := by
  simp only [qop] at h
  split at h
  · rename_i k a q b hx hy
    cases hk : kindEq k q with
    | false => rw [hk, cond_false] at h; exact (no_bad h).elim
    | true =>
      rw [hk, cond_true] at h
      obtain rfl := kindEq_eq hk
      rcases hop with rfl | rfl | rfl
      · obtain ⟨v, hv, h⟩ := sat_ari h
        exact ⟨_, h, y_arith ho hx hy (.inl ⟨rfl, rfl⟩) hv⟩
      · obtain ⟨v, hv, h⟩ := sat_ari h
        exact ⟨_, h, y_arith ho hx hy (.inr (.inl ⟨rfl, rfl⟩)) hv⟩
      · obtain ⟨v, hv, h⟩ := sat_ari h
        exact ⟨_, h, y_arith ho hx hy (.inr (.inr ⟨rfl, rfl⟩)) hv⟩
  · rcases hop with rfl | rfl | rfl <;> exact (no_bad h).elim
  · exact (no_bad h).elim
theorem y_slf {o : Oper} {t e : TypeId} {x : Operand} {lo hi : Option Operand} {n : Nat} (ho : o.op = .slice t x lo hi none) (hu : P.underlying t = some (.slice e)) (hn : sizeOf? P e = some n) (Q : AV → Prop) (As : List (St → Prop)) (tm : List (Nat × AV)) (st : List (Nat × Blk)) (nid : Nat) (K : AV → List (Nat × Blk) → Tree)
    (h : Sat P Q As (qop (.slf x lo hi n) tm st nid K)) : ∃ v, Sat P Q As (K v []) ∧ YOK P o tm v := by
  simp only [qop] at h
  split at h
  · rename_i l r α z enc xs hlo hhi hx0
    cases hz : Nat.beq z n with
    | false => rw [hz, cond_false] at h; exact (no_bad h).elim
    | true =>
      rw [hz, cond_true] at h
      obtain rfl := Nat.eq_of_beq_eq_true hz
      obtain ⟨p, q, e1, e2, h1, h2, h⟩ := sat_cutT h
      refine ⟨_, h, fun w0 N tm' st' a w at_ FP hx hh => ?_⟩
      have hl := hh.ev x
      rw [hx x (by simp [ho, Op.operands]), hx0] at hl
      have b1 := here_bnd hh (tm := tm) (lo := lo) (d := 0) (n := p) (fun y hy => hx y (by subst hy; simp [ho, Op.operands])) hlo e1
      have b2 := here_bnd hh (tm := tm) (lo := hi) (d := (xs ()).length) (n := q) (fun y hy => hx y (by subst hy; simp [ho, Op.operands])) hhi e2
      generalize a.eval x = u at hl
      have key : ∀ u, Loc ⟨w0, w, at_, st'⟩ (.sl z enc xs) u → a.eval x = u → ∃ u', (∀ w2, (execOp a.eval o).run P w2 = .ok (.value u') w2) ∧ Loc ⟨w0, w, at_, st'⟩ (.sl z enc (fun _ => ((xs ()).drop (p ())).take (q () - p ()))) u' := by
        intro u hl hu0
        cases hl with
        | sl hd =>
          obtain ⟨hd, hold⟩ := hd
          obtain ⟨A, cap, rfl, hc, fp', hd', hs⟩ := cut_deep hd h1 h2
          exact ⟨_, fun w2 => by simp [execOp, ho, hu0]; rw [slice_run hu hn b1 b2 h1 (Nat.le_trans h2 hc) w2]; rfl, .sl ⟨hd', fun g hg => hold g (hs g hg)⟩⟩
      exact key _ (by have hl2 := hh.ev x; rw [hx x (by simp [ho, Op.operands]), hx0] at hl2; exact hl2) rfl
  · exact (no_bad h).elim

theorem compFloat_ok {o : Oper} {m : MOper} (h : compFloat P N o = some m) : CompF P N o m := by
  unfold compFloat at h
  split at h
  · rename_i d hg hd
    split at h
    · rename_i hlt
      split at h
      · rename_i x ho
        cases h
        exact ⟨rfl, hg, hd, ⟨d, rfl, hlt⟩, ⟨rfl, rfl⟩, fun Q As tm st nid K h => ⟨_, h, y_mv (.inl ho) tm⟩⟩
      · rename_i x ho
        cases h
        exact ⟨rfl, hg, hd, ⟨d, rfl, hlt⟩, ⟨rfl, rfl⟩, fun Q As tm st nid K h => ⟨_, h, y_mv (.inr ho) tm⟩⟩
      · rename_i x i ho
        cases h
        refine ⟨rfl, hg, hd, ⟨d, rfl, hlt⟩, ⟨rfl, rfl⟩, fun Q As tm st nid K h => ?_⟩
        simp only [qop] at h
        split at h
        · rename_i vs hx
          split at h
          · rename_i v hv
            exact ⟨v, h, y_ext ho hx hv⟩
          · exact (no_bad h).elim
        · exact (no_bad h).elim
      · rename_i op t x y t' ho
        split at h
        · cases h
          exact ⟨rfl, hg, hd, ⟨d, rfl, hlt⟩, ⟨rfl, rfl⟩, fun Q As tm st nid K h => y_bin ho (.inl rfl) Q As tm st nid K h⟩
        · cases h
          exact ⟨rfl, hg, hd, ⟨d, rfl, hlt⟩, ⟨rfl, rfl⟩, fun Q As tm st nid K h => y_bin ho (.inr (.inl rfl)) Q As tm st nid K h⟩
        · cases h
          exact ⟨rfl, hg, hd, ⟨d, rfl, hlt⟩, ⟨rfl, rfl⟩, fun Q As tm st nid K h => y_bin ho (.inr (.inr rfl)) Q As tm st nid K h⟩
        · cases h
      · rename_i t x lo hi ho
        split at h
        · rename_i e hu
          rw [Option.map_eq_some_iff] at h
          obtain ⟨n, hn, rfl⟩ := h
          exact ⟨rfl, hg, hd, ⟨d, rfl, hlt⟩, ⟨rfl, rfl⟩, fun Q As tm st nid K h => y_slf ho hu hn Q As tm st nid K h⟩
        · cases h
      · cases h
    · cases h
  · cases h
end
end Go.V

namespace Go.V
open Go Go.RowKit

/-! ### Regions that draw their order: in parts, between operations that stand in line with all others -/
def voidOf (o : Oper) : MOper := ⟨o.dst, match o.dst with | some d => .mv (.tmp d) | none => .mv (.const (.bool false)), none, []⟩
/-- vd: met first, ahead of all; fl: looks at no memory. -/
def compOps2 (P : Program) (mu : Nat → Bool) (ops : Array Oper) (N : Nat) (vd fl : List Nat) : Nat → List Oper → List (List Nat) → Option (List MOper)
  | _, [], _ => some []
  | i, o :: r, hs => (bif memN i vd then some (voidOf o) else bif memN i fl then compFloat P N o else compO P mu ops N o (hs.headD [])).bind fun m => (compOps2 P mu ops N vd fl (i + 1) r hs.tail).map fun l => m :: l
def compPre (P : Program) (ops : Array Oper) (N : Nat) : List Nat → Option (List MOper)
  | [] => some []
  | i :: r => ((ops[i]?).bind (compFloat P N)).bind fun m => (compPre P ops N r).map fun l => m :: l

def direct (i : Nat) (o : Oper) : Bool := o.after.toList.any fun e => Region.binds .any e && Nat.beq e.on i
/-- i may be met while what is not done (from lo on, not void, not ahead of i) is not done. -/
def apartAll (ops : Array Oper) (rows : List (List Nat)) (vd : List Nat) (lo i : Nat) (oi : Oper) : Nat → Bool
  | 0 => true
  | j + 1 => (Nat.beq j i || Nat.blt j lo || memN j vd || memN j (rowAt rows i) || (match ops[j]? with | some oj => direct i oj || oi.apart ops oj | none => true)) && apartAll ops rows vd lo i oi j
def aheadS (rows : List (List Nat)) (hide vd : List Nat) (lo i : Nat) : Nat → Bool
  | 0 => true
  | j + 1 => (Nat.blt j lo || memN j vd || memN j (rowAt rows i) || memN j hide) && aheadS rows hide vd lo i j
def dsFrom (vd : List Nat) (lo : Nat) : Nat → List MOper → List (Option Nat)
  | _, [] => []
  | i, m :: r => (bif Nat.blt i lo || memN i vd then none else m.dst) :: dsFrom vd lo (i + 1) r
def edgesOk (rows : List (List Nat)) (i : Nat) (o : Oper) : Bool := (rowAt rows i).all (fun j => Nat.blt j i) && o.after.toList.all (fun e => !Region.binds .any e || memN e.on (rowAt rows i))
def segOne (ops : Array Oper) (rows : List (List Nat)) (ds : List (Option Nat)) (vd fl : List Nat) (lo i : Nat) (o : Oper) (m : MOper) : Bool :=
  (tmpsOf o.op.operands.toList ++ gdOf m.gd).all (seeOk rows ds i) && edgesOk rows i o && (noStore m.op || aheadS rows m.hide vd lo i i) &&
    (match m.dst with | some d => (match wr d ds 0 with | some j => Nat.beq j i | none => false) | none => true) && (!memN i fl || apartAll ops rows vd lo i o ops.size)
def barBefore (rows : List (List Nat)) (vd fl : List Nat) (lo i : Nat) : Nat → Bool
  | 0 => true
  | j + 1 => (Nat.blt j lo || memN j vd || memN j fl || memN j (rowAt rows i)) && barBefore rows vd fl lo i j
def barAfter (rows : List (List Nat)) (vd : List Nat) (i : Nat) : Nat → Bool
  | 0 => true
  | j + 1 => (Nat.ble j i || memN j vd || memN i (rowAt rows j)) && barAfter rows vd i j
def isBar (m : MOper) : Bool := isMut m.op || isNbin m.op
def segAll (ops : Array Oper) (rows : List (List Nat)) (vd fl : List Nat) (all : List MOper) : Nat → Nat → List Oper → List MOper → Bool
  | _, _, [], [] => true
  | lo, i, o :: r, m :: q => bif memN i vd then segAll ops rows vd fl all lo (i + 1) r q
      else bif isBar m then edgesOk rows i o && barBefore rows vd fl lo i i && barAfter rows vd i ops.size && !memN i fl && segAll ops rows vd fl all (i + 1) (i + 1) r q
      else segOne ops rows (dsFrom vd lo 0 all) vd fl lo i o m && segAll ops rows vd fl all lo (i + 1) r q
  | _, _, _, _ => false
/-- What is met first: each behind those that it needs. -/
def preAll (ops : Array Oper) (rows : List (List Nat)) : List Nat → List Nat → Bool
  | _, [] => true
  | done, i :: r => (rowAt rows i).all (fun j => memN j done) && !memN i done && (match ops[i]? with | some o => edgesOk rows i o && apartAll ops rows done 0 i o ops.size | none => false) && preAll ops rows (i :: done) r
def edgesAll (rows : List (List Nat)) : Nat → List Oper → Bool
  | _, [] => true
  | i, o :: r => edgesOk rows i o && edgesAll rows (i + 1) r
def drawOk2 (ops : Array Oper) (pre fl : List Nat) (ml : List MOper) : Bool :=
  edgesAll (rowsOf ops.toList []) 0 ops.toList && pre.all (fun i => Nat.blt i ops.size && (rowAt (rowsOf ops.toList []) i).all (fun j => memN j pre)) && preAll ops (rowsOf ops.toList []) [] pre && segAll ops (rowsOf ops.toList []) pre fl ml 0 0 ops.toList ml

section
variable {P : Program} {Q : AV → Prop} {As : List (St → Prop)} {mu : Nat → Bool} {N nx : Nat} {ops : Array Oper} {w0 : Base}

theorem opsT_append : ∀ (A B : List MOper) (i : Nat) (K : St → Tree) (s : St), opsT nx (A ++ B) i K s = opsT nx A i (fun s' => opsT nx B (i + A.length) K s') s
  | [], B, i, K, s => rfl
  | m :: A, B, i, K, s => by
    have ih : ∀ s, opsT nx (A ++ B) (i + 1) K s = opsT nx A (i + 1) (fun s' => opsT nx B (i + (m :: A).length) K s') s := fun s => by
      rw [opsT_append A B (i + 1) K s, List.length_cons, show i + 1 + A.length = i + (A.length + 1) by omega]
    rw [List.cons_append, opsT, opsT]
    simp only [ih]

theorem apartAll_spec {rows : List (List Nat)} {vd : List Nat} {lo i : Nat} {oi : Oper} : ∀ {n : Nat}, apartAll ops rows vd lo i oi n = true → ∀ j oj, j < n → ops[j]? = some oj → j ≠ i → lo ≤ j → memN j vd = false → memN j (rowAt rows i) = false → (∀ e ∈ oj.after, Region.binds .any e = true → e.on ≠ i) → oi.apart ops oj = true
  | 0, _, j, oj, hj => by omega
  | n + 1, h, j, oj, hj => by
    rw [apartAll, Bool.and_eq_true] at h
    intro ho hne hlo hv hr hd
    by_cases e : j = n
    · subst e
      have h1 := h.1
      simp only [Bool.or_eq_true, hv, hr, ho] at h1
      rcases h1 with (((h1 | h1) | h1) | h1) | h1
      · exact absurd (Nat.eq_of_beq_eq_true h1) hne
      · rw [Nat.blt_eq] at h1; omega
      · cases h1
      · cases h1
      · rcases h1 with h1 | h1
        · unfold direct at h1
          rw [List.any_eq_true] at h1
          obtain ⟨e, he, hb⟩ := h1
          rw [Bool.and_eq_true] at hb
          exact absurd (Nat.eq_of_beq_eq_true hb.2) (hd e (by simpa using he) hb.1)
        · exact h1
    · exact apartAll_spec h.2 j oj (by omega) ho hne hlo hv hr hd
theorem aheadS_spec {rows : List (List Nat)} {hide vd : List Nat} {lo i : Nat} : ∀ {k : Nat}, aheadS rows hide vd lo i k = true → ∀ j, j < k → j < lo ∨ memN j vd = true ∨ memN j (rowAt rows i) = true ∨ memN j hide = true
  | 0, _, j, hj => by omega
  | k + 1, h, j, hj => by
    rw [aheadS, Bool.and_eq_true] at h
    by_cases e : j = k
    · subst e
      have h1 := h.1
      simp only [Bool.or_eq_true, Nat.blt_eq] at h1
      rcases h1 with ((h1 | h1) | h1) | h1
      · exact .inl h1
      · exact .inr (.inl h1)
      · exact .inr (.inr (.inl h1))
      · exact .inr (.inr (.inr h1))
    · exact aheadS_spec h.2 j (by omega)
theorem barBefore_spec {rows : List (List Nat)} {vd fl : List Nat} {lo i : Nat} : ∀ {k : Nat}, barBefore rows vd fl lo i k = true → ∀ j, j < k → j < lo ∨ memN j vd = true ∨ memN j fl = true ∨ memN j (rowAt rows i) = true
  | 0, _, j, hj => by omega
  | k + 1, h, j, hj => by
    rw [barBefore, Bool.and_eq_true] at h
    by_cases e : j = k
    · subst e
      have h1 := h.1
      simp only [Bool.or_eq_true, Nat.blt_eq] at h1
      rcases h1 with ((h1 | h1) | h1) | h1
      · exact .inl h1
      · exact .inr (.inl h1)
      · exact .inr (.inr (.inl h1))
      · exact .inr (.inr (.inr h1))
    · exact barBefore_spec h.2 j (by omega)
theorem barAfter_spec {rows : List (List Nat)} {vd : List Nat} {i : Nat} : ∀ {k : Nat}, barAfter rows vd i k = true → ∀ j, j < k → i < j → memN j vd = true ∨ memN i (rowAt rows j) = true
  | 0, _, j, hj => by omega
  | k + 1, h, j, hj => by
    rw [barAfter, Bool.and_eq_true] at h
    intro hij
    by_cases e : j = k
    · subst e
      have h1 := h.1
      simp only [Bool.or_eq_true] at h1
      rcases h1 with (h1 | h1) | h1
      · have := Nat.le_of_ble_eq_true h1; omega
      · exact .inl h1
      · exact .inr h1
    · exact barAfter_spec h.2 j (by omega) hij
theorem dsFrom_at {vd : List Nat} {lo : Nat} : ∀ {l : List MOper} {i j : Nat}, (dsFrom vd lo i l)[j]? = (l[j]?).map fun m => bif Nat.blt (i + j) lo || memN (i + j) vd then none else m.dst
  | [], i, j => by simp [dsFrom]
  | m :: r, i, j => by
    cases j with
    | zero => simp [dsFrom]
    | succ j =>
      rw [dsFrom, List.getElem?_cons_succ, List.getElem?_cons_succ, dsFrom_at (l := r) (i := i + 1), show i + 1 + j = i + (j + 1) by omega]
theorem edgesOk_spec {rows : List (List Nat)} {i : Nat} {o : Oper} (h : edgesOk rows i o = true) : (∀ j, memN j (rowAt rows i) = true → j < i) ∧ ∀ e ∈ o.after, Region.binds .any e = true → memN e.on (rowAt rows i) = true := by
  unfold edgesOk at h
  rw [Bool.and_eq_true] at h
  refine ⟨fun j hj => ?_, fun e he hb => ?_⟩
  · have := List.all_eq_true.1 h.1 j (memN_spec.1 hj)
    rwa [Nat.blt_eq] at this
  · have := List.all_eq_true.1 h.2 e (by simpa using he)
    rw [hb] at this
    simpa using this
theorem edgesAll_spec {rows : List (List Nat)} : ∀ {l : List Oper} {i : Nat}, edgesAll rows i l = true → ∀ (j : Nat) (o : Oper), l[j]? = some o → edgesOk rows (i + j) o = true
  | [], i, _, j, o, h => by simp at h
  | x :: l, i, h, j, o, hj => by
    rw [edgesAll, Bool.and_eq_true] at h
    cases j with
    | zero => simp at hj; subst hj; exact h.1
    | succ j =>
      have := edgesAll_spec h.2 j o (by simpa using hj)
      rw [show i + 1 + j = i + (j + 1) by omega] at this
      exact this
theorem segAll_len {rows : List (List Nat)} {vd fl : List Nat} {all : List MOper} : ∀ {l : List Oper} {ml : List MOper} {lo i : Nat}, segAll ops rows vd fl all lo i l ml = true → ml.length = l.length
  | [], [], _, _, _ => rfl
  | [], _ :: _, _, _, h => by simp [segAll] at h
  | _ :: _, [], _, _, h => by simp [segAll] at h
  | o :: l, m :: ml, lo, i, h => by
    rw [segAll] at h
    rw [List.length_cons, List.length_cons]
    congr 1
    cases e1 : memN i vd with
    | true => rw [e1, cond_true] at h; exact segAll_len h
    | false =>
      rw [e1, cond_false] at h
      cases e2 : isBar m with
      | true => rw [e2, cond_true] at h; simp only [Bool.and_eq_true] at h; exact segAll_len h.2
      | false => rw [e2, cond_false, Bool.and_eq_true] at h; exact segAll_len h.2

/-- The part up to the next bar. -/
theorem segAll_next {rows : List (List Nat)} {vd fl : List Nat} {all : List MOper} : ∀ {l : List Oper} {ml : List MOper} {lo i : Nat}, segAll ops rows vd fl all lo i l ml = true →
    ∃ k, k ≤ ml.length ∧ (∀ (j : Nat) (o : Oper) (m : MOper), j < k → l[j]? = some o → ml[j]? = some m → memN (i + j) vd = true ∨ (isBar m = false ∧ segOne ops rows (dsFrom vd lo 0 all) vd fl lo (i + j) o m = true)) ∧
      (k = ml.length ∨ ∃ o m, l[k]? = some o ∧ ml[k]? = some m ∧ memN (i + k) vd = false ∧ isBar m = true ∧ edgesOk rows (i + k) o = true ∧ barBefore rows vd fl lo (i + k) (i + k) = true ∧ barAfter rows vd (i + k) ops.size = true ∧ memN (i + k) fl = false ∧
        segAll ops rows vd fl all (i + k + 1) (i + k + 1) (l.drop (k + 1)) (ml.drop (k + 1)) = true)
  | [], [], _, _, _ => ⟨0, Nat.le_refl _, fun j o m hj => by omega, .inl rfl⟩
  | [], _ :: _, _, _, h => by simp [segAll] at h
  | _ :: _, [], _, _, h => by simp [segAll] at h
  | o :: l, m :: ml, lo, i, h => by
    rw [segAll] at h
    have more : segAll ops rows vd fl all lo (i + 1) l ml = true → (memN i vd = true ∨ (isBar m = false ∧ segOne ops rows (dsFrom vd lo 0 all) vd fl lo i o m = true)) → ∃ k, k ≤ (m :: ml).length ∧ (∀ (j : Nat) (o' : Oper) (m' : MOper), j < k → (o :: l)[j]? = some o' → (m :: ml)[j]? = some m' → memN (i + j) vd = true ∨ (isBar m' = false ∧ segOne ops rows (dsFrom vd lo 0 all) vd fl lo (i + j) o' m' = true)) ∧
      (k = (m :: ml).length ∨ ∃ o' m', (o :: l)[k]? = some o' ∧ (m :: ml)[k]? = some m' ∧ memN (i + k) vd = false ∧ isBar m' = true ∧ edgesOk rows (i + k) o' = true ∧ barBefore rows vd fl lo (i + k) (i + k) = true ∧ barAfter rows vd (i + k) ops.size = true ∧ memN (i + k) fl = false ∧
        segAll ops rows vd fl all (i + k + 1) (i + k + 1) ((o :: l).drop (k + 1)) ((m :: ml).drop (k + 1)) = true) := by
      intro h h0
      obtain ⟨k, k1, k2, k3⟩ := segAll_next h
      refine ⟨k + 1, by simp; omega, fun j o' m' hj ho hm => ?_, ?_⟩
      · cases j with
        | zero => simp at ho hm; subst ho hm; exact h0
        | succ j =>
          have := k2 j o' m' (by omega) (by simpa using ho) (by simpa using hm)
          rw [show i + 1 + j = i + (j + 1) by omega] at this
          exact this
      · rcases k3 with k3 | ⟨o', m', e1, e2, e3, e4, e5, e6, e7, e8, e9⟩
        · exact .inl (by simp [k3])
        · rw [show i + 1 + k = i + (k + 1) by omega] at e3 e5 e6 e7 e8 e9
          exact .inr ⟨o', m', by simpa using e1, by simpa using e2, e3, e4, e5, e6, e7, e8, by simpa using e9⟩
    cases e1 : memN i vd with
    | true => rw [e1, cond_true] at h; exact more h (.inl e1)
    | false =>
      rw [e1, cond_false] at h
      cases e2 : isBar m with
      | true =>
        rw [e2, cond_true] at h
        simp only [Bool.and_eq_true, Bool.not_eq_true'] at h
        obtain ⟨⟨⟨⟨h1, h2⟩, h3⟩, h4⟩, h5⟩ := h
        exact ⟨0, Nat.zero_le _, fun j o m hj => by omega, .inr ⟨o, m, rfl, rfl, e1, e2, h1, h2, h3, h4, h5⟩⟩
      | false =>
        rw [e2, cond_false, Bool.and_eq_true] at h
        exact more h.2 (.inr ⟨e2, h.1⟩)
end
end Go.V

namespace Go.V
open Go Go.RowKit
section
variable {P : Program} {Q : AV → Prop} {As : List (St → Prop)} {mu : Nat → Bool} {N nx : Nat} {ops : Array Oper} {w0 : Base} {vd fl : List Nat}

/-- How an operation stands in the short code. -/
def PosOK (P : Program) (mu : Nat → Bool) (ops : Array Oper) (N : Nat) (vd fl : List Nat) (i : Nat) (o : Oper) (m : MOper) : Prop :=
  (memN i vd = true ∧ m = voidOf o ∧ ∃ d, o.dst = some d ∧ d < N) ∨ (memN i vd = false ∧ memN i fl = true ∧ CompF P N o m) ∨ (memN i vd = false ∧ memN i fl = false ∧ CompO P mu ops N o m)

theorem compPre_pos : ∀ {l : List Nat} {pl : List MOper}, compPre P ops N l = some pl → pl.length = l.length ∧ ∀ (k i : Nat), l[k]? = some i → ∃ o m, ops[i]? = some o ∧ pl[k]? = some m ∧ CompF P N o m
  | [], pl, h => by
    simp only [compPre, Option.some.injEq] at h
    subst h
    exact ⟨rfl, fun k i hk => by simp at hk⟩
  | i :: l, pl, h => by
    simp only [compPre, Option.bind_eq_some_iff, Option.map_eq_some_iff] at h
    obtain ⟨m, ⟨o, ho, hm⟩, pl', hpl, rfl⟩ := h
    obtain ⟨h1, h2⟩ := compPre_pos hpl
    refine ⟨by simp [h1], fun k j hk => ?_⟩
    cases k with
    | zero => simp at hk; subst hk; exact ⟨o, m, ho, rfl, compFloat_ok hm⟩
    | succ k => obtain ⟨o', m', e1, e2, e3⟩ := h2 k j (by simpa using hk); exact ⟨o', m', e1, by simpa using e2, e3⟩
theorem compOps2_pos (hv : ∀ i o, memN i vd = true → ops[i]? = some o → ∃ d, o.dst = some d ∧ d < N) : ∀ {l : List Oper} {ml : List MOper} {hs : List (List Nat)} {i : Nat}, (∀ j : Nat, l[j]? = ops[i + j]?) → compOps2 P mu ops N vd fl i l hs = some ml → ml.length = l.length ∧ ∀ (j : Nat) (o : Oper) (m : MOper), l[j]? = some o → ml[j]? = some m → PosOK P mu ops N vd fl (i + j) o m
  | [], ml, hs, i, _, h => by
    simp only [compOps2, Option.some.injEq] at h
    subst h
    exact ⟨rfl, fun j o m hj => by simp at hj⟩
  | o :: l, ml, hs, i, hl, h => by
    simp only [compOps2, Option.bind_eq_some_iff, Option.map_eq_some_iff] at h
    obtain ⟨m, hm, ml', hml, rfl⟩ := h
    obtain ⟨h1, h2⟩ := compOps2_pos hv (l := l) (i := i + 1) (fun j => by have := hl (j + 1); rw [show i + 1 + j = i + (j + 1) by omega]; simpa using this) hml
    refine ⟨by simp [h1], fun j o' m' hj hm' => ?_⟩
    cases j with
    | zero =>
      simp at hj hm'
      subst hj hm'
      have ho : ops[i]? = some o := by have := hl 0; simpa using this.symm
      cases e1 : memN i vd with
      | true =>
        rw [e1, cond_true] at hm
        cases hm
        exact .inl ⟨e1, rfl, hv i o e1 ho⟩
      | false =>
        rw [e1, cond_false] at hm
        cases e2 : memN i fl with
        | true => rw [e2, cond_true] at hm; exact .inr (.inl ⟨e1, e2, compFloat_ok hm⟩)
        | false => rw [e2, cond_false] at hm; exact .inr (.inr ⟨e1, e2, compO_spec hm⟩)
    | succ j =>
      have := h2 j o' m' (by simpa using hj) (by simpa using hm')
      rw [show i + 1 + j = i + (j + 1) by omega] at this
      exact this

def DS (P : Program) (nx : Nat) (vd fl : List Nat) (i : Nat) (o : Oper) (m : MOper) (tm : List (Nat × AV)) (st : List (Nat × Blk)) (v : AV) (new : List (Nat × Blk)) : Prop :=
  (memN i vd = true ∧ (∃ d, m.dst = some d ∧ v = slot d tm) ∧ new = []) ∨ (memN i vd = false ∧ DStep P nx i o m tm st v new ∧ (memN i fl = true → YOK P o tm v ∧ new = [] ∧ m.gd = none))
inductive DRun2 (P : Program) (nx : Nat) (vd fl : List Nat) : Nat → List Oper → List MOper → List (Nat × AV) → List (Nat × Blk) → List (AV × List (Nat × Blk)) → List (Nat × AV) → List (Nat × Blk) → Prop
  | nil {i : Nat} {tm : List (Nat × AV)} {st : List (Nat × Blk)} : DRun2 P nx vd fl i [] [] tm st [] tm st
  | cons {i : Nat} {o : Oper} {m : MOper} {l : List Oper} {ml : List MOper} {tm tm' : List (Nat × AV)} {st st' : List (Nat × Blk)} {v : AV} {new : List (Nat × Blk)} {vs : List (AV × List (Nat × Blk))}
      (h : DS P nx vd fl i o m tm st v new) (hr : DRun2 P nx vd fl (i + 1) l ml (putT m.dst v tm) (new ++ st) vs tm' st') : DRun2 P nx vd fl i (o :: l) (m :: ml) tm st ((v, new) :: vs) tm' st'

theorem YOK.qok {o : Oper} {tm : List (Nat × AV)} {v : AV} (h : YOK P o tm v) (st : List (Nat × Blk)) (nid : Nat) : QOK P o tm st nid v [] :=
  QOK.pure (fun w0 N tm' st' a w at_ FP hx _ hh => by
    obtain ⟨u, hr, hl⟩ := h w0 N tm' st' a w at_ FP hx hh
    exact ⟨u, hr w, hl⟩)

theorem drun_of2 {K : St → Tree} : ∀ (l : List Oper) (ml : List MOper) (i : Nat), ml.length = l.length → (∀ (j : Nat) (o : Oper) (m : MOper), l[j]? = some o → ml[j]? = some m → PosOK P mu ops N vd fl (i + j) o m ∧ (memN (i + j) vd = true ∨ isBar m = false)) →
    ∀ s, Sat P Q As (opsT nx ml i K s) → ∃ vs tm' st', DRun2 P nx vd fl i l ml s.tm s.st vs tm' st' ∧ Sat P Q As (K { tm := tm', st := st', nx := s.nx })
  | [], ml, i, hl, _, s, h => by
    have : ml = [] := List.eq_nil_of_length_eq_zero hl
    subst this
    exact ⟨[], s.tm, s.st, .nil, h⟩
  | o :: l, [], i, hl, _, s, h => by simp at hl
  | o :: l, m :: ml', i, hl, hp, s, h => by
    have hp' : ∀ (j : Nat) (o' : Oper) (m' : MOper), l[j]? = some o' → ml'[j]? = some m' → PosOK P mu ops N vd fl (i + 1 + j) o' m' ∧ (memN (i + 1 + j) vd = true ∨ isBar m' = false) := fun j o' m' hj hm => by
      have := hp (j + 1) o' m' (by simpa using hj) (by simpa using hm)
      rw [show i + (j + 1) = i + 1 + j by omega] at this
      exact this
    have hl' : ml'.length = l.length := by simpa using hl
    obtain ⟨hpos, hbar⟩ := hp 0 o m rfl rfl
    rw [Nat.add_zero] at hpos hbar
    have rest : ∀ (v : AV) (new : List (Nat × Blk)), DS P nx vd fl i o m s.tm s.st v new → Sat P Q As (opsT nx ml' (i + 1) K { s with tm := putS s m.dst v, st := new ++ s.st }) → ∃ vs tm' st', DRun2 P nx vd fl i (o :: l) (m :: ml') s.tm s.st vs tm' st' ∧ Sat P Q As (K { tm := tm', st := st', nx := s.nx }) := fun v new hds hsat => by
      obtain ⟨vs, tm', st', hr, hs⟩ := drun_of2 l ml' (i + 1) hl' hp' _ hsat
      exact ⟨(v, new) :: vs, tm', st', .cons hds hr, hs⟩
    unfold opsT at h
    simp only at h
    rcases hpos with ⟨e1, rfl, d, hd, hdN⟩ | ⟨e1, e2, hF⟩ | ⟨e1, e2, cs⟩
    · have h' : Sat P Q As (opsT nx ml' (i + 1) K { s with tm := putS s (voidOf o).dst (slot d s.tm), st := [] ++ s.st }) := by
        have e : voidOf o = ⟨some d, .mv (.tmp d), none, []⟩ := by unfold voidOf; rw [hd]
        rw [e] at h ⊢
        exact h
      exact rest _ [] (.inl ⟨e1, ⟨d, hd, rfl⟩, rfl⟩) h'
    · obtain ⟨q1, q2⟩ := hF.quiet
      have hg := hF.gd
      rw [hg] at h
      simp only at h
      rw [q1, cond_false] at h
      obtain ⟨v, hsat, hy⟩ := hF.yields _ _ _ _ _ _ h
      refine rest v [] (.inr ⟨e1, .inl ⟨.inl hg, hy.qok _ _⟩, fun _ => ⟨hy, rfl, hg⟩⟩) hsat
    · have hb := hbar.resolve_left (by rw [e1]; exact fun h => by cases h)
      have q1 : isMut m.op = false := by unfold isBar at hb; rw [Bool.or_eq_false_iff] at hb; exact hb.1
      have q2 : isNbin m.op = false := by unfold isBar at hb; rw [Bool.or_eq_false_iff] at hb; exact hb.2
      have nofl : memN i fl = true → YOK P o s.tm .any ∧ ([] : List (Nat × Blk)) = [] ∧ m.gd = none := fun h => by rw [e2] at h; cases h
      have go : (m.gd = none ∨ ∃ d want, m.gd = some (d, want) ∧ slot d s.tm = .bo want) → Sat P Q As (bif isMut m.op then mop m.op s (nx + 16 * i) (fun v s' => opsT nx ml' (i + 1) K { s' with tm := putS s' m.dst v })
          else qop m.op s.tm (hid nx m.hide s.st) (nx + 16 * i) (fun v new => opsT nx ml' (i + 1) K { s with tm := putS s m.dst v, st := new ++ s.st })) →
          ∃ vs tm' st', DRun2 P nx vd fl i (o :: l) (m :: ml') s.tm s.st vs tm' st' ∧ Sat P Q As (K { tm := tm', st := st', nx := s.nx }) := by
        intro hg h
        rw [q1, cond_false] at h
        have h' : Sat P Q As (qop m.op s.tm (used nx m s.st) (nx + 16 * i) (fun v new => opsT nx ml' (i + 1) K { s with tm := putS s m.dst v, st := new ++ s.st })) := by
          unfold used
          cases e : noStore m.op with
          | true => rw [cond_true, ← qop_noStore e]; exact h
          | false => exact h
        obtain ⟨v, new, hok, hsat⟩ := comp_quiet cs.op q1 q2 h'
        exact rest v new (.inr ⟨e1, .inl ⟨hg, hok⟩, fun h => by rw [e2] at h; cases h⟩) hsat
      have skip : (∃ d want, m.gd = some (d, want) ∧ ((∃ b, slot d s.tm = .bo b ∧ (b == want) = false) ∨ slot d s.tm = .undef)) → Sat P Q As (opsT nx ml' (i + 1) K { s with tm := putS s m.dst .undef }) →
          ∃ vs tm' st', DRun2 P nx vd fl i (o :: l) (m :: ml') s.tm s.st vs tm' st' ∧ Sat P Q As (K { tm := tm', st := st', nx := s.nx }) := by
        intro hg h
        obtain ⟨d, want, h1, h2⟩ := hg
        exact rest .undef [] (.inr ⟨e1, .inr ⟨d, want, h1, h2, rfl, rfl⟩, fun h => by rw [e2] at h; cases h⟩) h
      cases hg : m.gd with
      | none => rw [hg] at h; exact go (.inl hg) h
      | some q =>
        obtain ⟨d, want⟩ := q
        rw [hg] at h
        simp only at h
        split at h
        · rename_i b hb
          split at h
          · exact go (.inr ⟨d, true, hg, hb⟩) h
          · exact go (.inr ⟨d, false, hg, hb⟩) h
          · rename_i n1 n2
            have : (b == want) = false := by
              cases b <;> cases want <;> first | rfl | (exact absurd rfl (n1 rfl)) | (exact absurd rfl (n2 rfl))
            exact skip ⟨d, want, hg, .inl ⟨b, hb, this⟩⟩ h
        · rename_i hb
          exact skip ⟨d, want, hg, .inr hb⟩ h
        · exact (no_bad h).elim

def SLb (nb nx : Nat) (vs : List (AV × List (Nat × Blk))) (st0 : List (Nat × Blk)) (L : Nat → Bool) (b : Nat) : Option Blk :=
  if b < nb then look b st0 else bif L ((b - nx) / 16) then look b (((vs[(b - nx) / 16]?).map (·.2)).getD []) else none
theorem SLb_step {nb : Nat} {vs : List (AV × List (Nat × Blk))} {st0 : List (Nat × Blk)} {st : Nat → Option Blk} {L L' : Nat → Bool} {i : Nat} {v : AV} {new : List (Nat × Blk)} (hnb : nx ≤ nb ∧ nb ≤ nx + 16 * i) (h : ∀ b, st b = SLb nb nx vs st0 L b) (hL : ∀ j, L' j = (L j || Nat.beq j i)) (hi : L i = false ∨ new = [])
    (hv : vs[i]? = some (v, new)) (hn : ∀ p ∈ new, nx + 16 * i ≤ p.1 ∧ p.1 < nx + 16 * i + 16) (b : Nat) : addAll new st b = SLb nb nx vs st0 L' b := by
  unfold addAll SLb
  by_cases hb : b < nb
  · have e : look b new = none := look_none (fun p hp e => by have := hn p hp; omega)
    rw [e, if_pos hb]
    have := h b
    unfold SLb at this
    rw [if_pos hb] at this
    exact this
  · rw [if_neg hb]
    have hb2 := h b
    unfold SLb at hb2
    rw [if_neg hb] at hb2
    by_cases hq : (b - nx) / 16 = i
    · rw [hq, hL, Nat.beq_refl, Bool.or_true, cond_true, hv]
      rw [hq] at hb2
      simp only [Option.map_some, Option.getD_some]
      cases e : look b new with
      | some k => rfl
      | none =>
        simp only
        rw [hb2, hv]
        cases L i <;> simp [e]
    · have e : look b new = none := look_none (fun p hp e => by have := hn p hp; omega)
      have e2 : Nat.beq ((b - nx) / 16) i = false := by
        cases e : Nat.beq ((b - nx) / 16) i with
        | false => rfl
        | true => exact absurd (Nat.eq_of_beq_eq_true e) hq
      rw [e, hL, e2, Bool.or_false]
      exact hb2

theorem DS.ids {i : Nat} {o : Oper} {m : MOper} {tm : List (Nat × AV)} {st new : List (Nat × Blk)} {v : AV} (h : DS P nx vd fl i o m tm st v new) : ∀ p ∈ new, nx + 16 * i ≤ p.1 ∧ p.1 < nx + 16 * i + 16 := by
  rcases h with ⟨_, _, rfl⟩ | ⟨_, h, _⟩
  · intro p hp; cases hp
  · exact h.ids

theorem drun_facts2 {nb lo : Nat} {ds : List (Option Nat)} {VS : List (AV × List (Nat × Blk))} {tm0 : List (Nat × AV)} {st0 : List (Nat × Blk)} (hnb : nx ≤ nb ∧ nb ≤ nx + 16 * lo) :
    ∀ {i : Nat} {l : List Oper} {ml : List MOper} {tm tm' : List (Nat × AV)} {st st' : List (Nat × Blk)} {vs : List (AV × List (Nat × Blk))}, DRun2 P nx vd fl i l ml tm st vs tm' st' → lo ≤ i → (∀ (j : Nat) (m : MOper), ml[j]? = some m → ds[i + j]? = some (bif memN (i + j) vd then none else m.dst)) →
      (∀ (j : Nat) (m : MOper) (d : Nat), ml[j]? = some m → memN (i + j) vd = false → m.dst = some d → wr d ds 0 = some (i + j)) → (∀ j : Nat, vs[j]? = VS[i + j]?) →
      (∀ t, slot t tm = TL ds VS tm0 (fun q => Nat.blt q i) t) → (∀ b, look b st = SLb nb nx VS st0 (fun q => Nat.blt q i) b) →
      vs.length = l.length ∧ (∀ (j : Nat) (o : Oper) (m : MOper), l[j]? = some o → ml[j]? = some m → ∃ tmj stj v new, vs[j]? = some (v, new) ∧ DS P nx vd fl (i + j) o m tmj stj v new ∧ (∀ t, slot t tmj = TL ds VS tm0 (fun q => Nat.blt q (i + j)) t) ∧ (∀ b, look b stj = SLb nb nx VS st0 (fun q => Nat.blt q (i + j)) b)) ∧
      (∀ t, slot t tm' = TL ds VS tm0 (fun q => Nat.blt q (i + l.length)) t) ∧ (∀ b, look b st' = SLb nb nx VS st0 (fun q => Nat.blt q (i + l.length)) b) := by
  intro i l ml tm tm' st st' vs h
  induction h with
  | nil => exact fun _ _ _ _ h1 h2 => ⟨rfl, fun j o m hj => by simp at hj, h1, h2⟩
  | @cons i o m l ml tm tm' st st' v new vs h hr ih =>
    intro hlo hds hu hvs h1 h2
    have hvi : VS[i]? = some (v, new) := by have := hvs 0; simpa using this.symm
    have hdi : ds[i]? = some (bif memN i vd then none else m.dst) := by have := hds 0 m rfl; simpa using this
    have hL : ∀ j, Nat.blt j (i + 1) = (Nat.blt j i || Nat.beq j i) := fun j => by
      rw [Bool.eq_iff_iff, Bool.or_eq_true, Nat.blt_eq, Nat.blt_eq, Nat.beq_eq]
      omega
    have hi0 : Nat.blt i i = false := by
      cases e : Nat.blt i i with
      | false => rfl
      | true => rw [Nat.blt_eq] at e; omega
    have g1 : ∀ t, slot t (putT m.dst v tm) = TL ds VS tm0 (fun q => Nat.blt q (i + 1)) t := fun t => by
      cases hv : memN i vd with
      | false =>
        rw [hv, cond_false] at hdi
        exact TL_step (v := v) (new := new) h1 hL hdi (fun d hd => by have := hu 0 m d rfl (by rw [Nat.add_zero]; exact hv) hd; simpa using this) hvi t
      | true =>
        rw [hv, cond_true] at hdi
        have e1 := TL_step (v := v) (new := new) (dst := none) h1 hL hdi (fun d hd => by cases hd) hvi t
        rcases h with ⟨_, ⟨d, hd, rfl⟩, _⟩ | ⟨h, _⟩
        · rw [← e1, hd]
          show (bif Nat.beq d t then slot d tm else slot t tm) = slot t tm
          cases e : Nat.beq d t with
          | true => have := Nat.eq_of_beq_eq_true e; subst this; rfl
          | false => rfl
        · rw [hv] at h; cases h
    have g2 := SLb_step (nx := nx) (st := fun b => look b st) ⟨hnb.1, by omega⟩ h2 hL (.inl hi0) hvi h.ids
    obtain ⟨r0, r1, r2, r3⟩ := ih (by omega) (fun j m' hm => by have := hds (j + 1) m' (by simpa using hm); rw [show i + (j + 1) = i + 1 + j by omega] at this; exact this)
      (fun j m' d hm hv hd => by have := hu (j + 1) m' d (by simpa using hm) (by rw [show i + (j + 1) = i + 1 + j by omega]; exact hv) hd; rw [show i + (j + 1) = i + 1 + j by omega] at this; exact this)
      (fun j => by have := hvs (j + 1); rw [show i + 1 + j = i + (j + 1) by omega]; simpa using this) g1
      (fun b => by have := g2 b; rw [addAll_look] at this; exact this)
    refine ⟨by simp [r0], fun j o' m' hj hm => ?_, ?_, ?_⟩
    · cases j with
      | zero =>
        simp at hj hm
        subst hj hm
        exact ⟨tm, st, v, new, rfl, h, h1, h2⟩
      | succ j =>
        obtain ⟨tmj, stj, v', new', e1, e2, e3, e4⟩ := r1 j o' m' (by simpa using hj) (by simpa using hm)
        rw [show i + 1 + j = i + (j + 1) by omega] at e2 e3 e4
        exact ⟨tmj, stj, v', new', by simpa using e1, e2, e3, e4⟩
    · rw [List.length_cons, show i + (l.length + 1) = i + 1 + l.length by omega]; exact r2
    · rw [List.length_cons, show i + (l.length + 1) = i + 1 + l.length by omega]; exact r3
end
end Go.V

namespace Go.V
open Go Go.RowKit
section
variable {P : Program} {Q : AV → Prop} {As : List (St → Prop)} {mu : Nat → Bool} {N nx : Nat} {ops : Array Oper} {w0 : Base} {vd fl : List Nat}

/-- One operation, where the text stands. -/
theorem step_bar {K : St → Tree} {R : Exit → Act → World → Prop} {W : Act → World → Prop} {o : Oper} {m : MOper} {ml' : List MOper} {i : Nat} (ho : ops[i]? = some o) (cs : CompO P mu ops N o m) (s : St) (a : Act) (w : World) (h : Sat P Q As (opsT nx (m :: ml') i K s)) (hr : RelS w0 N s.tm s.st (nx + 16 * i) a w)
    (next : ∀ (s' : St) (a' : Act) (w' : World), s'.nx = s.nx → Sat P Q As (opsT nx ml' (i + 1) K s') → RelS w0 N s'.tm s'.st (nx + 16 * (i + 1)) a' w' → W a' w') : wpOp P ops R i W a w := by
  obtain ⟨⟨at_, FP, hh⟩, hfr⟩ := hr
  have go : Sat P Q As (bif isMut m.op then mop m.op s (nx + 16 * i) (fun v s' => opsT nx ml' (i + 1) K { s' with tm := putS s' m.dst v })
      else qop m.op s.tm (hid nx m.hide s.st) (nx + 16 * i) (fun v new => opsT nx ml' (i + 1) K { s with tm := putS s m.dst v, st := new ++ s.st })) → o.wp P a w W R := by
    intro h
    cases hmu : isMut m.op with
    | true =>
      rw [hmu, cond_true] at h
      refine (comp_mut cs.op hmu h ⟨at_, FP, hh⟩ hfr).wp (fun u w' hu => ?_)
      obtain ⟨v, s', hsat, hnx, hfr', at1, FP1, hh1, hl1⟩ := hu
      refine next { s' with tm := putS s' m.dst v } _ _ hnx hsat ⟨⟨at1, FP1, ?_⟩, fun b k hb => by have := hfr' b k hb; omega⟩
      rw [cs.dst]
      exact Here.putS rfl hh1 hl1 (fun d hd => cs.lt d (cs.dst.trans hd))
    | false =>
      rw [hmu, cond_false] at h
      cases hnb : isNbin m.op with
      | true =>
        refine (comp_nbin cs.op hnb h ⟨at_, FP, hh⟩).wp (fun u w' hu => ?_)
        obtain ⟨v, hsat, at1, FP1, hh1, hl1⟩ := hu
        refine next { s with tm := putS s m.dst v, st := [] ++ s.st } _ _ rfl hsat ⟨⟨at1, FP1, ?_⟩, fun b k hb => by have := hfr b k hb; omega⟩
        rw [cs.dst]
        exact Here.putS rfl hh1 hl1 (fun d hd => cs.lt d (cs.dst.trans hd))
      | false =>
        obtain ⟨v, new, ⟨hid, hok⟩, hsat⟩ := comp_quiet cs.op hmu hnb h
        refine (hok w0 N s.tm (fun b => look b s.st) a w (fun _ _ => rfl) (fun b k hb => hid_look hb) (fun b h1 h2 => ?_) ⟨at_, FP, hh⟩).wp (fun u w' hu => ?_)
        · cases e : look b s.st with
          | none => rfl
          | some k => exact absurd (hfr b k e) (by omega)
        · obtain ⟨at1, FP1, hh1, hl1⟩ := hu
          rw [addAll_look] at hh1 hl1
          refine next { s with tm := putS s m.dst v, st := new ++ s.st } _ _ rfl hsat ⟨⟨at1, FP1, ?_⟩, fun b k hb => ?_⟩
          · rw [cs.dst]
            exact Here.putS rfl hh1 hl1 (fun d hd => cs.lt d (cs.dst.trans hd))
          · have hb' : look b (new ++ s.st) = some k := hb
            rw [look_append] at hb'
            split at hb'
            · rename_i k' hk'
              have := (hid _ (look_mem hk')).2
              simp only at this
              omega
            · have := hfr b k hb'
              omega
  have skip : Sat P Q As (opsT nx ml' (i + 1) K { s with tm := putS s m.dst .undef }) → W (a.put o.dst undef) w := by
    intro h
    refine next { s with tm := putS s m.dst .undef } _ _ rfl h ⟨⟨at_, FP, ?_⟩, fun b k hb => by have := hfr b k hb; omega⟩
    rw [cs.dst]
    exact Here.putS rfl hh .undef (fun d hd => cs.lt d (cs.dst.trans hd))
  unfold wpOp
  rw [ho]
  simp only
  unfold opsT at h
  simp only at h
  cases hg : m.gd with
  | none =>
    rw [hg] at h
    simp only at h
    rw [guard_none cs hg, if_pos rfl]
    exact .inl (go h)
  | some q =>
    obtain ⟨d, want⟩ := q
    rw [hg] at h
    simp only at h
    obtain ⟨g1, g2⟩ := guard_run hh cs hg
    split at h
    · rename_i b hb
      rw [g1 b hb]
      split at h
      · rename_i e1; exact .inl (go h)
      · exact .inl (go h)
      · rename_i n1 n2
        have : (b == want) = false := by
          cases b <;> cases want <;> first | rfl | (exact absurd rfl (n1 rfl)) | (exact absurd rfl (n2 rfl))
        rw [this]
        exact skip h
    · rename_i hb
      rw [g2 hb]
      exact skip h
    · exact (no_bad h).elim

def Unl (ops : Array Oper) (listed : Array Bool) : Nat := ((List.range ops.size).filter (fun j => !(listed.getD j false))).length
theorem unl_put {listed : Array Bool} {i : Nat} (hi : i < ops.size) (hsz : listed.size = ops.size) (hun : listed.getD i false = false) : Unl ops listed = Unl ops (listed.setIfInBounds i true) + 1 := by
  have hL' : ∀ j, (listed.setIfInBounds i true).getD j false = (listed.getD j false || Nat.beq j i) := fun j => getD_setB listed i j (by omega)
  have key : ∀ l : List Nat, l.Nodup → ((l.filter (fun j => !(listed.getD j false))).length = (l.filter (fun j => !((listed.setIfInBounds i true).getD j false))).length + (if i ∈ l then 1 else 0)) := by
    intro l
    induction l with
    | nil => intro _; simp
    | cons x l ih =>
      intro hn
      obtain ⟨hx, hn⟩ := List.nodup_cons.1 hn
      rw [List.filter_cons, List.filter_cons]
      by_cases e : x = i
      · subst e
        have h1 : (listed.setIfInBounds x true).getD x false = true := by rw [hL', Nat.beq_refl, Bool.or_true]
        have h2 := ih hn
        rw [if_neg hx] at h2
        rw [hun, h1, if_pos (List.mem_cons_self ..)]
        simp only [Bool.not_false, if_true, Bool.not_true, Bool.false_eq_true, if_false, List.length_cons]
        omega
      · have e2 : Nat.beq x i = false := by
          cases e3 : Nat.beq x i with
          | false => rfl
          | true => exact absurd (Nat.eq_of_beq_eq_true e3) e
        have h1 : (listed.setIfInBounds i true).getD x false = listed.getD x false := by rw [hL', e2, Bool.or_false]
        have hm : (i ∈ x :: l) ↔ i ∈ l := by simp [Ne.symm e]
        rw [h1]
        cases listed.getD x false with
        | true => simp only [Bool.not_true, Bool.false_eq_true, if_false, hm]; exact ih hn
        | false => simp only [Bool.not_false, if_true, List.length_cons, hm]; rw [ih hn]; omega
  have := key (List.range ops.size) List.nodup_range
  rw [if_pos (List.mem_range.2 hi)] at this
  exact this
theorem getD_tf {listed : Array Bool} {j : Nat} (h1 : listed.size = ops.size) (h2 : j < ops.size) : listed.getD j true = listed.getD j false := by
  rw [Array.getD_eq_getD_getElem?, Array.getD_eq_getD_getElem?, Array.getElem?_eq_getElem (by omega)]
  rfl

/-- What looks at no memory may be met at once. -/
theorem meet_float {R : Exit → Act → World → Prop} (hsel : ∀ (j : Nat) (o : Oper) cs b, ops[j]? = some o → o.op ≠ .select cs b) (hQ : ∀ c a a' w, R (.panic c) a w → R (.panic c) a' w) {i : Nat} {o : Oper} {m : MOper} {v : AV} {tm tmj : List (Nat × AV)} {st : Nat → Option Blk} {at_ : Nat → Option (Nat × Nat)} {FP : Nat → List Nat} {listed : Array Bool} {a : Act} {w : World}
    (ho : ops[i]? = some o) (hF : CompF P N o m) (hy : YOK P o tmj v) (hx : ∀ x ∈ o.op.operands.toList, ev tm x = ev tmj x) (hh : Here w0 N tm st a w at_ FP) (hsz : listed.size = ops.size) (hun : listed.getD i false = false) (hready : i ∈ Region.ready .any ops listed)
    (hap : ∀ j oj, ops[j]? = some oj → j ≠ i → listed.getD j false = false → (∀ e ∈ oj.after, Region.binds .any e = true → e.on ≠ i) → o.apart ops oj = true)
    (hgo : ∀ a', Here w0 N (putT m.dst v tm) st a' w at_ FP → wpAny P .any ops R (Unl ops (listed.setIfInBounds i true)) (listed.setIfInBounds i true) a' w) : wpAny P .any ops R (Unl ops listed) listed a w := by
  obtain ⟨u, hrun, hl⟩ := hy w0 N tm st a w at_ FP hx hh
  have hlt := (Array.getElem?_eq_some_iff.1 ho).1
  rw [unl_put hlt hsz hun]
  refine wpAny_first (v := u) ho hsel (fun c a w h => hQ c _ _ _ h) _ _ _ _ (fun j oj hj hne hu hd => ?_) hready (.inl ⟨?_, hrun⟩) (hgo _ ?_)
  · have hlt' := (Array.getElem?_eq_some_iff.1 hj).1
    rw [getD_tf hsz hlt'] at hu
    exact hap j oj hj hne hu hd
  · unfold Region.wanted
    rw [hF.guard]
  · obtain ⟨d, hd, hdN⟩ := hF.some_
    rw [hF.dst, hd]
    exact hh.put hl hdN

/-- What is met ahead of all. -/
theorem pre_go {R : Exit → Act → World → Prop} (hsel : ∀ (j : Nat) (o : Oper) cs b, ops[j]? = some o → o.op ≠ .select cs b) (hQ : ∀ c a a' w, R (.panic c) a w → R (.panic c) a' w) {K1 : St → Tree} {n0 : Nat} {fin : List Nat}
    (hcont : ∀ (s' : St) (a' : Act) (w' : World) (listed : Array Bool), Sat P Q As (K1 s') → s'.nx = n0 → RelS w0 N s'.tm s'.st nx a' w' → listed.size = ops.size → (∀ j, listed.getD j false = true ↔ j ∈ fin) → wpAny P .any ops R (Unl ops listed) listed a' w') :
    ∀ (r done : List Nat) (pl : List MOper) (k : Nat), compPre P ops N r = some pl → preAll ops (rowsOf ops.toList []) done r = true → (∀ j, j ∈ fin ↔ j ∈ done ∨ j ∈ r) → ∀ (s : St) (a : Act) (w : World) (listed : Array Bool), s.nx = n0 → Sat P Q As (opsT nx pl k K1 s) → RelS w0 N s.tm s.st nx a w → listed.size = ops.size → (∀ j, listed.getD j false = true ↔ j ∈ done) →
      wpAny P .any ops R (Unl ops listed) listed a w
  | [], done, pl, k, hc, _, hfin, s, a, w, listed, hn, h, hr, hsz, hL => by
    simp only [compPre, Option.some.injEq] at hc
    subst hc
    exact hcont s a w listed h hn hr hsz (fun j => by rw [hL, hfin]; simp)
  | i :: r, done, pl, k, hc, hp, hfin, s, a, w, listed, hn, h, hr, hsz, hL => by
    simp only [compPre, Option.bind_eq_some_iff, Option.map_eq_some_iff] at hc
    obtain ⟨m, ⟨o, ho, hm⟩, pl', hpl, rfl⟩ := hc
    have hF := compFloat_ok hm
    rw [preAll, Bool.and_eq_true, Bool.and_eq_true, Bool.and_eq_true, ho] at hp
    obtain ⟨⟨⟨p1, p2⟩, p3⟩, p4⟩ := hp
    rw [Bool.and_eq_true] at p3
    obtain ⟨e1, e2⟩ := edgesOk_spec p3.1
    have hlt := (Array.getElem?_eq_some_iff.1 ho).1
    have hnd : i ∉ done := fun h => by rw [memN_spec.2 h] at p2; simp at p2
    have hun : listed.getD i false = false := by
      cases e : listed.getD i false with
      | false => rfl
      | true => exact absurd ((hL i).1 e) hnd
    unfold opsT at h
    simp only at h
    have hg := hF.gd
    rw [hg] at h
    simp only at h
    rw [hF.quiet.1, cond_false] at h
    obtain ⟨v, hsat, hy⟩ := hF.yields _ _ _ _ _ _ h
    obtain ⟨⟨at_, FP, hh⟩, hfr⟩ := hr
    refine meet_float hsel hQ ho hF hy (fun _ _ => rfl) hh hsz hun (mem_ready.2 ⟨by rw [getD_tf hsz hlt]; exact hun, o, ho, fun e he hb => (hL e.on).2 (memN_spec.1 (List.all_eq_true.1 p1 e.on (memN_spec.1 (e2 e he hb))))⟩) (fun j oj hj hne hu hd => ?_) (fun a' hh' => ?_)
    · have hjlt := (Array.getElem?_eq_some_iff.1 hj).1
      have hnot : memN j done = false := by
        cases e : memN j done with
        | false => rfl
        | true => rw [(hL j).2 (memN_spec.1 e)] at hu; cases hu
      have hrow : memN j (rowAt (rowsOf ops.toList []) i) = false := by
        cases e : memN j (rowAt (rowsOf ops.toList []) i) with
        | false => rfl
        | true =>
          have := List.all_eq_true.1 p1 j (memN_spec.1 e)
          rw [this] at hnot
          cases hnot
      exact apartAll_spec p3.2 j oj hjlt hj hne (Nat.zero_le _) hnot hrow hd
    · refine pre_go hsel hQ hcont r (i :: done) pl' (k + 1) hpl p4 (fun j => by rw [hfin]; simp only [List.mem_cons]; exact ⟨fun h => by rcases h with h | h | h; exact .inl (.inr h); exact .inl (.inl h); exact .inr h, fun h => by rcases h with (h | h) | h; exact .inr (.inl h); exact .inl h; exact .inr (.inr h)⟩) { s with tm := putS s m.dst v, st := [] ++ s.st } a' w _ hn hsat ⟨⟨at_, FP, ?_⟩, hfr⟩ (by simpa using hsz) (fun j => ?_)
      · exact hh'
      · rw [getD_setB listed i j (by omega), Bool.or_eq_true, hL, List.mem_cons, Nat.beq_eq]
        exact Or.comm
end
end Go.V
