/- A theory of its own: Go code in short, evaluated, with proof that the machine does what the evaluation tells. Conditions: those that each theorem states. Part 1. -/
import Derived.Below
import Derived.Calls
import Derived.Deep.AppendSrc
import Derived.Laws.AppendOwn
import Derived.Laws.BytesArg
import Derived.Laws.Cells
import Derived.Laws.CopyRow
import Derived.Laws.Entries
import Derived.Lib.ItoaNum
import Derived.Lib.LaidTab
set_option linter.unusedVariables false
set_option linter.unusedSimpArgs false
namespace Go.V
open Go Go.RowKit
def Nat.beq (a b : Nat) : Bool := a == b
def Nat.ble (a b : Nat) : Bool := a - b == 0
def Nat.blt (a b : Nat) : Bool := a + 1 - b == 0
theorem Nat.eq_of_beq_eq_true {a b : Nat} (h : Nat.beq a b = true) : a = b := eq_of_beq h
@[simp] theorem Nat.beq_refl (a : Nat) : Nat.beq a a = true := BEq.rfl
@[simp] theorem Nat.beq_eq {a b : Nat} : (Nat.beq a b = true) = (a = b) := propext ⟨fun h => eq_of_beq h, fun h => by rw [h]; exact BEq.rfl⟩
theorem Nat.le_of_ble_eq_true {a b : Nat} (h : Nat.ble a b = true) : a ≤ b := by
 have : a - b = 0 := eq_of_beq h
 omega
@[simp] theorem Nat.blt_eq {a b : Nat} : (Nat.blt a b = true) = (a < b) := propext ⟨fun h => by
  have : a + 1 - b = 0 := eq_of_beq h
  omega, fun h => beq_iff_eq.2 (show a + 1 - b = 0 by omega)⟩
inductive AV : Type 1 where
 | any
 | undef
 | int (k : IntKind) (n : Unit → Int)
 | bo (b : Bool)
 | str (s : Unit → ByteArray)
 | nil
 | emp
 | sl {α : Type} (sz : Nat) (enc : α → Nat → AV) (xs : Unit → List α)
 | own (b : Nat) (i : Unit → Nat) (j : Nat)
 | ref (b : Nat) (off n : Unit → Nat)
 | ptr (b j : Nat)
 | eptr (b : Nat) (i : Unit → Nat) (j : Nat)
 | rptr (cs : List AV)
 | agg (cs : List AV)
 | tup (vs : List AV)
 | clo (f : Nat) (caps : List AV)
 | lsl (es : List AV)
inductive Blk : Type 1 where
 | lit (sz : Nat) (cs : List AV)
 | row {α : Type} (sz : Nat) (enc : α → Nat → AV) (xs : Unit → List α) (fx : Bool)
inductive Deep (w : World) : AV → Value → List Nat → Prop
 | int (k : IntKind) (n : Unit → Int) : Deep w (.int k n) (.int k (n ())) []
 | bo (b : Bool) : Deep w (.bo b) (.bool b) []
 | str (s : Unit → ByteArray) : Deep w (.str s) (.string (s ())) []
 | nil : Deep w .nil (.slice none 0 0) []
 | emp (A : Option Addr) : Deep w .emp (.slice A 0 0) []
 | sl0 {α : Type} {sz : Nat} {enc : α → Nat → AV} {xs : Unit → List α} (A : Option Addr) (h : xs () = []) : Deep w (.sl sz enc xs) (.slice A 0 0) []
 | sl {α : Type} {sz : Nat} {enc : α → Nat → AV} {xs : Unit → List α} {g off cap : Nat} {cs : Array Value} {t : TypeId} {fr : Nat × Nat} (u : Nat → Nat → Value) (F : Nat → Nat → List Nat)
  (hn : (xs ()).length ≤ cap) (hg : w.heap[g]? = some (.cells cs t fr)) (hr : off + cap * sz ≤ cs.size)
  (hu : ∀ i x, (xs ())[i]? = some x → ∀ j, j < sz → cs[off + i * sz + j]? = some (u i j))
  (hd : ∀ i x, (xs ())[i]? = some x → ∀ j, j < sz → Deep w (enc x j) (u i j) (F i j)) :
  Deep w (.sl sz enc xs) (.slice (some ⟨g, off, none⟩) (xs ()).length cap) (g :: (List.range (xs ()).length).flatMap fun i => (List.range sz).flatMap (F i))
 | lsl {es : List AV} {g off cap : Nat} {cs : Array Value} {t : TypeId} {fr : Nat × Nat} (u : Nat → Value) (F : Nat → List Nat)
  (hn : es.length ≤ cap) (hg : w.heap[g]? = some (.cells cs t fr)) (hr : off + cap ≤ cs.size)
  (hu : ∀ i x, es[i]? = some x → cs[off + i]? = some (u i))
  (hd : ∀ i x, es[i]? = some x → Deep w x (u i) (F i)) :
  Deep w (.lsl es) (.slice (some ⟨g, off, none⟩) es.length cap) (g :: (List.range es.length).flatMap F)
 | rptr {cs : List AV} {g off : Nat} {cells : Array Value} {t : TypeId} {fr : Nat × Nat} (u : Nat → Value) (F : Nat → List Nat) (hg : w.heap[g]? = some (.cells cells t fr))
  (hu : ∀ j x, cs[j]? = some x → cells[off + j]? = some (u j))
  (hd : ∀ j x, cs[j]? = some x → Deep w x (u j) (F j)) :
  Deep w (.rptr cs) (.pointer (some ⟨g, off, none⟩)) (g :: (List.range cs.length).flatMap F)
 | agg {cs : List AV} {us : Array Value} (F : Nat → List Nat) (hl : us.size = cs.length)
  (hd : ∀ i x, cs[i]? = some x → Deep w x (us.getD i undef) (F i)) : Deep w (.agg cs) (.agg us) ((List.range cs.length).flatMap F)
 | tup {cs : List AV} {us : Array Value} (F : Nat → List Nat) (hl : us.size = cs.length)
  (hd : ∀ i x, cs[i]? = some x → Deep w x (us.getD i undef) (F i)) : Deep w (.tup cs) (.tuple us) ((List.range cs.length).flatMap F)
 | clo {f : Nat} {cs : List AV} {us : Array Value} (F : Nat → List Nat) (hl : us.size = cs.length)
  (hd : ∀ i x, cs[i]? = some x → Deep w x (us.getD i undef) (F i)) : Deep w (.clo f cs) (.func (.func f) #[] us) ((List.range cs.length).flatMap F)
theorem mem_flat {F : Nat → List Nat} {n i g : Nat} (hi : i < n) (h : g ∈ F i) : g ∈ (List.range n).flatMap F :=
 List.mem_flatMap.2 ⟨i, List.mem_range.2 hi, h⟩
theorem lt_of_get {α : Type _} {l : List α} {i : Nat} {x : α} (h : l[i]? = some x) : i < l.length := (List.getElem?_eq_some_iff.1 h).1
theorem Deep.keep {w w' : World} {x : AV} {v : Value} {fp : List Nat} (h : Deep w x v fp) (hk : ∀ g ∈ fp, w'.heap[g]? = w.heap[g]?) : Deep w' x v fp := by
 induction h with
 | int k n => exact .int k n
 | bo b => exact .bo b
 | str s => exact .str s
 | nil => exact .nil
 | emp A => exact .emp A
 | sl0 A h => exact .sl0 A h
 | @sl α sz enc xs g off cap cs t fr u F hn hg hr hu hd ih =>
   refine .sl u F hn ((hk _ (List.mem_cons_self ..)).trans hg) hr hu (fun i x hx j hj => ih i x hx j hj (fun q hq => hk q (List.mem_cons_of_mem _ ?_)))
   exact mem_flat (lt_of_get hx) (mem_flat hj hq)
 | @lsl es g off cap cs t fr u F hn hg hr hu hd ih =>
   exact .lsl u F hn ((hk _ (List.mem_cons_self ..)).trans hg) hr hu (fun i x hx => ih i x hx (fun q hq => hk q (List.mem_cons_of_mem _ (mem_flat (lt_of_get hx) hq))))
 | @rptr cs g off cells t fr u F hg hu hd ih =>
   exact .rptr u F ((hk _ (List.mem_cons_self ..)).trans hg) hu (fun i x hx => ih i x hx (fun q hq => hk q (List.mem_cons_of_mem _ (mem_flat (lt_of_get hx) hq))))
 | agg F hl hd ih => exact .agg F hl (fun i x hx => ih i x hx (fun q hq => hk q (mem_flat (lt_of_get hx) hq)))
 | tup F hl hd ih => exact .tup F hl (fun i x hx => ih i x hx (fun q hq => hk q (mem_flat (lt_of_get hx) hq)))
 | clo F hl hd ih => exact .clo F hl (fun i x hx => ih i x hx (fun q hq => hk q (mem_flat (lt_of_get hx) hq)))
theorem Deep.bound {w : World} {x : AV} {v : Value} {fp : List Nat} (h : Deep w x v fp) : ∀ g ∈ fp, g < w.heap.size := by
 have lt : ∀ {g : Nat} {o : Obj}, w.heap[g]? = some o → g < w.heap.size := fun h => (Array.getElem?_eq_some_iff.1 h).1
 induction h with
 | int k n => intro g hg; cases hg
 | bo b => intro g hg; cases hg
 | str s => intro g hg; cases hg
 | nil => intro g hg; cases hg
 | emp A => intro g hg; cases hg
 | sl0 A h => intro g hg; cases hg
 | sl u F hn hg hr hu hd ih =>
   intro q hq
   rcases List.mem_cons.1 hq with rfl | hq
   ·exact lt hg
   ·obtain ⟨i, hi, hq⟩ := List.mem_flatMap.1 hq
    obtain ⟨j, hj, hq⟩ := List.mem_flatMap.1 hq
    exact ih i _ (List.getElem?_eq_getElem (List.mem_range.1 hi)) j (List.mem_range.1 hj) q hq
 | lsl u F hn hg hr hu hd ih =>
   intro q hq
   rcases List.mem_cons.1 hq with rfl | hq
   ·exact lt hg
   ·obtain ⟨i, hi, hq⟩ := List.mem_flatMap.1 hq
    exact ih i _ (List.getElem?_eq_getElem (List.mem_range.1 hi)) q hq
 | rptr u F hg hu hd ih =>
   intro q hq
   rcases List.mem_cons.1 hq with rfl | hq
   ·exact lt hg
   ·obtain ⟨i, hi, hq⟩ := List.mem_flatMap.1 hq
    exact ih i _ (List.getElem?_eq_getElem (List.mem_range.1 hi)) q hq
 | agg F hl hd ih =>
   intro q hq
   obtain ⟨i, hi, hq⟩ := List.mem_flatMap.1 hq
   exact ih i _ (List.getElem?_eq_getElem (List.mem_range.1 hi)) q hq
 | tup F hl hd ih =>
   intro q hq
   obtain ⟨i, hi, hq⟩ := List.mem_flatMap.1 hq
   exact ih i _ (List.getElem?_eq_getElem (List.mem_range.1 hi)) q hq
 | clo F hl hd ih =>
   intro q hq
   obtain ⟨i, hi, hq⟩ := List.mem_flatMap.1 hq
   exact ih i _ (List.getElem?_eq_getElem (List.mem_range.1 hi)) q hq
theorem Deep.under {w w' : World} {x : AV} {v : Value} {fp : List Nat} (h : Deep w x v fp) (hb : Below w.heap.size w w') : Deep w' x v fp :=
 h.keep (fun g hg => hb.block g (h.bound g hg))
structure Pin where
 place : Option (Nat × Nat)
 fp : List Nat
 sz : Nat
 len : Nat
structure Base where
 w : World
 mine : Nat → Prop
 pin : Nat → Option Pin
 more : Nat → Prop
 lpin : Nat → Option (Nat × Nat)
 ban : Nat → Prop
def Base.free (B : Base) (g : Nat) : Prop := B.w.heap.size ≤ g ∨ B.mine g ∨ B.more g
def Base.hot (B : Base) (g : Nat) : Prop := B.w.heap.size ≤ g ∨ B.mine g
theorem Base.hot.free {B : Base} {g : Nat} (h : B.hot g) : B.free g := h.elim .inl (fun h => .inr (.inl h))
structure Kept (B : Base) (w : World) : Prop where
 os : w.os = B.w.os
 tape : w.tape = B.w.tape
 output : w.output = B.w.output
 size : B.w.heap.size ≤ w.heap.size
 block : ∀ k, k < B.w.heap.size → ¬ B.mine k → w.heap[k]? = B.w.heap[k]?
 shape : ∀ g, B.mine g → ∃ cs t cs', B.w.heap[g]? = some (.cells cs t (0, 0)) ∧ w.heap[g]? = some (.cells cs' t (0, 0)) ∧ cs'.size = cs.size
structure Mod (B : Base) (w w' : World) : Prop where
 os : w'.os = w.os
 tape : w'.tape = w.tape
 output : w'.output = w.output
 size : w.heap.size ≤ w'.heap.size
 block : ∀ k, k < B.w.heap.size → ¬ B.mine k → w'.heap[k]? = w.heap[k]?
 shape : ∀ g cs t, B.mine g → w.heap[g]? = some (.cells cs t (0, 0)) → ∃ cs', w'.heap[g]? = some (.cells cs' t (0, 0)) ∧ cs'.size = cs.size
theorem Kept.refl (w : World) (m : Nat → Prop) (p : Nat → Option Pin) (r : Nat → Prop) (l : Nat → Option (Nat × Nat)) {b : Nat → Prop} (hm : ∀ g, m g → ∃ cs t, w.heap[g]? = some (.cells cs t (0, 0))) : Kept ⟨w, m, p, r, l, b⟩ w := ⟨rfl, rfl, rfl, Nat.le_refl _, fun _ _ _ => rfl, fun g hg => by
 obtain ⟨cs, t, h⟩ := hm g hg
 exact ⟨cs, t, cs, h, h, rfl⟩⟩
theorem Kept.mod {B : Base} {w w' : World} (h : Kept B w) (h' : Mod B w w') : Kept B w' := ⟨h'.os.trans h.os, h'.tape.trans h.tape, h'.output.trans h.output, Nat.le_trans h.size h'.size, fun k h1 h2 => (h'.block k h1 h2).trans (h.block k h1 h2), fun g hg => by
 obtain ⟨cs, t, cs1, h1, h2, h3⟩ := h.shape g hg
 obtain ⟨cs2, h4, h5⟩ := h'.shape g cs1 t hg h2
 exact ⟨cs, t, cs2, h1, h4, h5.trans h3⟩⟩
theorem Mod.below {B : Base} {w w' : World} (h : Below w.heap.size w w') (hn : B.w.heap.size ≤ w.heap.size) : Mod B w w' := ⟨h.os, h.tape, h.output, h.size, fun k h1 _ => h.block k (by omega), fun g cs t _ hg => ⟨cs, (h.block g (Array.getElem?_eq_some_iff.1 hg).1).trans hg, rfl⟩⟩
theorem Mod.refl {B : Base} (w : World) : Mod B w w := ⟨rfl, rfl, rfl, Nat.le_refl _, fun _ _ _ => rfl, fun g cs t _ hg => ⟨cs, hg, rfl⟩⟩
theorem Kept.grow {B : Base} {w w' : World} (h : Kept B w) (h' : Below w.heap.size w w') : Kept B w' := h.mod (.below h' h.size)
theorem Kept.below {w w' : World} {p : Nat → Option Pin} {r : Nat → Prop} {l : Nat → Option (Nat × Nat)} {b : Nat → Prop} (h : Kept ⟨w, fun _ => False, p, r, l, b⟩ w') : Below w.heap.size w w' := ⟨h.os, h.tape, h.output, h.size, fun k hk => h.block k hk (fun h => h)⟩
theorem Kept.hot {B : Base} {w : World} (h : Kept B w) {g : Nat} (hg : w.heap.size ≤ g) : B.hot g := .inl (Nat.le_trans h.size hg)
theorem Kept.free {B : Base} {w : World} (h : Kept B w) {g : Nat} (hg : w.heap.size ≤ g) : B.free g := (h.hot hg).free
structure DeepB (B : Base) (x : AV) (v : Value) (fp : List Nat) : Prop where
 deep : Deep B.w x v fp
 old : ∀ g ∈ fp, ¬ B.mine g ∧ ¬ B.ban g
theorem DeepB.under {B : Base} {x : AV} {v : Value} {fp : List Nat} {w : World} (h : DeepB B x v fp) (hk : Kept B w) : Deep w x v fp :=
 h.deep.keep (fun g hg => hk.block g (h.deep.bound g hg) (h.old g hg).1)
structure Env : Type 1 where
 w0 : Base
 w : World
 at_ : Nat → Option (Nat × Nat)
 st : Nat → Option Blk
def RefAt (E : Env) (b : Nat) (off n len sz : Nat) (v : Value) : Prop :=
 off + n ≤ len ∧ match E.at_ b with
  | none => ∃ A, v = .slice A 0 0
  | some (g, base) => ∃ A cap cs t, v = .slice A n cap ∧ n ≤ cap ∧ E.w.heap[g]? = some (.cells cs t (0, 0)) ∧ (cap = 0 ∨ (A = some ⟨g, base + off * sz, none⟩ ∧ base + (off + cap) * sz ≤ cs.size))
def Heads (w w' : World) (g : Nat) : Prop := ∀ cs' t, w'.heap[g]? = some (.cells cs' t (0, 0)) → ∃ cs, w.heap[g]? = some (.cells cs t (0, 0)) ∧ ∀ (k : Nat) (A : Option Addr) (n c : Nat), cs'[k]? = some (.slice A n c) → cs[k]? = some (.slice A n c)
theorem Heads.refl (w : World) (g : Nat) : Heads w w g := fun cs _ h => ⟨cs, h, fun _ _ _ _ h => h⟩
theorem Heads.trans {w w1 w2 : World} {g : Nat} (h : Heads w w1 g) (h' : Heads w1 w2 g) : Heads w w2 g := fun cs t hc => by
 obtain ⟨cs1, h1, h2⟩ := h' cs t hc
 obtain ⟨cs2, h3, h4⟩ := h cs1 t h1
 exact ⟨cs2, h3, fun k A n c hk => h4 k A n c (h2 k A n c hk)⟩
theorem Heads.of_eq {w w' : World} {g : Nat} (h : w'.heap[g]? = w.heap[g]?) : Heads w w' g := fun cs _ hc => ⟨cs, h.symm.trans hc, fun _ _ _ _ h => h⟩
theorem Heads.on {w w1 w2 : World} {g : Nat} (h : Heads w w1 g) (h' : w2.heap[g]? = w1.heap[g]?) : Heads w w2 g := h.trans (.of_eq h')
inductive Loc (E : Env) : AV → Value → Prop
 | any (v : Value) : Loc E .any v
 | undef : Loc E .undef Go.undef
 | int (k : IntKind) (n : Unit → Int) : Loc E (.int k n) (.int k (n ()))
 | bo (b : Bool) : Loc E (.bo b) (.bool b)
 | str (s : Unit → ByteArray) : Loc E (.str s) (.string (s ()))
 | nil : Loc E .nil (.slice none 0 0)
 | emp (A : Option Addr) : Loc E .emp (.slice A 0 0)
 | sl {α : Type} {sz : Nat} {enc : α → Nat → AV} {xs : Unit → List α} {v : Value} {fp : List Nat} (h : DeepB E.w0 (.sl sz enc xs) v fp) : Loc E (.sl sz enc xs) v
 | lsl {es : List AV} {v : Value} {fp : List Nat} (h : DeepB E.w0 (.lsl es) v fp) : Loc E (.lsl es) v
 | rptr {cs : List AV} {v : Value} {fp : List Nat} (h : DeepB E.w0 (.rptr cs) v fp) : Loc E (.rptr cs) v
 | ref {α : Type} {sz : Nat} {enc : α → Nat → AV} {xs : Unit → List α} {fx : Bool} {b : Nat} {off n : Unit → Nat} {v : Value}
  (hb : E.st b = some (.row sz enc xs fx)) (hr : RefAt E b (off ()) (n ()) (xs ()).length sz v) : Loc E (.ref b off n) v
 | refl {sz : Nat} {cs : List AV} {b : Nat} {off n : Unit → Nat} {v : Value}
  (hb : E.st b = some (.lit sz cs)) (hr : RefAt E b (off ()) (n ()) (cs.length / sz) sz v) : Loc E (.ref b off n) v
 | ptr {sz : Nat} {cs : List AV} {b j g base : Nat} (hb : E.st b = some (.lit sz cs)) (ha : E.at_ b = some (g, base)) : Loc E (.ptr b j) (.pointer (some ⟨g, base + j, none⟩))
 | eptr {α : Type} {sz : Nat} {enc : α → Nat → AV} {xs : Unit → List α} {fx : Bool} {b : Nat} {i : Unit → Nat} {j g base : Nat}
  (hb : E.st b = some (.row sz enc xs fx)) (ha : E.at_ b = some (g, base)) (hi : i () < (xs ()).length) (hj : j ≤ sz) : Loc E (.eptr b i j) (.pointer (some ⟨g, base + i () * sz + j, none⟩))
 | own {b : Nat} {i : Unit → Nat} {j g base : Nat} {p : Pin} {A : Option Addr} {n c : Nat} {cs : Array Value} {t : TypeId} (hp : E.w0.pin b = some p) (hl : p.place = some (g, base)) (hi : i () < p.len) (hg : E.w0.w.heap[g]? = some (.cells cs t (0, 0))) (hv : cs[base + i () * p.sz + j]? = some (.slice A n c)) : Loc E (.own b i j) (.slice A n c)
 | agg {cs : List AV} {us : Array Value} (hl : us.size = cs.length) (hd : ∀ i x, cs[i]? = some x → Loc E x (us.getD i Go.undef)) : Loc E (.agg cs) (.agg us)
 | tup {cs : List AV} {us : Array Value} (hl : us.size = cs.length) (hd : ∀ i x, cs[i]? = some x → Loc E x (us.getD i Go.undef)) : Loc E (.tup cs) (.tuple us)
 | clo {f : Nat} {cs : List AV} {us : Array Value} (hl : us.size = cs.length) (hd : ∀ i x, cs[i]? = some x → Loc E x (us.getD i Go.undef)) : Loc E (.clo f cs) (.func (.func f) #[] us)
inductive Alike : Blk → Blk → Prop
 | lit {sz : Nat} {cs cs' : List AV} (h : cs'.length = cs.length) : Alike (.lit sz cs) (.lit sz cs')
 | row {α : Type} {sz : Nat} {enc : α → Nat → AV} {xs xs' : Unit → List α} {fx : Bool} (h : (xs' ()).length = (xs ()).length) : Alike (.row sz enc xs fx) (.row sz enc xs' fx)
theorem Alike.refl (b : Blk) : Alike b b := by
 cases b
 ·exact .lit rfl
 ·exact .row rfl
structure Stays (E E' : Env) (b : Nat) (blk : Blk) : Prop where
 st : ∃ blk', E'.st b = some blk' ∧ Alike blk blk'
 at_ : E'.at_ b = E.at_ b
 size : ∀ g base cs t, E.at_ b = some (g, base) → E.w.heap[g]? = some (.cells cs t (0, 0)) → ∃ cs', E'.w.heap[g]? = some (.cells cs' t (0, 0)) ∧ cs'.size = cs.size
theorem RefAt.move {E E' : Env} {b off n len sz : Nat} {v : Value} {blk : Blk} (h : RefAt E b off n len sz v) (hs : Stays E E' b blk) : RefAt E' b off n len sz v := by
 obtain ⟨h1, h2⟩ := h
 refine ⟨h1, ?_⟩
 rw [hs.at_]
 cases ha : E.at_ b with
 | none => rw [ha] at h2; exact h2
 | some p =>
   obtain ⟨g, base⟩ := p
   rw [ha] at h2
   obtain ⟨A, cap, cs, t, hv, hn, hg, hr⟩ := h2
   obtain ⟨cs', hg', hsz⟩ := hs.size g base cs t ha hg
   exact ⟨A, cap, cs', t, hv, hn, hg', by rw [hsz]; exact hr⟩
theorem Loc.move {E E' : Env} {x : AV} {v : Value} (h : Loc E x v) (h0 : E'.w0 = E.w0) (hs : ∀ b blk, E.st b = some blk → Stays E E' b blk) : Loc E' x v := by
 induction h with
 | any v => exact .any v
 | undef => exact .undef
 | int k n => exact .int k n
 | bo b => exact .bo b
 | str s => exact .str s
 | nil => exact .nil
 | emp A => exact .emp A
 | sl h => exact .sl (h0 ▸ h)
 | lsl h => exact .lsl (h0 ▸ h)
 | rptr h => exact .rptr (h0 ▸ h)
 | ref hb hr =>
   have s := hs _ _ hb
   obtain ⟨blk', hb', ha⟩ := s.st
   cases ha with
   | row hl => exact .ref hb' (by rw [hl]; exact hr.move s)
 | refl hb hr =>
   have s := hs _ _ hb
   obtain ⟨blk', hb', ha⟩ := s.st
   cases ha with
   | lit hl => exact .refl hb' (by rw [hl]; exact hr.move s)
 | ptr hb ha =>
   have s := hs _ _ hb
   obtain ⟨blk', hb', hk⟩ := s.st
   cases hk with
   | lit hl => exact .ptr hb' (by rw [s.at_]; exact ha)
 | eptr hb ha hi hj =>
   have s := hs _ _ hb
   obtain ⟨blk', hb', hk⟩ := s.st
   cases hk with
   | row hl => exact .eptr hb' (by rw [s.at_]; exact ha) (by rw [hl]; exact hi) hj
 | own hp hl hi hg hv => exact .own (h0 ▸ hp) hl hi (h0 ▸ hg) hv
 | agg hl hd ih => exact .agg hl ih
 | tup hl hd ih => exact .tup hl ih
 | clo hl hd ih => exact .clo hl ih
mutual
def scrub (k : Nat → Bool) : AV → AV
 | .ref b o n => bif k b then .any else .ref b o n
 | .ptr b j => bif k b then .any else .ptr b j
 | .eptr b i j => bif k b then .any else .eptr b i j
 | .agg cs => .agg (scrubL k cs)
 | .tup cs => .tup (scrubL k cs)
 | .clo f cs => .clo f (scrubL k cs)
 | .any => .any
 | .undef => .undef
 | .int q n => .int q n
 | .bo b => .bo b
 | .str s => .str s
 | .nil => .nil
 | .emp => .emp
 | .sl sz enc xs => .sl sz enc xs
 | .own b i j => .own b i j
 | .rptr cs => .rptr cs
 | .lsl cs => .lsl cs
def scrubL (k : Nat → Bool) : List AV → List AV
 | [] => []
 | x :: r => scrub k x :: scrubL k r
end
theorem scrubL_map (k : Nat → Bool) : ∀ l, scrubL k l = l.map (scrub k)
 | [] => rfl
 | x :: r => by rw [scrubL, scrubL_map k r]; rfl
theorem Loc.scrubbed {E E' : Env} {x : AV} {v : Value} {k : Nat → Bool} (h : Loc E x v) (h0 : E'.w0 = E.w0) (hs : ∀ b blk, k b = false → E.st b = some blk → Stays E E' b blk) : Loc E' (scrub k x) v := by
 have parts : ∀ {cs : List AV} {us : Array Value}, (∀ i x, cs[i]? = some x → Loc E' (scrub k x) (us.getD i Go.undef)) → ∀ i x, (scrubL k cs)[i]? = some x → Loc E' x (us.getD i Go.undef) := by
  intro cs us ih i x hx
  rw [scrubL_map, List.getElem?_map, Option.map_eq_some_iff] at hx
  obtain ⟨y, hy, rfl⟩ := hx
  exact ih i y hy
 have len : ∀ cs : List AV, (scrubL k cs).length = cs.length := fun cs => by rw [scrubL_map, List.length_map]
 induction h with
 | any v => exact .any v
 | undef => exact .undef
 | int k n => exact .int k n
 | bo b => exact .bo b
 | str s => exact .str s
 | nil => exact .nil
 | emp A => exact .emp A
 | sl h => exact .sl (h0 ▸ h)
 | lsl h => exact .lsl (h0 ▸ h)
 | rptr h => exact .rptr (h0 ▸ h)
 | @ref α sz enc xs fx b off n v hb hr =>
   rw [scrub]
   cases hk : k b with
   | true => exact .any v
   | false =>
     have s := hs _ _ hk hb
     obtain ⟨blk', hb', ha⟩ := s.st
     cases ha with
     | row hl => exact .ref hb' (by rw [hl]; exact hr.move s)
 | @refl sz cs b off n v hb hr =>
   rw [scrub]
   cases hk : k b with
   | true => exact .any v
   | false =>
     have s := hs _ _ hk hb
     obtain ⟨blk', hb', ha⟩ := s.st
     cases ha with
     | lit hl => exact .refl hb' (by rw [hl]; exact hr.move s)
 | @ptr sz cs b j g base hb ha =>
   rw [scrub]
   cases hk : k b with
   | true => exact .any _
   | false =>
     have s := hs _ _ hk hb
     obtain ⟨blk', hb', hk⟩ := s.st
     cases hk with
     | lit hl => exact .ptr hb' (by rw [s.at_]; exact ha)
 | @eptr α sz enc xs fx b i j g base hb ha hi hj =>
   rw [scrub]
   cases hk : k b with
   | true => exact .any _
   | false =>
     have s := hs _ _ hk hb
     obtain ⟨blk', hb', hk⟩ := s.st
     cases hk with
     | row hl => exact .eptr hb' (by rw [s.at_]; exact ha) (by rw [hl]; exact hi) hj
 | own hp hl hi hg hv => exact .own (h0 ▸ hp) hl hi (h0 ▸ hg) hv
 | agg hl hd ih => rw [scrub]; exact .agg (by rw [len]; exact hl) (parts ih)
 | tup hl hd ih => rw [scrub]; exact .tup (by rw [len]; exact hl) (parts ih)
 | clo hl hd ih => rw [scrub]; exact .clo (by rw [len]; exact hl) (parts ih)
inductive BlkRep (E : Env) (b : Nat) : Blk → List Nat → Prop
 | lit {sz : Nat} {cs : List AV} {g base : Nat} {cells : Array Value} {t : TypeId} (ha : E.at_ b = some (g, base)) (hg : E.w.heap[g]? = some (.cells cells t (0, 0)))
  (hc : ∀ j x, cs[j]? = some x → ∃ u, cells[base + j]? = some u ∧ Loc E x u) : BlkRep E b (.lit sz cs) []
 | row0 {α : Type} {sz : Nat} {enc : α → Nat → AV} {xs : Unit → List α} {fx : Bool} (ha : E.at_ b = none) (h : xs () = []) : BlkRep E b (.row sz enc xs fx) []
 | row {α : Type} {sz : Nat} {enc : α → Nat → AV} {xs : Unit → List α} {fx : Bool} {g base : Nat} {cells : Array Value} {t : TypeId} (F : Nat → Nat → List Nat)
  (ha : E.at_ b = some (g, base)) (hg : E.w.heap[g]? = some (.cells cells t (0, 0))) (hr : base + (xs ()).length * sz ≤ cells.size)
  (hc : ∀ i x, (xs ())[i]? = some x → ∀ j, j < sz → ∃ u, cells[base + i * sz + j]? = some u ∧ Deep E.w (enc x j) u (F i j)) :
  BlkRep E b (.row sz enc xs fx) ((List.range (xs ()).length).flatMap fun i => (List.range sz).flatMap (F i))
def ownOf : Option (Nat × Nat) → List Nat → List Nat
 | none, _ => []
 | some p, fp => p.1 :: fp
def Env.own (E : Env) (FP : Nat → List Nat) (b : Nat) : List Nat := ownOf (E.at_ b) (FP b)
def Fresh (w : World) (g : Nat) : Prop := ∃ cs t, w.heap[g]? = some (.cells cs t (0, 0))
structure Roots (E : Env) : Prop where
 hot : ∀ b blk, E.st b = some blk → ∀ g base, E.at_ b = some (g, base) → E.w0.hot g
 lits : ∀ b q, E.w0.lpin b = some q → E.at_ b = some q ∧ Heads E.w0.w E.w q.1 ∧ ∃ cs, E.st b = some (.lit 99 cs)
 lfx : ∀ b cs, E.st b = some (.lit 99 cs) → ∃ q, E.w0.lpin b = some q
structure Good (E : Env) (FP : Nat → List Nat) : Prop where
 below : Kept E.w0 E.w
 rep : ∀ b blk, E.st b = some blk → BlkRep E b blk (FP b)
 nodup : ∀ b blk, E.st b = some blk → (E.own FP b).Nodup
 base : ∀ b blk, E.st b = some blk → ∀ g ∈ E.own FP b, E.w0.free g
 apart : ∀ b b' blk blk', E.st b = some blk → E.st b' = some blk' → b ≠ b' → ∀ g ∈ E.own FP b, g ∉ E.own FP b'
 fresh : ∀ b blk, E.st b = some blk → ∀ g ∈ E.own FP b, Fresh E.w g
 pins : ∀ b p, E.w0.pin b = some p → E.at_ b = p.place ∧ FP b = p.fp ∧ (0 < p.len → ∀ g base, p.place = some (g, base) → Heads E.w0.w E.w g) ∧ ∃ (α : Type) (enc : α → Nat → AV) (xs : Unit → List α), E.st b = some (.row p.sz enc xs true) ∧ (xs ()).length = p.len
 fxp : ∀ (b : Nat) (α : Type) (sz : Nat) (enc : α → Nat → AV) (xs : Unit → List α), E.st b = some (.row sz enc xs true) → ∃ p, E.w0.pin b = some p
 rt : Roots E
end Go.V
namespace Go.V
open Go Go.RowKit
inductive CK where
 | i | b | s
inductive MOp where
 | mv (x : Operand)
 | pick (c a b : Operand)
 | not (x : Operand)
 | bin (op : BinOp) (x y : Operand)
 | bbin (op : BinOp) (x y : Operand)
 | nbin (op : BinOp) (x y : Operand)
 | aeq (neg : Bool) (ks : List CK) (x y : Operand)
 | box (x : Operand)
 | alloc (zs : List Value)
 | fa (x : Operand) (off : Nat)
 | fld (x : Operand) (off n : Nat) (ag : Bool)
 | ia (x i : Operand) (sz : Nat)
 | sidx (x i : Operand)
 | ld (x : Operand) (n : Nat) (ag : Bool)
 | sto (x y : Operand) (n : Nat)
 | slc (s : Bool) (x : Operand) (lo hi mx : Option Operand) (sz : Nat)
 | len (s : Bool) (x : Operand)
 | mx (isMax : Bool) (x y : Operand)
 | bld (zs : List Value) (parts : List (Nat × Nat × Operand))
 | bsl (sz len : Nat) (zs : List Value) (parts : List (Nat × Operand))
 | mks (sz bytes : Nat) (zs : List Value) (n c : Operand)
 | app (x y : Operand) (sz bytes : Nat)
 | conv (k : IntKind) (x : Operand)
 | ext (x : Operand) (i : Nat)
 | call (f : Nat) (args : List Operand)
 | callm (f : Nat) (args : List Operand)
 | callv (f : Operand) (args : List Operand)
 | mkf (f : Nat) (caps : List Operand)
 | nck (x : Operand)
 | slf (x : Operand) (lo hi : Option Operand) (sz : Nat)
 | faf (x : Operand) (off : Nat)
 | cap (x : Operand)
 | appn (x y : Operand) (sz bytes : Nat)
 | clr (x : Operand) (sz : Nat) (zs : List Value)
 | aidx (x i : Operand) (len : Nat)
 | iaa (x i : Operand) (len sz : Nat)
 | appz (x y : Operand) (sz bytes : Nat) (zs : List Value)
 | bit (op : BinOp) (x y : Operand)
 | ldc (x : Operand) (n : Nat) (ag : Bool)
 | stoc (x y : Operand) (n : Nat)
 | callp (f : Nat) (args : List Operand)
 | calln (f : Nat) (args : List Operand)
 | ins (f : Nat) (x i y : Operand)
 | cst (x : Operand)
 | neg (x : Operand)
 | no
structure MOper where
 dst : Option Nat
 op : MOp
 gd : Option (Nat × Bool)
 hide : List Nat
inductive Ord where
 | fin
 | bad (n : Nat)
 | step (k : Nat) (o : MOper) (next : Unit → Ord)
 | both (a b : Unit → Ord)
inductive MCode where
 | skip
 | region (pre ops : List MOper) (live : List Nat)
 | regionA (n : Nat) (ord : Unit → Ord) (live : List Nat)
 | seq (a b : Unit → MCode)
 | cond (c : Operand) (t e : Unit → MCode)
 | block (id : Nat) (body : Unit → MCode)
 | loop (body : Unit → MCode)
 | exit (id : Nat)
 | ret
structure St : Type 1 where
 tm : List (Nat × AV)
 st : List (Nat × Blk)
 nx : Nat
inductive Cmp where
 | lt | le | eq
inductive Tree : Type 1 where
 | done (r : AV)
 | bad (why : Nat)
 | cmp (o : Cmp) (a b : Unit → Int) (t e : Unit → Tree)
 | ari (k : IntKind) (v : Unit → Int) (c : (Unit → Int) → Tree)
 | test (b : Unit → Bool) (t e : Unit → Tree)
 | need (p : Unit → Prop) (c : Unit → Tree)
 | may (p : Unit → Prop) (c : Unit → Tree) (d : Unit → Tree)
 | idx {α : Type} (xs : Unit → List α) (i : Unit → Nat) (c : α → Tree)
 | typ (cells : List AV) (c : (α : Type) → (enc : α → Nat → AV) → α → Tree)
 | typed {α : Type} (sz : Nat) (enc : α → Nat → AV) (cells : List AV) (c : α → Tree)
 | same {α β : Type} (sz : Nat) (enc : α → Nat → AV) (enc' : β → Nat → AV) (ys : Unit → List β) (c : (Unit → List α) → Tree)
 | call (f : Nat) (args : List AV) (c : AV → Tree)
 | callm (f : Nat) (args bs : List AV) (c : AV → List AV → Tree)
 | callp (f : Nat) (args : List AV) (bs : List (List AV)) (c : AV → List (List AV) → Tree)
 | calln (f : Nat) (args : List AV) (c : List AV → Tree)
 | ins (f sz : Nat) (c : Unit → Tree)
 | loop (s : St) (body : St → Tree)
 | again (s : St)
 | pop (t : Unit → Tree)
def ofVal : Value → AV
 | .int k n => .int k (fun _ => n)
 | .bool b => .bo b
 | .string s => .str (fun _ => s)
 | .slice none n c => bif n == 0 && c == 0 then .nil else .any
 | _ => .any
def slot (t : Nat) : List (Nat × AV) → AV
 | [] => .any
 | p :: r => bif Nat.beq p.1 t then p.2 else slot t r
def ev (tm : List (Nat × AV)) : Operand → AV
 | .tmp t => slot t tm
 | .const v => ofVal v
 | .func f => .clo f []
 | .global _ => .any
def look (b : Nat) : List (Nat × Blk) → Option Blk
 | [] => none
 | p :: r => bif Nat.beq p.1 b then some p.2 else look b r
def setB (b : Nat) (k : Blk) : List (Nat × Blk) → List (Nat × Blk)
 | [] => []
 | p :: r => bif Nat.beq p.1 b then (b, k) :: r else p :: setB b k r
def drop_ (b : Nat) : List (Nat × Blk) → List (Nat × Blk)
 | [] => []
 | p :: r => bif Nat.beq p.1 b then drop_ b r else p :: drop_ b r
def cellOk : AV → Bool
 | .any | .undef | .agg _ | .tup _ | .own .. => false
 | _ => true
def flat : AV → Bool
 | .int .. | .bo _ | .str _ | .nil => true
 | _ => false
def sc (x : AV) : AV := bif flat x then x else .any
def flatS : AV → Bool
 | .int .. | .bo _ | .str _ => true
 | _ => false
theorem flatS_flat {x : AV} (h : flatS x = true) : flat x = true := by cases x <;> first | rfl | cases h
theorem flatS_all {l : List AV} (h : l.all flatS = true) : l.all flat = true := List.all_eq_true.2 (fun x hx => flatS_flat (List.all_eq_true.1 h x hx))
def scO (fx : Bool) (b : Nat) (i : Unit → Nat) (j : Nat) (x : AV) : AV := bif flat x then x else match fx, x with
 | true, .sl _ _ _ => .own b i j
 | _, _ => .any
def cellsOf : AV → List AV
 | .agg cs => cs
 | x => [x]
def kindEq : IntKind → IntKind → Bool
 | .i64, .i64 => true
 | .u8, .u8 => true
 | .i32, .i32 => true
 | .u64, .u64 => true
 | .u32, .u32 => true
 | .i16, .i16 => true
 | .u16, .u16 => true
 | .i8, .i8 => true
 | _, _ => false
def cmpT (op : BinOp) (a b : Unit → Int) (k : Bool → Tree) : Tree :=
 match op with
 | .lss => .cmp .lt a b (fun _ => k true) (fun _ => k false)
 | .gtr => .cmp .lt b a (fun _ => k true) (fun _ => k false)
 | .leq => .cmp .le a b (fun _ => k true) (fun _ => k false)
 | .geq => .cmp .le b a (fun _ => k true) (fun _ => k false)
 | .eql => .cmp .eq a b (fun _ => k true) (fun _ => k false)
 | .neq => .cmp .eq a b (fun _ => k false) (fun _ => k true)
 | _ => .bad 1
def fitB : List CK → List AV → List AV → Bool
 | [], _, _ => true
 | .i :: ks, .int p _ :: r, .int q _ :: r' => bif kindEq p q then fitB ks r r' else false
 | .b :: ks, .bo _ :: r, .bo _ :: r' => fitB ks r r'
 | .s :: ks, .str _ :: r, .str _ :: r' => fitB ks r r'
 | _, _, _ => false
def eqT : List CK → List AV → List AV → (Bool → Tree) → Tree
 | [], _, _, k => k true
 | .i :: ks, .int p a :: r, .int q b :: r', k => bif kindEq p q then .cmp .eq a b (fun _ => eqT ks r r' k) (fun _ => k false) else .bad 2
 | .b :: ks, .bo a :: r, .bo b :: r', k => bif (bif a then b else (bif b then false else true)) then eqT ks r r' k else k false
 | .s :: ks, .str a :: r, .str b :: r', k => .test (fun _ => decide (a () = b ())) (fun _ => eqT ks r r' k) (fun _ => k false)
 | _, _, _, _ => .bad 3
def mat (st : List (Nat × Blk)) : Nat → AV → Option AV
 | 0, _ => none
 | _ + 1, .any => none
 | _ + 1, .undef => none
 | _ + 1, .own .. => none
 | _ + 1, .eptr .. => none
 | _ + 1, .int k n => some (.int k n)
 | _ + 1, .bo b => some (.bo b)
 | _ + 1, .str s => some (.str s)
 | _ + 1, .nil => some .nil
 | _ + 1, .emp => some .emp
 | _ + 1, .sl sz enc xs => some (.sl sz enc xs)
 | _ + 1, .lsl es => some (.lsl es)
 | _ + 1, .rptr cs => some (.rptr cs)
 | d + 1, .ref b off n => match look b st with
   | some (.row sz enc xs _) => some (.sl sz enc (fun _ => ((xs ()).drop (off ())).take (n ())))
   | some (.lit sz cs) => bif Nat.beq sz 1 && Nat.beq (off ()) 0 && Nat.beq (n ()) cs.length && Nat.blt 0 cs.length then (cs.mapM (mat st d)).map .lsl else none
   | _ => none
 | d + 1, .ptr b j => match look b st with
   | some (.lit _ cs) => ((cs.drop j).mapM (mat st d)).map .rptr
   | _ => none
 | d + 1, .agg cs => (cs.mapM (mat st d)).map .agg
 | d + 1, .tup cs => (cs.mapM (mat st d)).map .tup
 | d + 1, .clo f cs => (cs.mapM (mat st d)).map (.clo f)
def impL (imp : AV → Nat → AV × List (Nat × Blk) × Nat) : List AV → Nat → List AV × List (Nat × Blk) × Nat
 | [], i => ([], [], i)
 | x :: r, i =>
   let a := imp x i
   let b := impL imp r a.2.2
   (a.1 :: b.1, a.2.1 ++ b.2.1, b.2.2)
def imp : Nat → AV → Nat → AV × List (Nat × Blk) × Nat
 | _, .sl sz enc xs, i => (.ref i (fun _ => 0) (fun _ => (xs ()).length), [(i, .row sz enc xs false)], i + 1)
 | d + 1, .agg cs, i => let a := impL (imp d) cs i; (.agg a.1, a.2.1, a.2.2)
 | d + 1, .tup cs, i => let a := impL (imp d) cs i; (.tup a.1, a.2.1, a.2.2)
 | _, .int k n, i => (.int k n, [], i)
 | _, .bo b, i => (.bo b, [], i)
 | _, .str s, i => (.str s, [], i)
 | _, .nil, i => (.nil, [], i)
 | _, .emp, i => (.emp, [], i)
 | _, _, i => (.any, [], i)
def expL (exp : List (Nat × Blk) → AV → Option (AV × List (Nat × Blk))) : List (Nat × Blk) → List AV → Option (List AV × List (Nat × Blk))
 | st, [] => some ([], st)
 | st, x :: r => match exp st x with
   | some a => match expL exp a.2 r with
     | some b => some (a.1 :: b.1, b.2)
     | none => none
   | none => none
def exp : Nat → List (Nat × Blk) → AV → Option (AV × List (Nat × Blk))
 | _, st, .int k n => some (.int k n, st)
 | _, st, .bo b => some (.bo b, st)
 | _, st, .str s => some (.str s, st)
 | _, st, .nil => some (.nil, st)
 | _, st, .emp => some (.emp, st)
 | _, st, .ref b off n => match look b st with
   | some (.row sz enc xs false) => some (.sl sz enc (fun _ => ((xs ()).drop (off ())).take (n ())), drop_ b st)
   | _ => none
 | d + 1, st, .agg cs => match expL (exp d) st cs with
   | some a => some (.agg a.1, a.2)
   | none => none
 | d + 1, st, .tup cs => match expL (exp d) st cs with
   | some a => some (.tup a.1, a.2)
   | none => none
 | _, _, _ => none
def encI (k : IntKind) (n : Int) : Nat → AV := fun _ => .int k (fun _ => n)
def encS (s : ByteArray) : Nat → AV := fun _ => .str (fun _ => s)
def allInt (k : IntKind) : List AV → Option (Unit → List Int)
 | [] => some (fun _ => [])
 | .int q n :: r => bif kindEq q k then (match allInt k r with | some l => some (fun _ => n () :: l ()) | none => none) else none
 | _ => none
def allStr : List AV → Option (Unit → List ByteArray)
 | [] => some (fun _ => [])
 | .str s :: r => (match allStr r with | some l => some (fun _ => s () :: l ()) | none => none)
 | _ => none
def litBlk (sz : Nat) (cs : List AV) : Blk :=
 match sz, cs with
 | 1, .int k n :: r => match allInt k r with | some l => .row 1 (encI k) (fun _ => n () :: l ()) false | none => .lit sz cs
 | 1, .str s :: r => match allStr r with | some l => .row 1 encS (fun _ => s () :: l ()) false | none => .lit sz cs
 | _, _ => .lit sz cs
def fillC (cells : List AV) (off : Nat) (vs : List AV) : List AV := cells.take off ++ vs ++ cells.drop (off + vs.length)
def fill (tm : List (Nat × AV)) : List AV → List (Nat × Nat × Operand) → Option (List AV)
 | cells, [] => some cells
 | cells, (off, n, x) :: r =>
   let vs := cellsOf (ev tm x)
   bif Nat.beq (vs.length) n && Nat.ble (off + n) (cells.length) && vs.all cellOk then fill tm (fillC cells off vs) r else none
def intOf? : AV → Option (Unit → Int)
 | .int _ n => some n
 | _ => none
def optInt (tm : List (Nat × AV)) : Option Operand → Option (Option (Unit → Int))
 | none => some none
 | some x => match intOf? (ev tm x) with | some n => some (some n) | none => none
def cutT (lo hi : Option (Unit → Int)) (len : Unit → Nat) (c : (Unit → Nat) → (Unit → Nat) → Tree) : Tree :=
 match lo, hi with
 | none, none => c (fun _ => 0) len
 | some l, none => .need (fun _ => 0 ≤ l () ∧ l () ≤ len ()) (fun _ => c (fun _ => (l ()).toNat) len)
 | none, some h => .need (fun _ => 0 ≤ h () ∧ h () ≤ len ()) (fun _ => c (fun _ => 0) (fun _ => (h ()).toNat))
 | some l, some h => .need (fun _ => 0 ≤ l () ∧ l () ≤ h () ∧ h () ≤ len ()) (fun _ => c (fun _ => (l ()).toNat) (fun _ => (h ()).toNat))
def isLit0 : Option Operand → Bool
 | some (.const (.int _ n)) => match n with
   | .ofNat 0 => true
   | _ => false
 | _ => false
def isNone : Option Operand → Bool
 | none => true
 | _ => false
def nilT (op : BinOp) (p : Unit → Prop) (K : AV → List (Nat × Blk) → Tree) : Tree := match op with
 | .eql => .may p (fun _ => K (.bo true) []) (fun _ => K (.bo false) [])
 | .neq => .may p (fun _ => K (.bo false) []) (fun _ => K (.bo true) [])
 | _ => .bad 16
def bitI (op : BinOp) (k : IntKind) (x y : Int) : Int := match op with
 | .and => k.wrap (BitVec.ofInt k.bits x &&& BitVec.ofInt k.bits y).toNat
 | .or => k.wrap (BitVec.ofInt k.bits x ||| BitVec.ofInt k.bits y).toNat
 | .xor => k.wrap (BitVec.ofInt k.bits x ^^^ BitVec.ofInt k.bits y).toNat
 | _ => k.wrap (BitVec.ofInt k.bits x &&& ~~~ BitVec.ofInt k.bits y).toNat
def shI (op : BinOp) (k : IntKind) (x y : Int) : Int := match op with
 | .shl => k.wrap (x * 2 ^ (min y.toNat k.bits))
 | _ => x.fdiv (2 ^ (min y.toNat k.bits))
def isSh : BinOp → Bool
 | .shl | .shr => true
 | _ => false
def isBit : BinOp → Bool
 | .and | .or | .xor | .andNot | .shl | .shr => true
 | _ => false
def idxT (m : Unit → Int) (K : Nat → Tree) : Nat → Nat → Tree
 | 0, _ => .bad 173
 | f + 1, a => .cmp .eq m (fun _ => (a : Int)) (fun _ => K a) (fun _ => idxT m K f (a + 1))
def qop (o : MOp) (tm : List (Nat × AV)) (st : List (Nat × Blk)) (nid : Nat) (K : AV → List (Nat × Blk) → Tree) : Tree :=
 match o with
 | .mv x => K (ev tm x) []
 | .pick c a b => match ev tm c with
   | .bo t => K (bif t then ev tm a else ev tm b) []
   | _ => .bad 10
 | .not x => match ev tm x with
   | .bo t => K (.bo (bif t then false else true)) []
   | _ => .bad 11
 | .bin op x y => match ev tm x, ev tm y with
   | .int k a, .int q b =>
     bif kindEq k q then
      match op with
      | .add => .ari k (fun _ => a () + b ()) (fun v => K (.int k v) [])
      | .sub => .ari k (fun _ => a () - b ()) (fun v => K (.int k v) [])
      | .mul => .ari k (fun _ => a () * b ()) (fun v => K (.int k v) [])
      | .rem => .need (fun _ => b () ≠ 0) (fun _ => K (.int k (fun _ => (a ()).tmod (b ()))) [])
      | .quo => .need (fun _ => b () ≠ 0) (fun _ => .ari k (fun _ => (a ()).tdiv (b ())) (fun v => K (.int k v) []))
      | op => cmpT op a b (fun r => K (.bo r) [])
     else .bad 12
   | .str a, .str b => match op with
     | .eql => .test (fun _ => decide (a () = b ())) (fun _ => K (.bo true) []) (fun _ => K (.bo false) [])
     | .neq => .test (fun _ => decide (a () = b ())) (fun _ => K (.bo false) []) (fun _ => K (.bo true) [])
     | .add => .need (fun _ => (a ()).size + (b ()).size ≤ 9223372036854775807) (fun _ => K (.str (fun _ => a () ++ b ())) [])
     | _ => .bad 14
   | _, _ => .bad 17
 | .bit op x y => match ev tm x, ev tm y with
   | .int k a, .int q b => bif isSh op then .need (fun _ => 0 ≤ b ()) (fun _ => K (.int k (fun _ => shI op k (a ()) (b ()))) []) else (bif kindEq k q && isBit op then K (.int k (fun _ => bitI op k (a ()) (b ()))) [] else .bad 140)
   | _, _ => .bad 141
 | .bbin op x y => match ev tm x, ev tm y with
   | .bo a, .bo b => match op with
     | .eql => K (.bo (bif a then b else (bif b then false else true))) []
     | .neq => K (.bo (bif a then (bif b then false else true) else b)) []
     | _ => .bad 13
   | _, _ => .bad 15
 | .nbin op x y =>
   match ev tm x, ev tm y with
   | .nil, .nil => match op with
     | .eql => K (.bo true) []
     | .neq => K (.bo false) []
     | _ => .bad 15
   | .sl _ _ xs, .nil => nilT op (fun _ => xs () = []) K
   | .emp, .nil => nilT op (fun _ => True) K
   | .ref _ _ n, .nil => nilT op (fun _ => n () = 0) K
   | _, _ => .bad 17
 | .aeq neg ks x y => match ev tm x, ev tm y with
   | .agg a, .agg b => bif fitB ks a b then eqT ks a b (fun r => K (.bo (bif neg then (bif r then false else true) else r)) []) else .bad 4
   | _, _ => .bad 18
 | .box x =>
   let l := cellsOf (ev tm x)
   bif l.all cellOk then K (.ptr nid 0) [(nid, .lit 0 l)] else .bad 9
 | .alloc zs =>
   let l := zs.map ofVal
   bif l.all cellOk then K (.ptr nid 0) [(nid, .lit 0 l)] else .bad 8
 | .fa x off => match ev tm x with
   | .ptr b j => K (.ptr b (j + off)) []
   | .eptr b i j => match look b st with
     | some (.row sz _ _ _) => bif Nat.ble (j + off) (sz) then K (.eptr b i (j + off)) [] else .bad 19
     | _ => .bad 20
   | .rptr cs => K (.rptr (cs.drop off)) []
   | _ => .bad 21
 | .fld x off n ag => match ev tm x with
   | .agg cs =>
     let l := (cs.drop off).take n
     bif Nat.beq (l.length) n then (bif ag then K (.agg l) [] else match l with | [c] => K c [] | _ => .bad 22) else .bad 23
   | _ => .bad 24
 | .ia x i sz => match ev tm x, ev tm i with
   | .sl z enc xs, .int _ n => bif Nat.beq z sz then
    .need (fun _ => 0 ≤ n () ∧ n () < (xs ()).length) (fun _ => .idx xs (fun _ => (n ()).toNat) (fun x => K (.rptr ((List.range sz).map (enc x))) []))
     else .bad 25
   | .ref b off m, .int _ n => match look b st with
     | some (.row z _ _ _) => bif Nat.beq z sz then .need (fun _ => 0 ≤ n () ∧ n () < m ()) (fun _ => K (.eptr b (fun _ => off () + (n ()).toNat) 0) []) else .bad 26
     | _ => .bad 27
   | _, _ => .bad 28
 | .ld x n ag => match ev tm x with
   | .ptr b j => match look b st with
     | some (.lit _ cs) =>
       let l := (cs.drop j).take n
       bif Nat.beq (l.length) n then (bif ag then K (.agg l) [] else match l with | [c] => K c [] | _ => .bad 29) else .bad 30
     | _ => .bad 31
   | .eptr b i j => match look b st with
     | some (.row sz enc xs fx) => bif Nat.ble (j + n) (sz) then
      .idx xs i (fun x => let l := (List.range n).map (fun q => scO fx b i (j + q) (enc x (j + q))); (bif ag then K (.agg l) [] else match l with | [c] => K c [] | _ => .bad 32))
       else .bad 33
     | _ => .bad 34
   | .rptr cs =>
     let l := cs.take n
     bif Nat.beq (l.length) n then (bif ag then K (.agg l) [] else match l with | [c] => K c [] | _ => .bad 35) else .bad 36
   | _ => .bad 37
 | .ldc x n ag => match ev tm x with
   | .eptr b i j => match look b st with
     | some (.row sz enc xs false) => bif Nat.ble (j + n) sz && ag then .idx xs i (fun x => K (.agg ((List.range n).map (fun q => enc x (j + q)))) []) else .bad 142
     | _ => .bad 143
   | _ => .bad 144
 | .slc isS x lo hi mx sz => match optInt tm lo, optInt tm hi, mx with
   | some l, some h, none => match isS, ev tm x with
     | false, .sl z enc xs => bif Nat.beq z sz then cutT l h (fun _ => (xs ()).length) (fun a b => K (.sl z enc (fun _ => ((xs ()).drop (a ())).take (b () - a ()))) []) else .bad 38
     | false, .ref b off n => match look b st with
       | some (.row z _ _ _) => bif Nat.beq z sz then cutT l h n (fun p q => K (.ref b (fun _ => off () + p ()) (fun _ => q () - p ())) []) else .bad 39
       | _ => .bad 40
     | true, .str s => cutT l h (fun _ => (s ()).size) (fun a b => K (.str (fun _ => (s ()).extract (a ()) (b ()))) [])
     | false, .nil => cutT l h (fun _ => 0) (fun _ _ => K .nil [])
     | false, .emp => cutT l h (fun _ => 0) (fun _ _ => K .emp [])
     | _, _ => .bad 41
   | _, _, _ => bif isLit0 hi && isLit0 mx && (bif isNone lo then true else isLit0 lo) then (match isS, ev tm x with
     | false, .sl _ _ _ => K .emp []
     | false, .ref _ _ _ => K .emp []
     | false, .nil => K .emp []
     | false, .emp => K .emp []
     | _, _ => .bad 114) else .bad 42
 | .len isS x => match isS, ev tm x with
   | false, .sl _ _ xs => K (.int .i64 (fun _ => ((xs ()).length : Int))) []
   | false, .ref _ _ n => K (.int .i64 (fun _ => (n () : Int))) []
   | false, .nil => K (.int .i64 (fun _ => 0)) []
   | false, .emp => K (.int .i64 (fun _ => 0)) []
   | true, .str s => K (.int .i64 (fun _ => ((s ()).size : Int))) []
   | _, _ => .bad 43
 | .sidx x i => match ev tm x, ev tm i with
   | .str s, .int _ n => .need (fun _ => 0 ≤ n () ∧ n () < (s ()).size) (fun _ => K (.int .u8 (fun _ => (((s ()).get! (n ()).toNat).toNat : Int))) [])
   | _, _ => .bad 44
 | .mx m x y => match ev tm x, ev tm y with
   | .int k a, .int q b => bif kindEq k q then K (.int k (bif m then (fun _ => max (a ()) (b ())) else (fun _ => min (a ()) (b ())))) [] else .bad 45
   | _, _ => .bad 46
 | .bld zs parts => match fill tm (zs.map ofVal) parts with
   | some cs => K (.agg cs) []
   | none => .bad 47
 | .bsl sz len zs parts =>
   bif Nat.beq len 0 then K .emp [] else
    match fill tm ((List.replicate len (zs.map ofVal)).flatten) (parts.map fun p => (p.1 * sz, sz, p.2)) with
    | some cs => K (.ref nid (fun _ => 0) (fun _ => len)) [(nid, litBlk sz cs)]
    | none => .bad 48
 | .mks sz bytes zs n c => match ev tm n, ev tm c with
   | .int _ a, .int _ b => bif !((zs.map ofVal).all flat) then .bad 7 else .need (fun _ => 0 ≤ a () ∧ a () = b () ∧ a () * bytes ≤ 140737488351232) (fun _ =>
    .typ (zs.map ofVal) (fun _ enc z => K (.ref nid (fun _ => 0) (fun _ => (a ()).toNat)) [(nid, .row sz enc (fun _ => List.replicate (a ()).toNat z) false)]))
   | _, _ => .bad 49
 | .conv k x => match ev tm x with
   | .int _ n => .ari k n (fun v => K (.int k v) [])
   | _ => .bad 50
 | .ext x i => match ev tm x with
   | .tup vs => match vs[i]? with | some v => K v [] | none => .bad 51
   | _ => .bad 52
 | .call f args => match (args.map (ev tm)).mapM (mat st 4) with
   | some vs => .call f vs (fun r => let a := imp 3 r nid; bif Nat.ble a.2.2 (nid + 16) then K a.1 a.2.1 else .bad 58)
   | none => .bad 53
 | .callv g args => match ev tm g with
   | .clo f caps => match (args.map (ev tm) ++ caps).mapM (mat st 4) with
     | some vs => .call f vs (fun r => let a := imp 3 r nid; bif Nat.ble a.2.2 (nid + 16) then K a.1 a.2.1 else .bad 58)
     | none => .bad 54
   | _ => .bad 55
 | .mkf f caps => K (.clo f (caps.map (ev tm))) []
 | .neg x => match ev tm x with
   | .int k n => .ari k (fun _ => 0 - n ()) (fun r => K (.int k r) [])
   | _ => .bad 182
 | .cst x => match mat st 4 (ev tm x) with
   | some (.sl sz enc xs) => bif Nat.beq sz 1 then .same 1 (encI .u8) enc xs (fun l => K (.str (fun _ => strOfNums (l ()))) []) else .bad 180
   | _ => .bad 181
 | .nck x => match ev tm x with
   | .ptr b j => K (.ptr b j) []
   | .eptr b i j => K (.eptr b i j) []
   | .rptr cs => K (.rptr cs) []
   | _ => .bad 56
 | .faf x off => match ev tm x with
   | .ptr b j => K (.ptr b (j + off)) []
   | _ => .bad 172
 | .slf x lo hi sz => match optInt tm lo, optInt tm hi, ev tm x with
   | some l, some h, .sl z enc xs => bif Nat.beq z sz then cutT l h (fun _ => (xs ()).length) (fun a b => K (.sl z enc (fun _ => ((xs ()).drop (a ())).take (b () - a ()))) []) else .bad 112
   | _, _, _ => .bad 113
 | .appz x y sz bytes zs => match ev tm x, ev tm y with
   | .nil, .int _ n => bif (zs.map ofVal).all flat then .need (fun _ => 0 < n () ∧ n () * bytes ≤ 140737488351232) (fun _ =>
    .typ (zs.map ofVal) (fun _ enc z => K (.ref nid (fun _ => 0) (fun _ => (n ()).toNat)) [(nid, .row sz enc (fun _ => List.replicate (n ()).toNat z) false)])) else .bad 126
   | _, _ => .bad 127
 | .cap x => match ev tm x with
   | .nil => K (.int .i64 (fun _ => 0)) []
   | .emp => K (.int .i64 (fun _ => 0)) []
   | _ => .bad 115
 | .iaa x i len sz => match ev tm x, ev tm i with
   | .ptr b j, .int _ m => idxT m (fun a => K (.ptr b (j + a * sz)) []) len 0
   | _, _ => .bad 174
 | .aidx x i len => match ev tm x, ev tm i with
   | .agg cs, .int _ n => match allStr cs with
     | some l => .need (fun _ => 0 ≤ n () ∧ n () < len) (fun _ => .idx l (fun _ => (n ()).toNat) (fun s => K (.str (fun _ => s)) []))
     | none => .bad 116
   | _, _ => .bad 117
 | .appn x y sz bytes => match ev tm x with
   | .nil | .emp => match ev tm y with
     | .nil => K (ev tm x) []
     | .emp => K (ev tm x) []
     | .sl z enc ys => bif Nat.beq z sz then .need (fun _ => (∀ y ∈ ys (), ∀ j, j < z → flat (enc y j) = true) ∧ (ys ()).length * bytes ≤ 140737488351232) (fun _ => K (.ref nid (fun _ => 0) (fun _ => (ys ()).length)) [(nid, .row z enc ys false)]) else .bad 118
     | .ref b off n => match look b st with
       | some (.row z enc xs _) => bif Nat.beq z sz then .need (fun _ => (∀ y ∈ xs (), ∀ j, j < z → flat (enc y j) = true) ∧ n () * bytes ≤ 140737488351232) (fun _ => K (.ref nid (fun _ => 0) n) [(nid, .row z enc (fun _ => ((xs ()).drop (off ())).take (n ())) false)]) else .bad 119
       | _ => .bad 120
     | _ => .bad 121
   | _ => .bad 122
 | _ => .bad 57
def memN (n : Nat) : List Nat → Bool
 | [] => false
 | m :: r => bif Nat.beq m n then true else memN n r
def lendL (lend : AV → List Nat → Option (AV × List Nat)) : List AV → List Nat → Option (List AV × List Nat)
 | [], acc => some ([], acc)
 | x :: r, acc => match lend x acc with
   | some a => match lendL lend r a.2 with
     | some b => some (a.1 :: b.1, b.2)
     | none => none
   | none => none
def lendA (st st0 : List (Nat × Blk)) : Nat → AV → List Nat → Option (AV × List Nat)
 | 0, _, _ => none
 | d + 1, .ref b _ _, acc => match look b st with
   | some (.row _ _ _ _) => bif memN b acc then none else some (.ptr acc.length 0, acc ++ [b])
   | _ => none
 | d + 1, .agg cs, acc => match lendL (lendA st st0 d) cs acc with
   | some a => some (.agg a.1, a.2)
   | none => none
 | d + 1, x, acc => match mat st0 4 x with
   | some y => some (y, acc)
   | none => none
def refsL (refs : AV → List Nat) : List AV → List Nat
 | [] => []
 | x :: r => refs x ++ refsL refs r
def refsA : Nat → AV → List Nat
 | 0, _ => []
 | _ + 1, .ref b _ _ => [b]
 | d + 1, .agg cs => refsL (refsA d) cs
 | _ + 1, _ => []
def dropAll : List Nat → List (Nat × Blk) → List (Nat × Blk)
 | [], st => st
 | b :: r, st => dropAll r (drop_ b st)
def wholeL (whole : AV → Prop) : List AV → Prop
 | [] => True
 | x :: r => whole x ∧ wholeL whole r
def wholeA (st : List (Nat × Blk)) : Nat → AV → Prop
 | 0, _ => True
 | d + 1, .ref b off n => match look b st with
   | some (.row _ _ xs _) => off () = 0 ∧ n () = (xs ()).length
   | _ => True
 | d + 1, .agg cs => wholeL (wholeA st d) cs
 | d + 1, _ => True
def rowsAt (st : List (Nat × Blk)) : List Nat → Option (List AV)
 | [] => some []
 | b :: r => match look b st with
   | some (.row sz enc xs _) => match rowsAt st r with
     | some l => some (.sl sz enc xs :: l)
     | none => none
   | _ => none
def setRows : List Nat → List AV → List (Nat × Blk) → Option (List (Nat × Blk))
 | [], [], st => some st
 | b :: r, .sl sz enc ys :: l, st => match look b st with
   | some (.row _ _ _ fx) => setRows r l (setB b (.row sz enc ys fx) st)
   | _ => none
 | _, _, _ => none
def isNbin : MOp → Bool
 | .nbin .. => true
 | _ => false
def isLdc : MOp → Bool
 | .ldc .. => true
 | _ => false
def isMut : MOp → Bool
 | .sto .. | .app .. | .callm .. | .clr .. | .stoc .. | .callp .. | .calln .. | .ins .. => true
 | _ => false
def scrubT (k : Nat → Bool) : List (Nat × AV) → List (Nat × AV)
 | [] => []
 | p :: r => (p.1, scrub k p.2) :: scrubT k r
def scrubB (k : Nat → Bool) : Nat × Blk → Nat × Blk
 | (i, .lit sz cs) => (i, .lit sz (scrubL k cs))
 | p => p
def setAt {α : Type} (xs : List α) (i : Nat) (x : α) : List α := xs.set i x
mutual
def freeze (st : List (Nat × Blk)) (k : Nat → Bool) : AV → AV
 | .ref b o n => bif k b then (match look b st with
   | some (.row sz enc xs _) => .sl sz enc (fun _ => ((xs ()).drop (o ())).take (n ()))
   | _ => .any) else .ref b o n
 | .ptr b j => bif k b then .any else .ptr b j
 | .eptr b i j => bif k b then .any else .eptr b i j
 | .agg cs => .agg (freezeL st k cs)
 | .tup cs => .tup (freezeL st k cs)
 | .clo f cs => .clo f (freezeL st k cs)
 | .any => .any
 | .undef => .undef
 | .int q n => .int q n
 | .bo b => .bo b
 | .str s => .str s
 | .nil => .nil
 | .emp => .emp
 | .sl sz enc xs => .sl sz enc xs
 | .own b i j => .own b i j
 | .rptr cs => .rptr cs
 | .lsl cs => .lsl cs
def freezeL (st : List (Nat × Blk)) (k : Nat → Bool) : List AV → List AV
 | [] => []
 | x :: r => freeze st k x :: freezeL st k r
end
def freezeB (st : List (Nat × Blk)) (k : Nat → Bool) : Nat × Blk → Nat × Blk
 | (i, .lit sz cs) => (i, .lit sz (freezeL st k cs))
 | (i, .row sz enc xs fx) => (i, .row sz enc xs fx)
def freezeT (st : List (Nat × Blk)) (k : Nat → Bool) : List (Nat × AV) → List (Nat × AV)
 | [] => []
 | p :: r => (p.1, freeze st k p.2) :: freezeT st k r
def ptrsL : List AV → List Nat
 | [] => []
 | .ptr b j :: r => bif Nat.beq j 0 then b :: ptrsL r else ptrsL r
 | _ :: r => ptrsL r
def nodupB : List Nat → Bool
 | [] => true
 | b :: r => bif memN b r then false else nodupB r
def cellP : AV → Bool
 | .int .. | .bo _ | .str _ | .nil => true
 | .sl _ _ _ => true
 | _ => false
def litsAt (st : List (Nat × Blk)) : List Nat → Option (List (List AV))
 | [] => some []
 | b :: r => match look b st with
   | some (.lit _ cs) => bif cs.all cellP then (match litsAt st r with
     | some l => some (cs :: l)
     | none => none) else none
   | _ => none
def lendP (st0 : List (Nat × Blk)) : List AV → Nat → Option (List AV)
 | [], _ => some []
 | x :: r, i => match ptrsL [x] with
   | _ :: _ => match lendP st0 r (i + 1) with
     | some l => some (.ptr i 0 :: l)
     | none => none
   | [] => match mat st0 4 x with
     | some y => match lendP st0 r i with
       | some l => some (y :: l)
       | none => none
     | none => none
def mixC : List AV → List AV → List AV
 | c :: cs, x :: xs => (bif flatS x then x else match x with
   | .sl _ _ _ => c
   | .nil => c
   | _ => .any) :: mixC cs xs
 | _, _ => []
def setLits : List Nat → List (List AV) → List (Nat × Blk) → Option (List (Nat × Blk))
 | [], [], st => some st
 | b :: r, xs :: l, st => match look b st with
   | some (.lit sz cs) => bif Nat.beq xs.length cs.length && (mixC cs xs).all cellP then setLits r l (setB b (.lit sz (mixC cs xs)) st) else none
   | _ => none
 | _, _, _ => none
def ownArg : List AV → Option (Nat × (Unit → Nat) × Nat × AV)
 | [.own b i j, .int k n] => some (b, i, j, .int k n)
 | _ => none
def mop (o : MOp) (s : St) (nid : Nat) (K : AV → St → Tree) : Tree :=
 match o with
 | .sto x y n => match ev s.tm x with
   | .ptr b j => match look b s.st with
     | some (.lit sz cs) =>
       let l := cellsOf (ev s.tm y)
       bif Nat.beq (l.length) n && Nat.ble (j + n) (cs.length) && (bif Nat.beq sz 99 then l.all flatS else l.all cellOk) then K .undef { s with st := setB b (.lit sz (fillC cs j l)) s.st } else .bad 60
     | _ => .bad 61
   | .eptr b i j => match look b s.st with
     | some (.row sz enc xs fx) =>
       match expL (exp 3) (drop_ b s.st) (cellsOf (ev s.tm y)) with
       | some a => bif Nat.beq (a.1.length) n && Nat.ble (j + n) (sz) && a.1.all cellOk then
        .idx xs i (fun x => bif !(bif fx then a.1.all flatS && (List.range n).all (fun q => flat (enc x (j + q))) else true) then .bad 66 else .typed sz enc ((List.range j).map (enc x) ++ a.1 ++ (List.range (sz - j - n)).map (fun q => enc x (j + n + q))) (fun x' =>
         let gone : Nat → Bool := fun q => bif Nat.beq q b then false else match look q s.st, look q a.2 with | some _, none => true | _, _ => false
         K .undef { tm := scrubT gone s.tm, st := (b, .row sz enc (fun _ => setAt (xs ()) (i ()) x') fx) :: a.2.map (scrubB gone), nx := s.nx }))
         else .bad 62
       | none => .bad 63
     | _ => .bad 64
   | _ => .bad 65
 | .app x y sz bytes =>
   match ev s.tm x with
   | .nil | .emp => match ev s.tm y with
     | .nil => K (ev s.tm x) s
     | .emp => K (ev s.tm x) s
     | .sl z enc ys => bif Nat.beq z sz then .need (fun _ => (∀ y ∈ ys (), ∀ j, j < z → flat (enc y j) = true) ∧ (ys ()).length * bytes ≤ 140737488351232) (fun _ => K (.ref nid (fun _ => 0) (fun _ => (ys ()).length)) { s with st := (nid, .row z enc ys false) :: s.st }) else .bad 71
     | .ref b off n => match look b s.st with
       | some (.row z enc xs _) => bif Nat.beq z sz then .need (fun _ => (∀ y ∈ xs (), ∀ j, j < z → flat (enc y j) = true) ∧ n () * bytes ≤ 140737488351232) (fun _ => K (.ref nid (fun _ => 0) n) { s with st := (nid, .row z enc (fun _ => ((xs ()).drop (off ())).take (n ())) false) :: s.st }) else .bad 72
       | some (.lit z cs) => bif Nat.beq z sz && Nat.beq (cs.length) sz then
        match expL (exp 3) (drop_ b s.st) cs with
        | some a => bif !(a.1.all cellOk) then .bad 86 else .need (fun _ => off () = 0 ∧ n () = 1) (fun _ => .typ a.1 (fun _ enc x =>
         let gone : Nat → Bool := fun q => match look q s.st, look q a.2 with | some _, none => true | _, _ => false
         K (.ref nid (fun _ => 0) (fun _ => 1)) { tm := scrubT gone s.tm, st := (nid, .row sz enc (fun _ => [x]) false) :: a.2.map (scrubB gone), nx := s.nx }))
        | none => .bad 73
         else .bad 74
       | _ => .bad 75
     | _ => .bad 76
   | .ref b off n => match look b s.st with
     | some (.row z enc xs false) =>
       match ev s.tm y with
       | .nil => bif Nat.beq z sz then K (.ref b off n) s else .bad 88
       | .emp => bif Nat.beq z sz then K (.ref b off n) s else .bad 89
       | .sl z' enc' ys => bif Nat.beq z sz && Nat.beq z' sz then
        .need (fun _ => off () = 0 ∧ (∀ y ∈ ys (), ∀ j, j < z' → flat (enc' y j) = true) ∧ (n () + (ys ()).length) * bytes ≤ 140737488351232) (fun _ => .same sz enc enc' ys (fun zs =>
         let gone : Nat → Bool := fun q => Nat.beq q b
         K (.ref b (fun _ => 0) (fun _ => n () + (zs ()).length)) { tm := scrubT gone s.tm, st := setB b (.row z enc (fun _ => (xs ()).take (n ()) ++ zs ()) false) (s.st.map (scrubB gone)), nx := s.nx }))
         else .bad 77
       | .ref b' off' n' => match look b' s.st with
         | some (.row z' enc' ys _) => bif Nat.beq z sz && Nat.beq z' sz && !(Nat.beq b' b) then
          .need (fun _ => off () = 0 ∧ (∀ y ∈ ys (), ∀ j, j < z' → flat (enc' y j) = true) ∧ (n () + n' ()) * bytes ≤ 140737488351232) (fun _ => .same sz enc enc' (fun _ => ((ys ()).drop (off' ())).take (n' ())) (fun zs =>
           let gone : Nat → Bool := fun q => Nat.beq q b
           K (.ref b (fun _ => 0) (fun _ => n () + (zs ()).length)) { tm := scrubT gone s.tm, st := setB b (.row z enc (fun _ => (xs ()).take (n ()) ++ zs ()) false) (s.st.map (scrubB gone)), nx := s.nx }))
           else .bad 78
         | some (.lit z' cs) => bif Nat.beq z sz && Nat.beq z' sz && Nat.beq (cs.length) sz && !(Nat.beq b' b) then
          match expL (exp 3) (drop_ b (drop_ b' s.st)) cs with
          | some a => bif !(a.1.all cellOk) then .bad 87 else .need (fun _ => off () = 0 ∧ off' () = 0 ∧ n' () = 1 ∧ (n () + 1) * bytes ≤ 140737488351232) (fun _ => .typed sz enc a.1 (fun x =>
           let gone : Nat → Bool := fun q => bif Nat.beq q b then true else match look q s.st, look q a.2 with | some _, none => true | _, _ => false
           K (.ref b (fun _ => 0) (fun _ => n () + 1)) { tm := scrubT gone s.tm, st := (b, .row z enc (fun _ => (xs ()).take (n ()) ++ [x]) false) :: a.2.map (scrubB gone), nx := s.nx }))
          | none => .bad 79
           else .bad 80
         | _ => .bad 81
       | _ => .bad 82
     | _ => .bad 83
   | _ => .bad 84
 | .callm f args => match ownArg (args.map (ev s.tm)) with
   | some (b, i, j, y) => match look b s.st with
     | some (.row sz enc xs true) => bif Nat.blt j sz then .idx xs i (fun x => match enc x j with
      | .sl z e ys => .callm f [.ptr 0 0, y] [.sl z e ys] (fun ret outs => match ret, outs with
        | .agg [.int k n], [.sl z' e' ys'] => .typed sz enc ((List.range j).map (enc x) ++ [.sl z' e' ys'] ++ (List.range (sz - j - 1)).map (fun q => enc x (j + 1 + q))) (fun x' =>
         K (.int k n) { s with st := setB b (.row sz enc (fun _ => setAt (xs ()) (i ()) x') true) s.st })
        | _, _ => .bad 130)
      | _ => .bad 131) else .bad 132
     | _ => .bad 133
   | none => match lendL (lendA s.st (dropAll (refsL (refsA 4) (args.map (ev s.tm))) s.st) 4) (args.map (ev s.tm)) [] with
   | some a => bif !(a.2.all (fun b => memN b (refsL (refsA 4) (args.map (ev s.tm))))) then .bad 111 else match rowsAt s.st a.2 with
     | some bs => .need (fun _ => wholeL (wholeA s.st 4) (args.map (ev s.tm))) (fun _ => .callm f a.1 bs (fun ret outs => match setRows a.2 outs s.st with
      | some st' => match ret with
        | .agg [x] => let p := imp 3 x nid; bif Nat.ble p.2.2 (nid + 16) then K p.1 { s with st := p.2.1 ++ st' } else .bad 101
        | .clo i [.int _ off, .int _ n] => match a.2[i]? with
          | some b => K (.ref b (fun _ => (off ()).toNat) (fun _ => (n ()).toNat)) { s with st := st' }
          | none => .bad 102
        | _ => .bad 103
      | none => .bad 104))
     | none => .bad 105
   | none => .bad 106
 | .stoc x y n => match ev s.tm x with
   | .ptr b j => match look b s.st with
     | some (.lit sz cs) =>
       let l := cellsOf (ev s.tm y)
       bif Nat.beq (l.length) n && Nat.ble (j + n) (cs.length) && (bif Nat.beq sz 99 then l.all flatS else l.all cellOk) then K .undef { s with st := setB b (.lit sz (fillC cs j l)) s.st } else .bad 144
     | _ => .bad 145
   | .eptr b i j => match look b s.st with
     | some (.row sz enc xs false) =>
       match expL (exp 3) (drop_ b s.st) (cellsOf (ev s.tm y)) with
       | some a => bif Nat.beq (a.1.length) n && Nat.ble (j + n) (sz) && a.1.all cellOk then
        .idx xs i (fun x => .typed sz enc ((List.range j).map (enc x) ++ a.1 ++ (List.range (sz - j - n)).map (fun q => enc x (j + n + q))) (fun x' =>
         let gone : Nat → Bool := fun q => bif Nat.beq q b then false else match look q s.st, look q a.2 with | some _, none => true | _, _ => false
         K .undef { tm := freezeT s.st gone s.tm, st := (b, .row sz enc (fun _ => setAt (xs ()) (i ()) x') false) :: a.2.map (freezeB s.st gone), nx := s.nx }))
         else .bad 146
       | none => .bad 147
     | _ => .bad 148
   | _ => .bad 149
 | .callp f args =>
   let as := args.map (ev s.tm)
   bif !(nodupB (ptrsL as)) then .bad 150 else match litsAt s.st (ptrsL as) with
   | some cells => match lendP (dropAll (ptrsL as) s.st) as 0 with
     | some vs => .callp f vs cells (fun ret outs => match setLits (ptrsL as) outs s.st with
      | some st' => let p := imp 3 ret nid; bif Nat.ble p.2.2 (nid + 16) then K p.1 { s with st := p.2.1 ++ st' } else .bad 151
      | none => .bad 152)
     | none => .bad 153
   | none => .bad 154
 | .ins f x i y => match ev s.tm x, ev s.tm i, ev s.tm y with
   | .ref b off n, .int k j, .ref b' off' n' => match look b s.st, look b' s.st with
     | some (.row z enc xs false), some (.lit z' cs) => bif kindEq k .i64 && Nat.beq z' z && Nat.beq cs.length z && Nat.blt 0 z && Nat.blt z 99 && cs.all flatS && !(Nat.beq b' b) then
      .need (fun _ => off () = 0 ∧ off' () = 0 ∧ n' () = 1 ∧ 0 ≤ j () ∧ j () ≤ (n () : Int) ∧ n () ≤ 1000000 ∧ ∀ y ∈ xs (), ∀ q, q < z → flatS (enc y q) = true) (fun _ => .typed z enc cs (fun x' => .ins f z (fun _ =>
       let gone : Nat → Bool := fun q => Nat.beq q b
       K (.ref b (fun _ => 0) (fun _ => n () + 1)) { tm := scrubT gone s.tm, st := setB b (.row z enc (fun _ => ((xs ()).take (n ())).take (j ()).toNat ++ x' :: ((xs ()).take (n ())).drop (j ()).toNat) false) (s.st.map (scrubB gone)), nx := s.nx })))
       else .bad 180
     | _, _ => .bad 181
   | _, _, _ => .bad 182
 | .calln f args => match (args.map (ev s.tm)).mapM (mat [] 4) with
  | some vs => .calln f vs (fun cs => bif cs.all cellP then K (.ptr nid 0) { s with st := (nid, .lit 0 cs) :: s.st } else .bad 155)
  | none => .bad 156
 | .clr x sz zs => match ev s.tm x with
   | .nil => K (.tup []) s
   | .emp => K (.tup []) s
   | .ref b off n => match look b s.st with
     | some (.row z enc xs fx) => bif Nat.beq z sz && (zs.map ofVal).all flatS then
      .need (fun _ => ∀ x ∈ xs (), ∀ j, j < z → flat (enc x j) = true) (fun _ => .typed z enc (zs.map ofVal) (fun c =>
       K (.tup []) { s with st := setB b (.row z enc (fun _ => (xs ()).take (off ()) ++ List.replicate (n ()) c ++ (xs ()).drop (off () + n ())) fx) s.st }))
       else .bad 123
     | _ => .bad 124
   | _ => .bad 125
 | _ => .bad 85
def putS (s : St) (d : Option Nat) (v : AV) : List (Nat × AV) := match d with | some d => (d, v) :: s.tm | none => s.tm
def hidden (nx : Nat) (h : List Nat) : List (Nat × Blk) → List (Nat × Blk)
 | [] => []
 | p :: r => bif Nat.blt p.1 nx then p :: hidden nx h r else bif memN ((p.1 - nx) / 16) h then hidden nx h r else p :: hidden nx h r
def opsT (nx : Nat) : List MOper → Nat → (St → Tree) → St → Tree
 | [], _, K, s => K s
 | o :: r, i, K, s =>
   let go : Unit → Tree := fun _ =>
    bif isMut o.op then mop o.op s (nx + 16 * i) (fun v s' => opsT nx r (i + 1) K { s' with tm := putS s' o.dst v })
    else qop o.op s.tm (match o.hide with | [] => s.st | h => hidden nx h s.st) (nx + 16 * i) (fun v new => opsT nx r (i + 1) K { s with tm := putS s o.dst v, st := new ++ s.st })
   let skip : Unit → Tree := fun _ => opsT nx r (i + 1) K { s with tm := putS s o.dst .undef }
   match o.gd with
   | none => go ()
   | some (d, want) => match slot d s.tm with
     | .bo b => match b, want with
       | true, true => go ()
       | false, false => go ()
       | _, _ => skip ()
     | .undef => skip ()
     | _ => .bad 90
def depAt : List (List Nat) → Nat → List Nat
 | [], _ => []
 | d :: _, 0 => d
 | _ :: r, i + 1 => depAt r i
def opAt : List MOper → Nat → Option MOper
 | [], _ => none
 | d :: _, 0 => some d
 | _ :: r, i + 1 => opAt r i
def readyA (deps : List (List Nat)) (done : List Nat) : Nat → List Nat
 | 0 => []
 | i + 1 => bif memN i done then readyA deps done i else bif (depAt deps i).all (fun j => memN j done) then i :: readyA deps done i else readyA deps done i
def firstIn (fl : List Nat) : List Nat → Option Nat
 | [] => none
 | i :: r => bif memN i fl then some i else firstIn fl r
def eachT (T : Nat → Tree) : Nat → List Nat → Tree
 | i, [] => T i
 | i, j :: r => .may (fun _ => True) (fun _ => T i) (fun _ => eachT T j r)
def eachL (T : Nat → Tree) : List Nat → Tree
 | [] => .bad 170
 | i :: r => eachT T i r
def anyT (nx : Nat) (deps : List (List Nat)) (fl : List Nat) (ops : List MOper) : Nat → List Nat → (St → Tree) → St → Tree
 | 0, _, K, s => K s
 | f + 1, done, K, s =>
   let go : Nat → Tree := fun i => match opAt ops i with
    | some o => opsT nx [o] done.length (fun s' => anyT nx deps fl ops f (i :: done) K s') s
    | none => .bad 171
   match firstIn fl (readyA deps done ops.length) with
   | some i => go i
   | none => eachL go (readyA deps done ops.length)
def eachO (T : Nat → Ord) : Nat → List Nat → Ord
 | i, [] => T i
 | i, j :: r => .both (fun _ => T i) (fun _ => eachO T j r)
def eachP (T : Nat → Ord) : List Nat → Ord
 | [] => .bad 170
 | i :: r => eachO T i r
def mkOrd (deps : List (List Nat)) (fl : List Nat) (ops : List MOper) : Nat → List Nat → Ord
 | 0, _ => .fin
 | f + 1, done =>
   let go : Nat → Ord := fun i => match opAt ops i with
    | some o => .step done.length o (fun _ => mkOrd deps fl ops f (i :: done))
    | none => .bad 171
   match firstIn fl (readyA deps done ops.length) with
   | some i => go i
   | none => eachP go (readyA deps done ops.length)
def ordT (nx : Nat) : Ord → (St → Tree) → St → Tree
 | .fin, K, s => K s
 | .bad n, _, _ => .bad n
 | .step k o next, K, s => opsT nx [o] k (fun s' => ordT nx (next ()) K s') s
 | .both a b, K, s => .may (fun _ => True) (fun _ => ordT nx (a ()) K s) (fun _ => ordT nx (b ()) K s)
def keepT (tm : List (Nat × AV)) : List Nat → List (Nat × AV)
 | [] => []
 | t :: r => (t, slot t tm) :: keepT tm r
mutual
def nmV : AV → List Nat
 | .ref b _ _ => [b]
 | .ptr b _ => [b]
 | .agg cs => nmL cs
 | .clo _ cs => nmL cs
 | _ => []
def nmL : List AV → List Nat
 | [] => []
 | x :: r => nmV x ++ nmL r
end
def nmT : List (Nat × AV) → List Nat
 | [] => []
 | p :: r => nmV p.2 ++ nmT r
def nmS (k : List Nat) : List (Nat × Blk) → List Nat
 | [] => []
 | (b, .lit _ cs) :: r => bif memN b k then nmL cs ++ nmS k r else nmS k r
 | (_, _) :: r => nmS k r
def stayB : Blk → Bool
 | .row _ _ _ fx => fx
 | .lit sz _ => Nat.beq sz 99
def gcF (k : List Nat) : List (Nat × Blk) → List (Nat × Blk)
 | [] => []
 | p :: r => bif memN p.1 k then p :: gcF k r else gcF k r
def stayK : List (Nat × Blk) → List Nat
 | [] => []
 | p :: r => bif stayB p.2 then p.1 :: stayK r else stayK r
mutual
def okV (st : List (Nat × Blk)) : AV → Bool
 | .ref b _ _ => (match look b st with | some _ => true | none => false)
 | .ptr b _ => (match look b st with | some _ => true | none => false)
 | .agg cs => okL st cs
 | .clo _ cs => okL st cs
 | .any | .undef | .int _ _ | .bo _ | .str _ | .nil | .emp | .sl _ _ _ | .rptr _ | .lsl _ => true
 | _ => false
def okL (st : List (Nat × Blk)) : List AV → Bool
 | [] => true
 | x :: r => bif okV st x then okL st r else false
end
def okT (st : List (Nat × Blk)) : List (Nat × AV) → Bool
 | [] => true
 | p :: r => bif okV st p.2 then okT st r else false
def okS (st : List (Nat × Blk)) : List (Nat × Blk) → Bool
 | [] => true
 | (_, .lit _ cs) :: r => bif okL st cs then okS st r else false
 | (_, _) :: r => okS st r
def gcB (tm : List (Nat × AV)) (st : List (Nat × Blk)) : List (Nat × Blk) :=
 let k := nmT tm
 let k2 := nmS k st ++ (k ++ stayK st)
 let st' := gcF k2 st
 bif okT st' tm then (bif okS st' st' then st' else st) else st
def gcM (live : List Nat) (tm : List (Nat × AV)) (st : List (Nat × Blk)) : List (Nat × Blk) := bif memN 9998 live then gcB tm st else st
inductive Ex where
 | normal | exit (i : Nat) | ret
def exec : MCode → (Ex → St → Tree) → St → Tree
 | .skip, K, s => K .normal s
 | .region pre ops live, K, s => match pre with
   | [] => opsT s.nx ops 0 (fun s' => K .normal { tm := keepT s'.tm live, st := gcM live (keepT s'.tm live) s'.st, nx := s.nx + 16 * ops.length }) s
   | m :: r => opsT s.nx (m :: r) 0 (fun s1 => opsT s.nx ops 0 (fun s' => K .normal { tm := keepT s'.tm live, st := gcM live (keepT s'.tm live) s'.st, nx := s.nx + 16 * ops.length }) s1) s
 | .regionA n ord live, K, s => ordT s.nx (ord ()) (fun s' => K .normal { tm := keepT s'.tm live, st := gcM live (keepT s'.tm live) s'.st, nx := s.nx + 16 * n }) s
 | .seq a b, K, s => exec (a ()) (fun e s => match e with
   | .normal => exec (b ()) K s
   | .exit i => K (.exit i) s
   | .ret => K .ret s) s
 | .cond c t e, K, s => match ev s.tm c with
   | .bo b => bif b then exec (t ()) K s else exec (e ()) K s
   | _ => .bad 91
 | .block i c, K, s => exec (c ()) (fun e s => match e with
   | .normal => K .normal s
   | .exit j => bif Nat.beq j i then K .normal s else K (.exit j) s
   | .ret => K .ret s) s
 | .loop c, K, s => .loop s (fun s => exec (c ()) (fun e s => match e with
   | .normal => .again s
   | .exit i => .pop (fun _ => K (.exit i) s)
   | .ret => .pop (fun _ => K .ret s)) s)
 | .exit i, K, s => K (.exit i) s
 | .ret, K, s => K .ret s
theorem exec_region (pre ops : List MOper) (live : List Nat) (K : Ex → St → Tree) (s : St) : exec (.region pre ops live) K s = opsT s.nx pre 0 (fun s1 => opsT s.nx ops 0 (fun s' => K .normal { tm := keepT s'.tm live, st := gcM live (keepT s'.tm live) s'.st, nx := s.nx + 16 * ops.length }) s1) s := by
 cases pre <;> rfl
inductive RV where
 | t (i : Nat)
 | c (a n : Nat) (g : Bool)
def resA (s : St) : RV → Option AV
 | .t i => some (slot i s.tm)
 | .c a n g => match slot a s.tm with
   | .ptr b j => match look b s.st with
     | some (.lit _ cs) =>
       let l := (cs.drop j).take n
       bif Nat.beq (l.length) n then (bif g then some (.agg l) else match l with | [c] => some c | _ => none) else none
     | _ => none
   | _ => none
def resL (s : St) : List RV → Option (List AV)
 | [] => some []
 | r :: rs => match resA s r with
   | some v => match resL s rs with
     | some vs => some (v :: vs)
     | none => none
   | none => none
def one : List AV → AV
 | [v] => v
 | vs => .tup vs
def endT (rs : List RV) (s : St) : Tree :=
 match resL s rs with
 | some vs => match exp 3 s.st (one vs) with
   | some a => .done a.1
   | none => .bad 92
 | none => .bad 93
def number (i : Nat) : List AV → List (Nat × AV)
 | [] => []
 | x :: r => (i, x) :: number (i + 1) r
def start (args : List AV) : St := { tm := number 0 args, st := [], nx := 0 }
def runT (c : MCode) (rs : List RV) (args : List AV) : Tree :=
 exec c (fun e s => match e with
  | .normal => endT rs s
  | .ret => endT rs s
  | .exit _ => .bad 94) (start args)
def litsOfB : List (List AV) → Nat → List (Nat × Blk)
 | [], _ => []
 | cs :: r, i => (i, .lit 99 cs) :: litsOfB r (i + 1)
def startP (args : List AV) (bs : List (List AV)) : St := { tm := number 0 args, st := litsOfB bs 0, nx := bs.length }
def outsP (st : List (Nat × Blk)) : Nat → Nat → Option (List AV)
 | 0, _ => some []
 | k + 1, i => match look i st with
   | some (.lit sz cs) => bif Nat.beq sz 99 && cs.all cellP then (match outsP st k (i + 1) with
     | some l => some (.tup cs :: l)
     | none => none) else none
   | _ => none
def endP (rs : List RV) (nb : Nat) (s : St) : Tree :=
 match resL s rs with
 | some vs => match outsP s.st nb 0 with
   | some outs => match exp 3 s.st (one vs) with
     | some a => .done (.tup (a.1 :: outs))
     | none => .bad 158
   | none => .bad 159
 | none => .bad 160
def runP (c : MCode) (rs : List RV) (args : List AV) (bs : List (List AV)) : Tree :=
 exec c (fun e s => match e with
  | .normal => endP rs bs.length s
  | .ret => endP rs bs.length s
  | .exit _ => .bad 161) (startP args bs)
def endN (rs : List RV) (s : St) : Tree :=
 match resL s rs with
 | some [.ptr b j] => bif Nat.beq j 0 then (match look b s.st with
   | some (.lit _ cs) => bif cs.all cellP then .done (.tup cs) else .bad 162
   | _ => .bad 163) else .bad 164
 | _ => .bad 165
def runN (c : MCode) (rs : List RV) (args : List AV) : Tree :=
 exec c (fun e s => match e with
  | .normal => endN rs s
  | .ret => endN rs s
  | .exit _ => .bad 166) (start args)
end Go.V
namespace Go.V
open Go Go.RowKit
theorem look_setB {b b' : Nat} {k : Blk} : ∀ {l : List (Nat × Blk)}, look b' (setB b k l) = bif Nat.beq b b' then (look b l).map (fun _ => k) else look b' l
 | [] => by cases h : Nat.beq b b' <;> simp [setB, look]
 | p :: r => by
   rw [setB]
   cases h1 : Nat.beq p.1 b with
   | true =>
     have e := Nat.eq_of_beq_eq_true h1
     simp only [cond_true, look, e]
     cases h2 : Nat.beq b b' <;> simp
   | false =>
     simp only [cond_false, look, h1]
     rw [look_setB (l := r)]
     cases h2 : Nat.beq b b' with
     | true =>
       have e := Nat.eq_of_beq_eq_true h2
       subst e
       simp [h1]
     | false => simp
theorem look_drop {b b' : Nat} : ∀ {l : List (Nat × Blk)}, look b' (drop_ b l) = bif Nat.beq b b' then none else look b' l
 | [] => by cases h : Nat.beq b b' <;> simp [drop_, look]
 | p :: r => by
   rw [drop_]
   cases h1 : Nat.beq p.1 b with
   | true =>
     have e := Nat.eq_of_beq_eq_true h1
     simp only [cond_true, look, e]
     rw [look_drop (l := r)]
     cases h2 : Nat.beq b b' <;> simp
   | false =>
     simp only [cond_false, look]
     rw [look_drop (l := r)]
     cases h2 : Nat.beq b b' with
     | true =>
       have e := Nat.eq_of_beq_eq_true h2
       subst e
       simp [h1]
     | false => simp
theorem beq_self (n : Nat) : Nat.beq n n = true := Nat.beq_refl n
theorem look_append {b : Nat} : ∀ {l r : List (Nat × Blk)}, look b (l ++ r) = match look b l with | some k => some k | none => look b r
 | [], r => rfl
 | p :: l, r => by
   simp only [List.cons_append, look]
   cases h : Nat.beq p.1 b with
   | true => rfl
   | false => simp only [cond_false]; exact look_append
structure Here (w0 : Base) (N : Nat) (tm : List (Nat × AV)) (st : Nat → Option Blk) (a : Act) (w : World) (at_ : Nat → Option (Nat × Nat)) (FP : Nat → List Nat) : Prop where
 good : Good ⟨w0, w, at_, st⟩ FP
 defers : a.defers = []
 size : a.tmps.size = N
 loc : ∀ t, Loc ⟨w0, w, at_, st⟩ (slot t tm) (a.tmps.getD t Go.undef)
def Rel (w0 : Base) (N : Nat) (tm : List (Nat × AV)) (st : Nat → Option Blk) (a : Act) (w : World) : Prop := ∃ at_ FP, Here w0 N tm st a w at_ FP
section
variable {w0 : Base} {w w' : World} {N : Nat} {tm tm' : List (Nat × AV)} {st st' : Nat → Option Blk} {a : Act} {at_ at' : Nat → Option (Nat × Nat)} {FP FP' : Nat → List Nat} {x : AV} {v : Value} {d b : Nat}
theorem getD_set (ts : Array Value) (d t : Nat) (v z : Value) : (ts.setIfInBounds d v).getD t z = if d = t ∧ d < ts.size then v else ts.getD t z := by
 rw [Array.getD_eq_getD_getElem?, Array.getD_eq_getD_getElem?, Array.getElem?_setIfInBounds]
 by_cases h : d = t
 ·subst h
  by_cases h2 : d < ts.size
  ·simp [h2]
  ·simp [h2]
 ·simp [h]
theorem Here.put (h : Here w0 N tm st a w at_ FP) (hx : Loc ⟨w0, w, at_, st⟩ x v) (hd : d < N) : Here w0 N ((d, x) :: tm) st (a.put (some d) v) w at_ FP := by
 refine ⟨h.good, h.defers, by simp [Act.put, h.size], fun t => ?_⟩
 show Loc _ (slot t ((d, x) :: tm)) ((a.tmps.setIfInBounds d v).getD t Go.undef)
 rw [getD_set, slot]
 cases e : Nat.beq d t with
 | true =>
   have e := Nat.eq_of_beq_eq_true e
   rw [if_pos ⟨e, by rw [h.size]; exact hd⟩]
   exact hx
 | false =>
   rw [if_neg (fun c => by rw [c.1, Nat.beq_refl] at e; cases e)]
   exact h.loc t
theorem BlkRep.move {E E' : Env} {b : Nat} {blk : Blk} {fp : List Nat} (h : BlkRep E b blk fp) (h0 : E'.w0 = E.w0) (ha : E'.at_ b = E.at_ b)
 (hg : ∀ g base, E.at_ b = some (g, base) → E'.w.heap[g]? = E.w.heap[g]?) (hf : ∀ g ∈ fp, E'.w.heap[g]? = E.w.heap[g]?)
 (hs : ∀ b blk, E.st b = some blk → Stays E E' b blk) : BlkRep E' b blk fp := by
 cases h with
 | lit ha' hg' hc => exact .lit (ha.trans ha') ((hg _ _ ha').trans hg') (fun j x hx => by obtain ⟨u, hu, hl⟩ := hc j x hx; exact ⟨u, hu, hl.move h0 hs⟩)
 | row0 ha' hx => exact .row0 (ha.trans ha') hx
 | row F ha' hg' hr hc =>
   refine .row F (ha.trans ha') ((hg _ _ ha').trans hg') hr (fun i x hx j hj => ?_)
   obtain ⟨u, hu, hl⟩ := hc i x hx j hj
   exact ⟨u, hu, hl.keep (fun g hg => hf g (mem_flat (lt_of_get hx) (mem_flat hj hg)))⟩
theorem BlkRep.root {E : Env} {b : Nat} {blk : Blk} {fp : List Nat} (h : BlkRep E b blk fp) {g base : Nat} (ha : E.at_ b = some (g, base)) : ∃ cells t, E.w.heap[g]? = some (.cells cells t (0, 0)) := by
 cases h with
 | lit ha' hg' hc => rw [ha] at ha'; cases ha'; exact ⟨_, _, hg'⟩
 | row0 ha' hx => rw [ha] at ha'; cases ha'
 | row F ha' hg' hr hc => rw [ha] at ha'; cases ha'; exact ⟨_, _, hg'⟩
theorem BlkRep.inner {E : Env} {b : Nat} {blk : Blk} {fp : List Nat} (h : BlkRep E b blk fp) : ∀ g ∈ fp, g < E.w.heap.size := by
 cases h with
 | lit ha' hg' hc => intro g hg; cases hg
 | row0 ha' hx => intro g hg; cases hg
 | row F ha' hg' hr hc =>
   intro g hg
   obtain ⟨i, hi, hg⟩ := List.mem_flatMap.1 hg
   obtain ⟨j, hj, hg⟩ := List.mem_flatMap.1 hg
   obtain ⟨u, hu, hl⟩ := hc i _ (List.getElem?_eq_getElem (List.mem_range.1 hi)) j (List.mem_range.1 hj)
   exact hl.bound g hg
theorem heap_lt {w : World} {g : Nat} {o : Obj} (h : w.heap[g]? = some o) : g < w.heap.size := (Array.getElem?_eq_some_iff.1 h).1
theorem Good.bound {E : Env} (h : Good E FP) {blk : Blk} (hb : E.st b = some blk) : ∀ g ∈ E.own FP b, g < E.w.heap.size := by
 intro g hg
 have r := h.rep b blk hb
 unfold Env.own at hg
 cases ha : E.at_ b with
 | none => rw [ha] at hg; cases hg
 | some p =>
   obtain ⟨p1, p2⟩ := p
   rw [ha] at hg
   rcases List.mem_cons.1 hg with rfl | hg
   ·obtain ⟨_, _, hc⟩ := r.root ha
    exact heap_lt hc
   ·exact r.inner g hg
theorem Roots.grow {w0 : Base} {w w' : World} {at_ : Nat → Option (Nat × Nat)} {st : Nat → Option Blk} {FP : Nat → List Nat} (h : Roots ⟨w0, w, at_, st⟩) (hg : Good ⟨w0, w, at_, st⟩ FP) (hb : Below w.heap.size w w') : Roots ⟨w0, w', at_, st⟩ :=
 ⟨h.hot, fun b q hq => by
  obtain ⟨h1, h2, cs, h3⟩ := h.lits b q hq
  refine ⟨h1, h2.on ?_, cs, h3⟩
  obtain ⟨_, _, hc⟩ := (hg.rep b _ h3).root (g := q.1) (base := q.2) h1
  exact hb.block _ (heap_lt hc), h.lfx⟩
theorem Here.world (h : Here w0 N tm st a w at_ FP) (hb : Below w.heap.size w w') : Here w0 N tm st a w' at_ FP := by
 have hs : ∀ b blk, (⟨w0, w, at_, st⟩ : Env).st b = some blk → Stays ⟨w0, w, at_, st⟩ ⟨w0, w', at_, st⟩ b blk := fun b blk hb' => by
  refine ⟨⟨blk, hb', Alike.refl _⟩, rfl, fun g base cs t ha hg => ⟨cs, ?_, rfl⟩⟩
  exact (hb.block g (heap_lt hg)).trans hg
 refine ⟨⟨h.good.below.grow hb, fun b blk hb' => ?_, fun b blk hb' => h.good.nodup b blk hb', fun b blk hb' => h.good.base b blk hb', fun b b' blk blk' h1 h2 => h.good.apart b b' blk blk' h1 h2, fun b blk hb' g hg => by
  obtain ⟨cs, t, hc⟩ := h.good.fresh b blk hb' g hg
  exact ⟨cs, t, (hb.block g (heap_lt hc)).trans hc⟩, fun b p hp => by
  obtain ⟨p1, p2, ph, α, enc, xs, p3, p4⟩ := h.good.pins b p hp
  refine ⟨p1, p2, fun hl g base e => (ph hl g base e).on ?_, α, enc, xs, p3, p4⟩
  obtain ⟨_, _, hc⟩ := (h.good.rep b _ p3).root (p1.trans e)
  exact hb.block g (heap_lt hc), h.good.fxp, h.good.rt.grow h.good hb⟩, h.defers, h.size, fun t => (h.loc t).move rfl hs⟩
 have r := h.good.rep b blk hb'
 refine r.move rfl rfl (fun g base ha => ?_) (fun g hg => hb.block g (r.inner g hg)) hs
 obtain ⟨_, _, hc⟩ := r.root ha
 exact hb.block g (heap_lt hc)
def upd {β : Type _} (f : Nat → β) (b : Nat) (x : β) : Nat → β := fun c => if c = b then x else f c
theorem upd_self {β : Type _} (f : Nat → β) (b : Nat) (x : β) : upd f b x b = x := if_pos rfl
theorem upd_ne {β : Type _} (f : Nat → β) {b c : Nat} (x : β) (h : c ≠ b) : upd f b x c = f c := if_neg h
def notFx : Blk → Bool
 | .row _ _ _ true => false
 | .lit sz _ => bif Nat.beq sz 99 then false else true
 | _ => true
theorem notFx_lit' (sz : Nat) (cs : List AV) (h : sz < 99) : notFx (.lit sz cs) = true := by
 have e : Nat.beq sz 99 = false := by
  cases e : Nat.beq sz 99 with
  | false => rfl
  | true => have := Nat.eq_of_beq_eq_true e; omega
 show (bif Nat.beq sz 99 then false else true) = true
 rw [e]; rfl
theorem notFx_lit (sz : Nat) (cs : List AV) (h : sz < 99) : notFx (litBlk sz cs) = true := by
 have e : Nat.beq sz 99 = false := by
  cases e : Nat.beq sz 99 with
  | false => rfl
  | true => have := Nat.eq_of_beq_eq_true e; omega
 unfold litBlk
 split
 ·split <;> rfl
 ·split <;> rfl
 ·show (bif Nat.beq sz 99 then false else true) = true
  rw [e]; rfl
theorem Here.new (h : Here w0 N tm st a w at_ FP) (hb : st b = none) {blk : Blk} {p : Option (Nat × Nat)} {fp : List Nat}
 (hr : BlkRep ⟨w0, w, upd at_ b p, upd st b (some blk)⟩ b blk fp) (hn : (ownOf p fp).Nodup)
 (hbase : ∀ g ∈ (ownOf p fp), w0.free g)
 (hap : ∀ c blk, st c = some blk → ∀ g ∈ (ownOf p fp), g ∉ (⟨w0, w, at_, st⟩ : Env).own FP c) (hfr : ∀ g ∈ (ownOf p fp), Fresh w g) (hhot : ∀ g base, p = some (g, base) → w0.hot g) (hnf : notFx blk = true := by rfl) :
 Here w0 N tm (upd st b (some blk)) a w (upd at_ b p) (upd FP b fp) ∧ ∀ x v, Loc ⟨w0, w, at_, st⟩ x v → Loc ⟨w0, w, upd at_ b p, upd st b (some blk)⟩ x v := by
 have hs : ∀ c k, (⟨w0, w, at_, st⟩ : Env).st c = some k → Stays ⟨w0, w, at_, st⟩ ⟨w0, w, upd at_ b p, upd st b (some blk)⟩ c k := fun c k hc => by
  have hne : c ≠ b := fun e => by subst e; have : st c = some k := hc; rw [hb] at this; cases this
  exact ⟨⟨k, (upd_ne _ _ hne).trans hc, Alike.refl _⟩, upd_ne _ _ hne, fun g base cs t ha hg => ⟨cs, hg, rfl⟩⟩
 have own_b : (⟨w0, w, upd at_ b p, upd st b (some blk)⟩ : Env).own (upd FP b fp) b = (ownOf p fp) := by
  show ownOf (upd at_ b p b) (upd FP b fp b) = ownOf p fp
  rw [upd_self, upd_self]
 have own_c : ∀ c, c ≠ b → (⟨w0, w, upd at_ b p, upd st b (some blk)⟩ : Env).own (upd FP b fp) c = (⟨w0, w, at_, st⟩ : Env).own FP c := fun c hc => by
  show ownOf (upd at_ b p c) (upd FP b fp c) = ownOf (at_ c) (FP c)
  rw [upd_ne _ _ hc, upd_ne _ _ hc]
 have split : ∀ c k, upd st b (some blk) c = some k → (c = b ∧ k = blk) ∨ (c ≠ b ∧ st c = some k) := fun c k hc => by
  by_cases e : c = b
  ·subst e
   rw [upd_self] at hc
   exact .inl ⟨rfl, (Option.some.inj hc).symm⟩
  ·rw [upd_ne _ _ e] at hc
   exact .inr ⟨e, hc⟩
 refine ⟨⟨⟨h.good.below, fun c k hc => ?_, fun c k hc => ?_, fun c k hc => ?_, fun c c' k k' hc hc' hne => ?_, fun c k hc => ?_, fun c p hp => ?_, fun c β sz' enc' xs' hc => ?_, ⟨fun c k hc g base hg => ?_, fun c q hq => ?_, fun c cs hc => ?_⟩⟩, h.defers, h.size, fun t => (h.loc t).move rfl hs⟩, fun x v hx => hx.move rfl hs⟩
 ·rcases split c k hc with ⟨rfl, rfl⟩ | ⟨e, hc⟩
  ·rw [upd_self]; exact hr
  ·rw [upd_ne _ _ e]
   exact (h.good.rep c k hc).move rfl (upd_ne _ _ e) (fun _ _ _ => rfl) (fun _ _ => rfl) hs
 ·rcases split c k hc with ⟨rfl, rfl⟩ | ⟨e, hc⟩
  ·rw [own_b]; exact hn
  ·rw [own_c c e]; exact h.good.nodup c k hc
 ·rcases split c k hc with ⟨rfl, rfl⟩ | ⟨e, hc⟩
  ·rw [own_b]; exact hbase
  ·rw [own_c c e]; exact h.good.base c k hc
 ·rcases split c k hc with ⟨e, e2⟩ | ⟨e, hk⟩
  ·rcases split c' k' hc' with ⟨e', e2'⟩ | ⟨e', hk'⟩
   ·exact absurd (e.trans e'.symm) hne
   ·rw [e, own_b, own_c c' e']; exact hap c' k' hk'
  ·rcases split c' k' hc' with ⟨e', e2'⟩ | ⟨e', hk'⟩
   ·rw [e', own_b, own_c c e]
    exact fun g hg hg' => hap c k hk g hg' hg
   ·rw [own_c c e, own_c c' e']; exact h.good.apart c c' k k' hk hk' hne
 ·rcases split c k hc with ⟨rfl, rfl⟩ | ⟨e, hc⟩
  ·rw [own_b]; exact hfr
  ·rw [own_c c e]; exact h.good.fresh c k hc
 ·obtain ⟨p1, p2, ph, α, enc, xs, p3, p4⟩ := h.good.pins c p hp
  have e : c ≠ b := fun e => by subst e; have p3 : st c = _ := p3; rw [hb] at p3; cases p3
  exact ⟨(upd_ne _ _ e).trans p1, (upd_ne _ _ e).trans p2, ph, α, enc, xs, (upd_ne _ _ e).trans p3, p4⟩
 ·rcases split c _ hc with ⟨rfl, rfl⟩ | ⟨e, hc⟩
  ·cases hnf
  ·exact h.good.fxp c β sz' enc' xs' hc
 ·have hg2 : upd at_ b p c = some (g, base) := hg
  rcases split c k hc with ⟨e, _⟩ | ⟨e, hc⟩
  ·rw [e, upd_self] at hg2; exact hhot g base hg2
  ·rw [upd_ne _ _ e] at hg2; exact h.good.rt.hot c k hc g base hg2
 ·obtain ⟨h1, h2, cs, h3⟩ := h.good.rt.lits c q hq
  have e : c ≠ b := fun e => by subst e; have h3 : st c = _ := h3; rw [hb] at h3; cases h3
  exact ⟨(upd_ne _ _ e).trans h1, h2, cs, (upd_ne _ _ e).trans h3⟩
 ·rcases split c _ hc with ⟨rfl, e⟩ | ⟨e, hc⟩
  ·rw [← e] at hnf; cases hnf
  ·exact h.good.rt.lfx c cs hc
structure Wrote (w w' : World) (g : Nat) (cells : Array Value) (t : TypeId) : Prop where
 os : w'.os = w.os
 tape : w'.tape = w.tape
 output : w'.output = w.output
 size : w'.heap.size = w.heap.size
 here : w'.heap[g]? = some (.cells cells t (0, 0))
 else_ : ∀ k, k ≠ g → w'.heap[k]? = w.heap[k]?
theorem Wrote.mod {B : Base} {g : Nat} {cells cells0 : Array Value} {t : TypeId} (h : Wrote w w' g cells t) (hB : B.hot g) (hg : w.heap[g]? = some (.cells cells0 t (0, 0))) (hs : cells.size = cells0.size) : Mod B w w' :=
 ⟨h.os, h.tape, h.output, by rw [h.size]; exact Nat.le_refl _, fun k hk hm => h.else_ k (fun e => by subst e; rcases hB with h1 | h1; omega; exact hm h1), fun q cs t' _ hq => by
  by_cases e : q = g
  ·subst e
   rw [hg] at hq
   cases hq
   exact ⟨cells, h.here, hs⟩
  ·exact ⟨cs, (h.else_ q e).trans hq, rfl⟩⟩
theorem Wrote.below {g : Nat} {cells : Array Value} {t : TypeId} (h : Wrote w w' g cells t) {B : Nat} (hB : B ≤ g) : Below B w w' :=
 ⟨h.os, h.tape, h.output, by rw [h.size]; exact Nat.le_refl _, fun k hk => h.else_ k (by omega)⟩
theorem Here.write (h : Here w0 N tm st a w at_ FP) {blk blk' : Blk} {g base : Nat} {cells cells' : Array Value} {t : TypeId} {fp : List Nat}
 (hb : st b = some blk) (ha : at_ b = some (g, base)) (hg : w.heap[g]? = some (.cells cells t (0, 0))) (hw : Wrote w w' g cells' t) (hsz : cells'.size = cells.size) (hk : Alike blk blk')
 (hr : (∀ x v, Loc ⟨w0, w, at_, st⟩ x v → Loc ⟨w0, w', at_, upd st b (some blk')⟩ x v) → BlkRep ⟨w0, w', at_, upd st b (some blk')⟩ b blk' fp) (hn : (g :: fp).Nodup) (hbase : ∀ q ∈ fp, w0.free q) (hfr : ∀ q ∈ fp, Fresh w q)
 (hap : ∀ c k, c ≠ b → st c = some k → ∀ q ∈ fp, q ∉ (⟨w0, w, at_, st⟩ : Env).own FP c) (hpin : w0.pin b = none) (hlit : ∀ q, w0.lpin b = some q → Heads w w' g) :
 Here w0 N tm (upd st b (some blk')) a w' at_ (upd FP b fp) := by
 have gown : g ∈ (⟨w0, w, at_, st⟩ : Env).own FP b := by unfold Env.own; rw [show (⟨w0, w, at_, st⟩ : Env).at_ b = _ from ha]; exact List.mem_cons_self ..
 have gH : w0.hot g := h.good.rt.hot b blk hb g base ha
 have gB : w0.free g := gH.free
 have notin : ∀ c k, c ≠ b → st c = some k → g ∉ (⟨w0, w, at_, st⟩ : Env).own FP c := fun c k hc hk => h.good.apart b c blk k hb hk (fun e => hc e.symm) g gown
 have hs : ∀ c k, (⟨w0, w, at_, st⟩ : Env).st c = some k → Stays ⟨w0, w, at_, st⟩ ⟨w0, w', at_, upd st b (some blk')⟩ c k := fun c k hc => by
  by_cases e : c = b
  ·subst e
   have hc' : st c = some k := hc
   rw [hb] at hc'
   cases hc'
   refine ⟨⟨blk', upd_self _ _ _, hk⟩, rfl, fun g' base' cs t' ha' hg' => ?_⟩
   have ha2 : at_ c = some (g', base') := ha'
   rw [ha] at ha2
   cases ha2
   have hg2 : w.heap[g]? = some (.cells cs t' (0, 0)) := hg'
   rw [hg] at hg2
   cases hg2
   exact ⟨cells', hw.here, hsz⟩
  ·refine ⟨⟨k, (upd_ne _ _ e).trans hc, Alike.refl _⟩, rfl, fun g' base' cs t' ha' hg' => ⟨cs, ?_, rfl⟩⟩
   have : g' ≠ g := fun e' => notin c k e hc (by unfold Env.own; rw [show (⟨w0, w, at_, st⟩ : Env).at_ c = some (g', base') from ha', ← e']; exact List.mem_cons_self ..)
   exact (hw.else_ g' this).trans hg'
 have own_b : (⟨w0, w', at_, upd st b (some blk')⟩ : Env).own (upd FP b fp) b = g :: fp := by
  unfold Env.own
  rw [show (⟨w0, w', at_, upd st b (some blk')⟩ : Env).at_ b = _ from ha, upd_self]
  rfl
 have own_c : ∀ c, c ≠ b → (⟨w0, w', at_, upd st b (some blk')⟩ : Env).own (upd FP b fp) c = (⟨w0, w, at_, st⟩ : Env).own FP c := fun c hc => by
  unfold Env.own
  rw [upd_ne _ _ hc]
 have split : ∀ c k, upd st b (some blk') c = some k → (c = b ∧ k = blk') ∨ (c ≠ b ∧ st c = some k) := fun c k hc => by
  by_cases e : c = b
  ·subst e
   rw [upd_self] at hc
   exact .inl ⟨rfl, (Option.some.inj hc).symm⟩
  ·rw [upd_ne _ _ e] at hc
   exact .inr ⟨e, hc⟩
 refine ⟨⟨h.good.below.mod (hw.mod gH hg hsz), fun c k hc => ?_, fun c k hc => ?_, fun c k hc => ?_, fun c c' k k' hc hc' hne => ?_, fun c k hc => ?_, fun c p hp => ?_, fun c β sz' enc' xs' hc => ?_, ⟨fun c k hc g' base' hg' => ?_, fun c q hq => ?_, fun c cs hc => ?_⟩⟩, h.defers, h.size, fun t => (h.loc t).move rfl hs⟩
 ·rcases split c k hc with ⟨rfl, rfl⟩ | ⟨e, hc⟩
  ·rw [upd_self]
   exact hr (fun x v hx => hx.move rfl hs)
  ·rw [upd_ne _ _ e]
   have r := h.good.rep c k hc
   refine r.move rfl rfl (fun g' base' ha' => hw.else_ g' (fun e' => ?_)) (fun q hq => hw.else_ q (fun e' => ?_)) hs
   ·exact notin c k e hc (by unfold Env.own; rw [show (⟨w0, w, at_, st⟩ : Env).at_ c = some (g', base') from ha', ← e']; exact List.mem_cons_self ..)
   ·refine notin c k e hc ?_
    unfold Env.own
    cases hac : at_ c with
    | none =>
      exfalso
      have hq : q ∈ FP c := hq
      generalize FP c = fq at r hq
      cases r with
      | lit ha' _ _ => rw [show at_ c = _ from ha'] at hac; cases hac
      | row0 ha' _ => cases hq
      | row F ha' _ _ _ => rw [show at_ c = _ from ha'] at hac; cases hac
    | some p => rw [show (⟨w0, w, at_, st⟩ : Env).at_ c = _ from hac, ← e']; exact List.mem_cons_of_mem _ hq
 ·rcases split c k hc with ⟨rfl, rfl⟩ | ⟨e, hc⟩
  ·rw [own_b]; exact hn
  ·rw [own_c c e]; exact h.good.nodup c k hc
 ·rcases split c k hc with ⟨rfl, rfl⟩ | ⟨e, hc⟩
  ·rw [own_b]
   intro q hq
   rcases List.mem_cons.1 hq with rfl | hq
   ·exact gB
   ·exact hbase q hq
  ·rw [own_c c e]; exact h.good.base c k hc
 ·rcases split c k hc with ⟨e, e2⟩ | ⟨e, hk⟩
  ·rcases split c' k' hc' with ⟨e', e2'⟩ | ⟨e', hk'⟩
   ·exact absurd (e.trans e'.symm) hne
   ·rw [e, own_b, own_c c' e']
    intro q hq
    rcases List.mem_cons.1 hq with rfl | hq
    ·exact notin c' k' e' hk'
    ·exact hap c' k' e' hk' q hq
  ·rcases split c' k' hc' with ⟨e', e2'⟩ | ⟨e', hk'⟩
   ·rw [e', own_b, own_c c e]
    intro q hq hq'
    rcases List.mem_cons.1 hq' with rfl | hq'
    ·exact notin c k e hk hq
    ·exact hap c k e hk q hq' hq
   ·rw [own_c c e, own_c c' e']; exact h.good.apart c c' k k' hk hk' hne
 ·have keep : ∀ q, Fresh w q → Fresh w' q := fun q ⟨cs, t', hc⟩ => by
   by_cases e : q = g
   ·subst e; exact ⟨_, _, hw.here⟩
   ·exact ⟨cs, t', (hw.else_ q e).trans hc⟩
  rcases split c k hc with ⟨rfl, rfl⟩ | ⟨e, hc⟩
  ·rw [own_b]
   intro q hq
   rcases List.mem_cons.1 hq with rfl | hq
   ·exact ⟨_, _, hw.here⟩
   ·exact keep q (hfr q hq)
  ·rw [own_c c e]
   exact fun q hq => keep q (h.good.fresh c k hc q hq)
 ·obtain ⟨p1, p2, ph, α, enc, xs, p3, p4⟩ := h.good.pins c p hp
  have e : c ≠ b := fun e => by subst e; rw [hpin] at hp; cases hp
  refine ⟨p1, (upd_ne _ _ e).trans p2, fun hl g' base' e' => (ph hl g' base' e').on (hw.else_ g' (fun e2 => ?_)), α, enc, xs, (upd_ne _ _ e).trans p3, p4⟩
  have p1 : at_ c = p.place := p1
  exact notin c _ e p3 (by unfold Env.own; rw [show (⟨w0, w, at_, st⟩ : Env).at_ c = some (g', base') from p1.trans e', ← e2]; exact List.mem_cons_self ..)
 ·rcases split c _ hc with ⟨rfl, rfl⟩ | ⟨e, hc⟩
  ·cases hk with
   | row hl => exact h.good.fxp c β sz' enc' _ hb
  ·exact h.good.fxp c β sz' enc' xs' hc
 ·rcases split c k hc with ⟨rfl, rfl⟩ | ⟨e, hc⟩
  ·exact h.good.rt.hot c blk hb g' base' hg'
  ·exact h.good.rt.hot c k hc g' base' hg'
 ·obtain ⟨h1, h2, cs, h3⟩ := h.good.rt.lits c q hq
  have h1 : at_ c = some q := h1
  have h3 : st c = some (.lit 99 cs) := h3
  by_cases e : c = b
  ·subst e
   rw [hb] at h3
   cases h3
   rw [ha] at h1
   cases h1
   cases hk with
   | lit hl => exact ⟨ha, h2.trans (hlit _ hq), _, upd_self _ _ _⟩
  ·refine ⟨h1, h2.on (hw.else_ q.1 (fun e' => notin c _ e h3 ?_)), cs, (upd_ne _ _ e).trans h3⟩
   unfold Env.own
   rw [show (⟨w0, w, at_, st⟩ : Env).at_ c = some q from h1, ← e']
   exact List.mem_cons_self ..
 ·rcases split c _ hc with ⟨rfl, e⟩ | ⟨e, hc⟩
  ·cases hk with
   | row => cases e
   | lit hl => cases e; exact h.good.rt.lfx c _ hb
  ·exact h.good.rt.lfx c cs hc
theorem Here.nopin (h : Here w0 N tm st a w at_ FP) {b : Nat} (hb : ∀ (α : Type) (sz : Nat) (enc : α → Nat → AV) (xs : Unit → List α), st b ≠ some (.row sz enc xs true)) : w0.pin b = none := by
 cases e : w0.pin b with
 | none => rfl
 | some p =>
   obtain ⟨_, _, _, α, enc, xs, p3, _⟩ := h.good.pins b p e
   exact absurd p3 (hb α p.sz enc xs)
end
end Go.V
namespace Go.V
open Go Go.RowKit
inductive LeD : AV → AV → Prop
 | same (x : AV) : LeD x x
 | int {k : IntKind} {n m : Unit → Int} (h : n () = m ()) : LeD (.int k n) (.int k m)
 | str {s u : Unit → ByteArray} (h : s () = u ()) : LeD (.str s) (.str u)
 | nil {α : Type} {sz : Nat} {enc : α → Nat → AV} {xs : Unit → List α} (h : xs () = []) : LeD .nil (.sl sz enc xs)
 | emp {α : Type} {sz : Nat} {enc : α → Nat → AV} {xs : Unit → List α} (h : xs () = []) : LeD .emp (.sl sz enc xs)
 | sl {α : Type} {sz : Nat} {enc : α → Nat → AV} {xs ys : Unit → List α} (h : xs () = ys ()) : LeD (.sl sz enc xs) (.sl sz enc ys)
 | agg {cs ds : List AV} (hl : ds.length = cs.length) (h : ∀ (i : Nat) (x y : AV), cs[i]? = some x → ds[i]? = some y → LeD x y) : LeD (.agg cs) (.agg ds)
 | tup {cs ds : List AV} (hl : ds.length = cs.length) (h : ∀ (i : Nat) (x y : AV), cs[i]? = some x → ds[i]? = some y → LeD x y) : LeD (.tup cs) (.tup ds)
 | rptr {cs ds : List AV} (hl : ds.length = cs.length) (h : ∀ (i : Nat) (x y : AV), cs[i]? = some x → ds[i]? = some y → LeD x y) : LeD (.rptr cs) (.rptr ds)
 | lsl {cs ds : List AV} (hl : ds.length = cs.length) (h : ∀ (i : Nat) (x y : AV), cs[i]? = some x → ds[i]? = some y → LeD x y) : LeD (.lsl cs) (.lsl ds)
 | clo {f : Nat} {cs ds : List AV} (hl : ds.length = cs.length) (h : ∀ (i : Nat) (x y : AV), cs[i]? = some x → ds[i]? = some y → LeD x y) : LeD (.clo f cs) (.clo f ds)
 | lsl1 {α : Type} {enc : α → Nat → AV} {xs : Unit → List α} {cs : List AV} (hl : (xs ()).length = cs.length) (h : ∀ (i : Nat) (x : AV) (y : α), cs[i]? = some x → (xs ())[i]? = some y → LeD x (enc y 0)) : LeD (.lsl cs) (.sl 1 enc xs)
theorem get_of_len {α β : Type _} {l : List α} {r : List β} (h : r.length = l.length) {i : Nat} {y : β} (hy : r[i]? = some y) : ∃ x, l[i]? = some x :=
 ⟨l[i]'(by have := lt_of_get hy; omega), List.getElem?_eq_getElem _⟩
theorem LeD.deep {w : World} {x y : AV} (h : LeD x y) : ∀ {v : Value} {fp : List Nat}, Deep w x v fp → Deep w y v fp := by
 induction h with
 | same x => exact fun h => h
 | int h => intro v fp hd; cases hd; rw [h]; exact .int _ _
 | str h => intro v fp hd; cases hd; rw [h]; exact .str _
 | nil h => intro v fp hd; cases hd; exact .sl0 _ h
 | emp h => intro v fp hd; cases hd; exact .sl0 _ h
 | @sl α sz enc xs ys h =>
   intro v fp hd
   cases hd with
   | sl0 A he => exact .sl0 A (h ▸ he)
   | sl u F hn hg hr hu hd =>
     rw [h] at hn hu hd ⊢
     exact .sl u F hn hg hr hu hd
 | agg hl h ih =>
   intro v fp hd
   cases hd with
   | agg F hl' hd =>
     rw [← hl]
     refine .agg F (hl'.trans hl.symm) (fun i y hy => ?_)
     obtain ⟨x, hx⟩ := get_of_len hl hy
     exact ih i x y hx hy (hd i x hx)
 | tup hl h ih =>
   intro v fp hd
   cases hd with
   | tup F hl' hd =>
     rw [← hl]
     refine .tup F (hl'.trans hl.symm) (fun i y hy => ?_)
     obtain ⟨x, hx⟩ := get_of_len hl hy
     exact ih i x y hx hy (hd i x hx)
 | clo hl h ih =>
   intro v fp hd
   cases hd with
   | clo F hl' hd =>
     rw [← hl]
     refine .clo F (hl'.trans hl.symm) (fun i y hy => ?_)
     obtain ⟨x, hx⟩ := get_of_len hl hy
     exact ih i x y hx hy (hd i x hx)
 | rptr hl h ih =>
   intro v fp hd
   cases hd with
   | rptr u F hg hu hd =>
     rw [← hl]
     refine .rptr u F hg (fun i y hy => ?_) (fun i y hy => ?_)
     ·obtain ⟨x, hx⟩ := get_of_len hl hy
      exact hu i x hx
     ·obtain ⟨x, hx⟩ := get_of_len hl hy
      exact ih i x y hx hy (hd i x hx)
 | @lsl1 α enc xs cs hl h ih =>
   intro v fp hd
   cases hd with
   | @lsl _ g off cap _ t fr u F hn hg hr hu hd =>
     have d := Deep.sl (w := w) (sz := 1) (enc := enc) (xs := xs) (g := g) (off := off) (cap := cap) (t := t) (fr := fr) (fun i _ => u i) (fun i _ => F i) (by omega) hg (by omega) (fun i y hy j hj => by
      obtain ⟨x, hx⟩ := get_of_len hl hy
      have : j = 0 := by omega
      subst this
      rw [Nat.mul_one, Nat.add_zero]
      exact hu i x hx) (fun i y hy j hj => by
      obtain ⟨x, hx⟩ := get_of_len hl hy
      have : j = 0 := by omega
      subst this
      exact ih i x y hx hy (hd i x hx))
     rw [hl] at d
     have e : ((List.range cs.length).flatMap fun i => (List.range 1).flatMap ((fun i _ => F i) i)) = (List.range cs.length).flatMap F := by
      congr 1
      funext i
      simp
     rw [e] at d
     exact d
 | lsl hl h ih =>
   intro v fp hd
   cases hd with
   | lsl u F hn hg hr hu hd =>
     rw [← hl] at hn ⊢
     refine .lsl u F hn hg hr (fun i y hy => ?_) (fun i y hy => ?_)
     ·obtain ⟨x, hx⟩ := get_of_len hl hy
      exact hu i x hx
     ·obtain ⟨x, hx⟩ := get_of_len hl hy
      exact ih i x y hx hy (hd i x hx)
def tabN : String := "internal/strconv.uint64pow10"
def lenN : String := "internal/bytealg.MaxLen"
def Tb (P : Program) (w : World) : Prop := (∀ g, P.globalNamed tabN = some g → Lib.TabIs P w tabN .u64 Lib.pow10Tab) ∧ ∀ g, P.globalNamed lenN = some g → ∃ m, w.cell? ⟨g, 0, none⟩ = some (.int .i64 m)
class TbOk (P : Program) (B : Base) : Prop where
 ok : ∀ w, Kept B w → Tb P w
theorem Tb.stay {P : Program} {w w' : World} (h : Tb P w) (hb : ∀ (g : Nat) (o : Obj), w.heap[g]? = some o → w'.heap[g]? = some o) : Tb P w' := by
 refine ⟨fun g hg => ?_, fun g hg => ?_⟩
 ·have h1 := h.1 g hg
  unfold Lib.TabIs World.var? at h1 ⊢
  simp only [hg, Option.bind_some] at h1 ⊢
  cases ho : w.heap[g]? with
  | none => simp [ho] at h1
  | some o => rw [ho] at h1; rw [hb g o ho]; exact h1
 ·obtain ⟨m, h1⟩ := h.2 g hg
  refine ⟨m, ?_⟩
  unfold World.cell? at h1 ⊢
  cases ho : w.heap[g]? with
  | none => simp [ho] at h1
  | some o => rw [ho] at h1; rw [hb g o ho]; exact h1
theorem TbOk.of {P : Program} {w : World} {pin : Nat → Option Pin} {more : Nat → Prop} {lpin : Nat → Option (Nat × Nat)} {ban : Nat → Prop} (h : Tb P w) : TbOk P ⟨w, fun _ => False, pin, more, lpin, ban⟩ :=
 ⟨fun w' hk => h.stay (fun g o ho => (hk.block g (Array.getElem?_eq_some_iff.1 ho).1 (fun h => h)).trans ho)⟩
theorem TbOk.lent {P : Program} {w0 : Base} [TbOk P w0] {w : World} {lent : Nat → Prop} {pn : Nat → Option Pin} {rn : Nat → Prop} {ln : Nat → Option (Nat × Nat)} {bn : Nat → Prop} (hk0 : Kept w0 w) (hhot : ∀ g, lent g → w0.hot g) : TbOk P ⟨w, lent, pn, rn, ln, bn⟩ :=
 ⟨fun w' hk => TbOk.ok w' (hk0.mod ⟨hk.os, hk.tape, hk.output, hk.size, fun k h1 h2 => hk.block k (Nat.lt_of_lt_of_le h1 hk0.size) (fun hl => (hhot k hl).elim (fun h => absurd h (by omega)) h2), fun g cs t hg hw => by
  by_cases hl : lent g
  ·obtain ⟨cs1, t1, cs2, h1, h2, h3⟩ := hk.shape g hl
   have e : w.heap[g]? = some (.cells cs1 t1 (0, 0)) := h1
   rw [hw] at e
   cases e
   exact ⟨cs2, h2, h3⟩
  ·exact ⟨cs, (hk.block g (Array.getElem?_eq_some_iff.1 hw).1 hl).trans hw, rfl⟩⟩)⟩
def Callable (P : Program) (f : Nat) : Prop := ∃ fn, P.funcs[f]? = some fn ∧ fn.name ≠ "runtime.NumGoroutine" ∧ fn.body.isSome = true
def Fn (P : Program) (f : Nat) (args : List AV) (r : AV) : Prop := Callable P f ∧
 ∀ (w : World) (vs : Array Value) (F : Nat → List Nat), Tb P w → vs.size = args.length → (∀ (i : Nat) (x : AV), args[i]? = some x → Deep w x (vs.getD i undef) (F i)) →
   Calls P f vs w fun e w' => ∃ v fp, e = .returned v ∧ Deep w' r v fp ∧ fp.Nodup ∧ (∀ g ∈ fp, w.heap.size ≤ g ∧ ∃ cs t, w'.heap[g]? = some (.cells cs t (0, 0))) ∧ Below w.heap.size w w'
inductive ArgRep (w : World) (sv : Nat → Value) (nb : Nat) (lent : Nat → Prop) : AV → Value → Prop
 | deep {x : AV} {v : Value} {fp : List Nat} (h : Deep w x v fp) (ho : ∀ g ∈ fp, ¬ lent g) : ArgRep w sv nb lent x v
 | lent (i : Nat) (hi : i < nb) : ArgRep w sv nb lent (.ptr i 0) (sv i)
 | agg {cs : List AV} {us : Array Value} (hl : us.size = cs.length) (hd : ∀ i x, cs[i]? = some x → ArgRep w sv nb lent x (us.getD i Go.undef)) : ArgRep w sv nb lent (.agg cs) (.agg us)
def ViewOf (w : World) (va : Value) (sz off n : Nat) (v : Value) : Prop := ∃ A len cap, va = .slice A len cap ∧ off + n ≤ len ∧ ∃ A' cap', v = .slice A' n cap' ∧ n ≤ cap' ∧ (cap' = 0 ∨ (0 < cap ∧ ∃ g o cs t, A = some ⟨g, o, none⟩ ∧ A' = some ⟨g, o + off * sz, none⟩ ∧ w.heap[g]? = some (.cells cs t (0, 0)) ∧ o + (off + cap') * sz ≤ cs.size))
inductive RetRep (w w' : World) (sv : Nat → Value) (bs : List AV) : AV → Value → Prop
 | val {x : AV} {v : Value} {fp : List Nat} (h : Deep w' x v fp) (hn : fp.Nodup) (hf : ∀ g ∈ fp, w.heap.size ≤ g ∧ ∃ cs t, w'.heap[g]? = some (.cells cs t (0, 0))) : RetRep w w' sv bs (.agg [x]) v
 | view {i : Nat} {off n : Unit → Int} {k k' : IntKind} {o m : Nat} {α : Type} {sz : Nat} {enc : α → Nat → AV} {xs : Unit → List α} {v : Value} (hb : bs[i]? = some (.sl sz enc xs)) (ho : off () = o) (hm : n () = m) (h : ViewOf w' (sv i) sz o m v) : RetRep w w' sv bs (.clo i [.int k off, .int k' n]) v
inductive SameRow : AV → AV → Prop
 | mk {α : Type} {sz : Nat} {enc : α → Nat → AV} {xs ys : Unit → List α} (h : (ys ()).length = (xs ()).length) : SameRow (.sl sz enc xs) (.sl sz enc ys)
def FnM (P : Program) (f : Nat) (args bs : List AV) (ret : AV) (outs : List AV) : Prop := Callable P f ∧ (outs.length = bs.length ∧ ∀ (i : Nat) (B B' : AV), bs[i]? = some B → outs[i]? = some B' → SameRow B B') ∧
 ∀ (w : World) (vs : Array Value) (sv : Nat → Value) (fp : Nat → List Nat), TbOk P ⟨w, fun g => ∃ i, i < bs.length ∧ g ∈ fp i, fun _ => none, fun _ => False, fun _ => none, fun _ => False⟩ → (∀ (i : Nat) (B : AV), bs[i]? = some B → Deep w B (sv i) (fp i) ∧ (fp i).Nodup ∧ ∀ g ∈ fp i, ∃ cs t, w.heap[g]? = some (.cells cs t (0, 0))) →
   (∀ i j, i < bs.length → j < bs.length → i ≠ j → ∀ g ∈ fp i, g ∉ fp j) → vs.size = args.length → (∀ (i : Nat) (x : AV), args[i]? = some x → ArgRep w sv bs.length (fun g => ∃ i, i < bs.length ∧ g ∈ fp i) x (vs.getD i Go.undef)) →
   Calls P f vs w fun e w' => ∃ v, e = .returned v ∧ (∀ (i : Nat) (B : AV), outs[i]? = some B → Deep w' B (sv i) (fp i)) ∧ RetRep w w' sv bs ret v ∧ Kept ⟨w, fun g => ∃ i, i < bs.length ∧ g ∈ fp i, fun _ => none, fun _ => False, fun _ => none, fun _ => False⟩ w' ∧ ∀ (i g o n cap : Nat), i < bs.length → sv i = .slice (some ⟨g, o, none⟩) n cap → 0 < n → Heads w w' g
def CellsRep (w : World) (lent : Nat → Prop) (arr : Array Value) (off : Nat) (cs : List AV) : Prop := ∀ (j : Nat) (x : AV), cs[j]? = some x → ∃ u fp, arr[off + j]? = some u ∧ Deep w x u fp ∧ ∀ g ∈ fp, ¬ lent g
def FnP (P : Program) (f : Nat) (args : List AV) (bs : List (List AV)) (Φ : AV → List (List AV) → Prop) : Prop := Callable P f ∧
 ∀ (w : World) (vs : Array Value) (gs os : Nat → Nat) (arr : Nat → Array Value) (ty : Nat → TypeId), TbOk P ⟨w, fun g => ∃ i, i < bs.length ∧ g = gs i, fun _ => none, fun _ => False, fun _ => none, fun _ => False⟩ →
   (∀ i cs, bs[i]? = some cs → w.heap[gs i]? = some (.cells (arr i) (ty i) (0, 0)) ∧ cs.all cellP = true ∧ CellsRep w (fun g => ∃ i, i < bs.length ∧ g = gs i) (arr i) (os i) cs) →
   (∀ i j, i < bs.length → j < bs.length → i ≠ j → gs i ≠ gs j) → vs.size = args.length →
   (∀ (i : Nat) (x : AV), args[i]? = some x → ArgRep w (fun i => .pointer (some ⟨gs i, os i, none⟩)) bs.length (fun g => ∃ i, i < bs.length ∧ g = gs i) x (vs.getD i Go.undef)) →
   Calls P f vs w fun e w' => ∃ v ret outs fp, e = .returned v ∧ Φ ret outs ∧ outs.length = bs.length ∧ Deep w' ret v fp ∧ fp.Nodup ∧ (∀ g ∈ fp, w.heap.size ≤ g ∧ ∃ cs t, w'.heap[g]? = some (.cells cs t (0, 0))) ∧
    Kept ⟨w, fun g => ∃ i, i < bs.length ∧ g = gs i, fun _ => none, fun _ => False, fun _ => none, fun _ => False⟩ w' ∧
    ∀ i cs, outs[i]? = some cs → ∃ arr', w'.heap[gs i]? = some (.cells arr' (ty i) (0, 0)) ∧ arr'.size = (arr i).size ∧ Heads w w' (gs i) ∧ ∀ (j : Nat) (x : AV), cs[j]? = some x → ∃ u, arr'[os i + j]? = some u ∧ ((flatS x = true ∧ Deep w' x u []) ∨ (flatS x = false ∧ (arr i)[os i + j]? = some u))
def FnN (P : Program) (f : Nat) (args : List AV) (Φ : List AV → Prop) : Prop := Callable P f ∧
 ∀ (w : World) (vs : Array Value) (F : Nat → List Nat) (L : Nat → Prop), Tb P w → vs.size = args.length → (∀ (i : Nat) (x : AV), args[i]? = some x → Deep w x (vs.getD i undef) (F i)) → (∀ i, i < args.length → ∀ q ∈ F i, ¬ L q) →
   Calls P f vs w fun e w' => ∃ g off arr t cs, e = .returned (.pointer (some ⟨g, off, none⟩)) ∧ Φ cs ∧ w.heap.size ≤ g ∧ w'.heap[g]? = some (.cells arr t (0, 0)) ∧ CellsRep w' (fun q => q = g ∨ L q) arr off cs ∧ Below w.heap.size w w'
def phantom : Blk → Prop
 | .row _ _ xs false => xs () = []
 | _ => False
inductive LeB : Blk → Blk → Prop
 | same (b : Blk) : LeB b b
 | row {α : Type} {sz : Nat} {enc : α → Nat → AV} {xs ys : Unit → List α} {fx : Bool} (h : xs () = ys ()) : LeB (.row sz enc xs fx) (.row sz enc ys fx)
inductive LeV (st st1 : List (Nat × Blk)) : AV → AV → Prop
 | any (x : AV) : LeV st st1 x .any
 | undef : LeV st st1 .undef .undef
 | int {k : IntKind} {n m : Unit → Int} (h : n () = m ()) : LeV st st1 (.int k n) (.int k m)
 | bo (b : Bool) : LeV st st1 (.bo b) (.bo b)
 | str {s u : Unit → ByteArray} (h : s () = u ()) : LeV st st1 (.str s) (.str u)
 | nil : LeV st st1 .nil .nil
 | emp : LeV st st1 .emp .emp
 | sl {α : Type} {sz : Nat} {enc : α → Nat → AV} {xs ys : Unit → List α} (h : xs () = ys ()) : LeV st st1 (.sl sz enc xs) (.sl sz enc ys)
 | ref {b : Nat} {off n off' n' : Unit → Nat} (hb : look b st1 ≠ none) (hb' : look b st ≠ none) (h : off () = off' ()) (hn : n () = n' ()) : LeV st st1 (.ref b off n) (.ref b off' n')
 | nilref {b : Nat} {off n : Unit → Nat} (hb : look b st1 ≠ none) (hb' : look b st = none) (h : off () = 0) (hn : n () = 0) : LeV st st1 .nil (.ref b off n)
 | empref {b : Nat} {off n : Unit → Nat} (hb : look b st1 ≠ none) (hb' : look b st = none) (h : off () = 0) (hn : n () = 0) : LeV st st1 .emp (.ref b off n)
 | ptr {b j : Nat} (hb : look b st1 ≠ none) : LeV st st1 (.ptr b j) (.ptr b j)
 | rptr (cs : List AV) : LeV st st1 (.rptr cs) (.rptr cs)
 | lsl (cs : List AV) : LeV st st1 (.lsl cs) (.lsl cs)
 | agg {cs ds : List AV} (hl : ds.length = cs.length) (h : ∀ (i : Nat) (x y : AV), cs[i]? = some x → ds[i]? = some y → LeV st st1 x y) : LeV st st1 (.agg cs) (.agg ds)
 | clo {f : Nat} {cs ds : List AV} (hl : ds.length = cs.length) (h : ∀ (i : Nat) (x y : AV), cs[i]? = some x → ds[i]? = some y → LeV st st1 x y) : LeV st st1 (.clo f cs) (.clo f ds)
inductive LeK (st st1 : List (Nat × Blk)) : Blk → Blk → Prop
 | lit {sz : Nat} {cs ds : List AV} (hl : ds.length = cs.length) (h : ∀ (i : Nat) (x y : AV), cs[i]? = some x → ds[i]? = some y → LeV st st1 x y) : LeK st st1 (.lit sz cs) (.lit sz ds)
 | row {α : Type} {sz : Nat} {enc : α → Nat → AV} {xs ys : Unit → List α} {fx : Bool} (h : xs () = ys ()) : LeK st st1 (.row sz enc xs fx) (.row sz enc ys fx)
structure LeS (s s1 : St) : Prop where
 tm : ∀ t, LeV s.st s1.st (slot t s.tm) (slot t s1.tm)
 st : ∀ b k, look b s1.st = some k → (∃ k', look b s.st = some k' ∧ LeK s.st s1.st k' k) ∨ (look b s.st = none ∧ phantom k)
 fresh : ∀ b k, look b s1.st = some k → b < s1.nx
 fxs : ∀ (b : Nat) (α : Type) (sz : Nat) (enc : α → Nat → AV) (xs : Unit → List α), look b s.st = some (.row sz enc xs true) → look b s1.st ≠ none
 lfs : ∀ (b : Nat) (cs : List AV), look b s.st = some (.lit 99 cs) → look b s1.st ≠ none
def swp (b c i : Nat) : Nat := bif Nat.beq i b then c else bif Nat.beq i c then b else i
mutual
def renV (f : Nat → Nat) : AV → AV
 | .ref b o n => .ref (f b) o n
 | .ptr b j => .ptr (f b) j
 | .eptr b i j => .eptr (f b) i j
 | .agg cs => .agg (renL f cs)
 | .tup cs => .tup (renL f cs)
 | .clo g cs => .clo g (renL f cs)
 | .any => .any
 | .undef => .undef
 | .int q n => .int q n
 | .bo b => .bo b
 | .str s => .str s
 | .nil => .nil
 | .emp => .emp
 | .sl sz enc xs => .sl sz enc xs
 | .own b i j => .own b i j
 | .rptr cs => .rptr cs
 | .lsl cs => .lsl cs
def renL (f : Nat → Nat) : List AV → List AV
 | [] => []
 | x :: r => renV f x :: renL f r
end
def renK (f : Nat → Nat) : Blk → Blk
 | .lit sz cs => .lit sz (renL f cs)
 | .row sz enc xs fx => .row sz enc xs fx
def renT (f : Nat → Nat) : List (Nat × AV) → List (Nat × AV)
 | [] => []
 | p :: r => (p.1, renV f p.2) :: renT f r
def renSt (f : Nat → Nat) : List (Nat × Blk) → List (Nat × Blk)
 | [] => []
 | p :: r => (f p.1, renK f p.2) :: renSt f r
def renS (b c : Nat) (s : St) : St := ⟨renT (swp b c) s.tm, renSt (swp b c) s.st, s.nx⟩
def noFx (b : Nat) (st : List (Nat × Blk)) : Bool := match look b st with
 | some (.row _ _ _ true) => false
 | some (.lit sz _) => bif Nat.beq sz 99 then false else true
 | _ => true
inductive Ren : St → St → Prop
 | refl (s : St) : Ren s s
 | step {s s' : St} (b c : Nat) (hc : noFx c s.st = true) (hb : noFx b s.st = true) (hlt : Nat.blt c s.nx = true) (hlt2 : Nat.blt b s.nx = true) (h : Ren (renS b c s) s') : Ren s s'
def Cmp.holds : Cmp → Int → Int → Prop
 | .lt, a, b => a < b
 | .le, a, b => a ≤ b
 | .eq, a, b => a = b
inductive Grown (w : World) (e : TypeId) (size : Nat) (A : Option Addr) (n cap m : Nat) (olds news : List Value) : Value → World → Prop
 | keep (hm : m = 0) : Grown w e size A n cap m olds news (.slice A n cap) w
 | room {g o : Nat} (hm : 0 < m) (hr : n + m ≤ cap) (hA : A = some ⟨g, o, none⟩) : Grown w e size A n cap m olds news (.slice A (n + m) cap) (w.setCells g (o + n * size) news)
 | grow {c : Nat} {cs : Array Value} (hm : 0 < m) (hg : cap < n + m) (hc : n + m ≤ c) (hs : cs.size = c * size) (hcs : ∀ q, q < (n + m) * size → cs[q]? = (olds ++ news)[q]?) :
  Grown w e size A n cap m olds news (.slice (some ⟨w.heap.size, 0, none⟩) (n + m) c) (w.drew.alloc (.cells cs e))
def InsSpec (P : Program) (f z : Nat) : Prop := Callable P f ∧ ∀ (w : World) (A : Option Addr) (n cap i vb vo vc : Nat) (olds news : List Value), n ≤ cap → i ≤ n → n ≤ 1000000 → 1 ≤ vc → olds.length = n * z → news.length = z → (∀ v ∈ olds, v.oneCell' = true) → (∀ v ∈ news, v.oneCell' = true) →
 (∀ j u, olds[j]? = some u → ∃ ad, A = some ad ∧ w.cell? (ad.add j) = some u) → (0 < cap → ∃ g o cells ty, A = some ⟨g, o, none⟩ ∧ g ≠ vb ∧ w.heap[g]? = some (.cells cells ty (0, 0)) ∧ o + cap * z ≤ cells.size) →
 (∃ cells ty, w.heap[vb]? = some (.cells cells ty (0, 0)) ∧ ∀ j u, news[j]? = some u → cells[vo + j]? = some u) →
 Calls P f #[.slice A n cap, .int .i64 i, .slice (some ⟨vb, vo, none⟩) 1 vc] w fun e w' => ∃ u w1 ty, e = .returned u ∧ Below w.heap.size w w1 ∧ w1.heap.size = w.heap.size ∧ Grown w1 ty z A i cap (1 + (n - i)) (olds.take (i * z)) (news ++ olds.drop (i * z)) u w'
inductive Sat (P : Program) (Q : AV → Prop) : List (St → Prop) → Tree → Prop
 | done {As : List (St → Prop)} {r : AV} (h : Q r) : Sat P Q As (.done r)
 | cmp {As : List (St → Prop)} {o : Cmp} {a b : Unit → Int} {t e : Unit → Tree} (h : o.holds (a ()) (b ()) → Sat P Q As (t ())) (h' : ¬ o.holds (a ()) (b ()) → Sat P Q As (e ())) : Sat P Q As (.cmp o a b t e)
 | ari {As : List (St → Prop)} {k : IntKind} {v : Unit → Int} {c : (Unit → Int) → Tree} (h : k.wrap (v ()) = v ()) (hc : Sat P Q As (c v)) : Sat P Q As (.ari k v c)
 | ariw {As : List (St → Prop)} {k : IntKind} {v : Unit → Int} {c : (Unit → Int) → Tree} (hc : Sat P Q As (c (fun _ => k.wrap (v ())))) : Sat P Q As (.ari k v c)
 | test {As : List (St → Prop)} {b : Unit → Bool} {t e : Unit → Tree} (h : b () = true → Sat P Q As (t ())) (h' : b () = false → Sat P Q As (e ())) : Sat P Q As (.test b t e)
 | need {As : List (St → Prop)} {p : Unit → Prop} {c : Unit → Tree} (h : p ()) (hc : Sat P Q As (c ())) : Sat P Q As (.need p c)
 | may {As : List (St → Prop)} {p : Unit → Prop} {c d : Unit → Tree} (hc : p () → Sat P Q As (c ())) (hd : Sat P Q As (d ())) : Sat P Q As (.may p c d)
 | idx {As : List (St → Prop)} {α : Type} {xs : Unit → List α} {i : Unit → Nat} {c : α → Tree} (h0 : i () < (xs ()).length) (h : ∀ x, (xs ())[i ()]? = some x → Sat P Q As (c x)) : Sat P Q As (.idx xs i c)
 | typ {As : List (St → Prop)} {cells : List AV} {c : (α : Type) → (enc : α → Nat → AV) → α → Tree} {α : Type} (enc : α → Nat → AV) (z : α) (h : ∀ (j : Nat) (x : AV), cells[j]? = some x → LeD x (enc z j)) (hc : Sat P Q As (c α enc z)) : Sat P Q As (.typ cells c)
 | typed {As : List (St → Prop)} {α : Type} {sz : Nat} {enc : α → Nat → AV} {cells : List AV} {c : α → Tree} (z : α) (h : ∀ (j : Nat) (x : AV), cells[j]? = some x → LeD x (enc z j)) (hc : Sat P Q As (c z)) : Sat P Q As (.typed sz enc cells c)
 | same {As : List (St → Prop)} {α : Type} {sz : Nat} {enc : α → Nat → AV} {ys : Unit → List α} {c : (Unit → List α) → Tree} (hc : Sat P Q As (c ys)) : Sat P Q As (.same sz enc enc ys c)
 | call {As : List (St → Prop)} {f : Nat} {args cargs : List AV} {r : AV} {c : AV → Tree} (hF : Fn P f cargs r) (hl : cargs.length = args.length) (ha : ∀ (i : Nat) (x y : AV), args[i]? = some x → cargs[i]? = some y → LeD x y) (hc : Sat P Q As (c r)) : Sat P Q As (.call f args c)
 | callb {As : List (St → Prop)} {f : Nat} {args cargs : List AV} {b : Bool} {c : AV → Tree} (hF : Fn P f cargs (.bo b)) (hl : cargs.length = args.length) (ha : ∀ (i : Nat) (x y : AV), args[i]? = some x → cargs[i]? = some y → LeD x y)
  (hc : b = true → Sat P Q As (c (.bo true))) (hc' : b = false → Sat P Q As (c (.bo false))) : Sat P Q As (.call f args c)
 | callm {As : List (St → Prop)} {f : Nat} {args cargs bs cbs outs : List AV} {ret : AV} {c : AV → List AV → Tree} (hF : FnM P f cargs cbs ret outs) (hl : cargs.length = args.length) (ha : ∀ (i : Nat) (x y : AV), args[i]? = some x → cargs[i]? = some y → LeD x y)
  (hlb : cbs.length = bs.length) (hb : ∀ (i : Nat) (x y : AV), bs[i]? = some x → cbs[i]? = some y → LeD x y) (hc : Sat P Q As (c ret outs)) : Sat P Q As (.callm f args bs c)
 | callp {As : List (St → Prop)} {f : Nat} {args cargs : List AV} {bs cbs : List (List AV)} {Φ : AV → List (List AV) → Prop} {c : AV → List (List AV) → Tree} (hF : FnP P f cargs cbs Φ) (hl : cargs.length = args.length) (ha : ∀ (i : Nat) (x y : AV), args[i]? = some x → cargs[i]? = some y → LeD x y)
  (hlb : cbs.length = bs.length) (hb : ∀ (i : Nat) (cs ds : List AV), bs[i]? = some cs → cbs[i]? = some ds → ds.length = cs.length ∧ ds.all cellP = true ∧ ∀ (j : Nat) (x y : AV), cs[j]? = some x → ds[j]? = some y → LeD x y) (hc : ∀ ret outs, Φ ret outs → Sat P Q As (c ret outs)) : Sat P Q As (.callp f args bs c)
 | calln {As : List (St → Prop)} {f : Nat} {args cargs : List AV} {Φ : List AV → Prop} {c : List AV → Tree} (hF : FnN P f cargs Φ) (hl : cargs.length = args.length) (ha : ∀ (i : Nat) (x y : AV), args[i]? = some x → cargs[i]? = some y → LeD x y) (hc : ∀ cs, Φ cs → Sat P Q As (c cs)) : Sat P Q As (.calln f args c)
 | ins {As : List (St → Prop)} {f sz : Nat} {c : Unit → Tree} (hF : InsSpec P f sz) (hc : Sat P Q As (c ())) : Sat P Q As (.ins f sz c)
 | loop {As : List (St → Prop)} {s : St} {body : St → Tree} {ι : Type} (S : ι → St) (G : ι → Prop) (μ : ι → Nat) (x0 : ι) (hs : LeS s (S x0)) (hg : G x0)
  (hb : ∀ x, G x → Sat P Q ((fun s' => ∃ y, LeS s' (S y) ∧ G y ∧ μ y < μ x) :: As) (body (S x))) : Sat P Q As (.loop s body)
 | again {A : St → Prop} {As : List (St → Prop)} {s s' : St} (hr : Ren s s') (h : A s') : Sat P Q (A :: As) (.again s)
 | pop {A : St → Prop} {As : List (St → Prop)} {t : Unit → Tree} (h : Sat P Q As (t ())) : Sat P Q (A :: As) (.pop t)
def Does (P : Program) (o : Oper) (a : Act) (w : World) (R : Value → World → Prop) : Prop :=
 (∃ u w', ((execOp a.eval o).run P w = .ok (.value u) w' ∨ ((execOp a.eval o).run P w = .ok .skip w' ∧ u = undef)) ∧ R u w') ∨
 (∃ f args w', (execOp a.eval o).run P w = .ok (.enter f args) w' ∧ Calls P f args w' fun e w'' => ∃ u, e = .returned u ∧ R u w'')
theorem Does.wp {P : Program} {o : Oper} {a : Act} {w : World} {R : Value → World → Prop} {next : Act → World → Prop} {Q : Exit → Act → World → Prop} (h : Does P o a w R)
 (hn : ∀ u w', R u w' → next (a.put o.dst u) w') : o.wp P a w next Q := by
 unfold Oper.wp
 rcases h with ⟨u, w', h | ⟨h, rfl⟩, hr⟩ | ⟨f, args, w', h, hc⟩
 ·rw [h]; exact hn u w' hr
 ·rw [h]; exact hn _ w' hr
 ·rw [h]
  show Calls P f args w' _
  refine hc.mono (fun e w'' hr => ?_)
  obtain ⟨u, rfl, hr⟩ := hr
  exact hn u w'' hr
theorem Does.mono {P : Program} {o : Oper} {a : Act} {w : World} {R R' : Value → World → Prop} (h : Does P o a w R) (hr : ∀ u w', R u w' → R' u w') : Does P o a w R' := by
 rcases h with ⟨u, w', h, hR⟩ | ⟨f, args, w', h, hc⟩
 ·exact .inl ⟨u, w', h, hr u w' hR⟩
 ·exact .inr ⟨f, args, w', h, hc.mono (fun e w'' ⟨u, he, hR⟩ => ⟨u, he, hr u w'' hR⟩)⟩
def sizeOf? (P : Program) (t : TypeId) : Option Nat := (P.info? t).map (·.size)
def agg? (P : Program) (t : TypeId) : Option Bool := match P.underlying t with
 | some (.struct _) => some true
 | some (.array _ _) => some true
 | some _ => some false
 | none => none
def zero? (P : Program) (t : TypeId) : Option (List Value) := (P.info? t).bind fun i => i.zero.map fun z => z.cells.toList
def elem? (P : Program) (t : TypeId) : Option TypeId := match P.underlying t with
 | some (.slice e) => some e
 | _ => none
def field? (P : Program) (t : TypeId) (j : Nat) : Option Field := match P.underlying t with
 | some (.struct fs) => fs[j]?
 | _ => none
def eqTile (P : Program) (f : TypeId → Option (List CK)) : List Field → Nat → Option (List CK)
 | [], _ => some []
 | fd :: r, off => if fd.name = "_" ∨ fd.offset ≠ off then none else (f fd.type).bind fun ks => if sizeOf? P fd.type = some ks.length then (eqTile P f r (off + ks.length)).map fun l => ks ++ l else none
def eqKinds (P : Program) : Nat → TypeId → Option (List CK)
 | 0, _ => none
 | d + 1, t => match P.underlying t with
   | some (.int _) => some [.i]
   | some .bool => some [.b]
   | some .string => some [.s]
   | some (.struct fs) => if P.stoodInHeld t = true ∨ P.eqGuardType P.depth t = true then none else (eqTile P (eqKinds P d) fs.toList 0).bind fun ks => if sizeOf? P t = some ks.length then some ks else none
   | _ => none
def cm (mu : Nat → Bool) : Bool := mu 3000000
def compOp0 (P : Program) (mu : Nat → Bool) : Op → Option MOp
 | .move x => some (.mv x)
 | .assign x => some (.mv x)
 | .pick c a b => some (.pick c a b)
 | .unOp .not _ x => some (.not x)
 | .unOp .neg _ x => some (.neg x)
 | .binOp op t x y _ => match P.underlying t with
   | some (.struct _) => (eqKinds P 8 t).bind fun ks => (match op with | .eql => some (.aeq false ks x y) | .neq => some (.aeq true ks x y) | _ => none)
   | some (.int _) => if isBit op = true then some (.bit op x y) else some (.bin op x y)
   | some .string => some (.bin op x y)
   | some .bool => some (.bbin op x y)
   | some (.slice _) => some (.nbin op x y)
   | _ => none
 | .box _ x => some (.box x)
 | .alloc t => (zero? P t).map .alloc
 | .fieldAddr s x f => (field? P s f).bind fun fd => if sizeOf? P fd.type = some 0 ∨ sizeOf? P fd.type = none then none else some (.fa x fd.offset)
 | .field _ _ _ => none
 | .indexAddr t x i => match elem? P t with
   | some e => (sizeOf? P e).map fun n => .ia x i n
   | none => match P.underlying t with
     | some (.array len e) => (sizeOf? P e).map fun n => .iaa x i len n
     | _ => none
 | .index t x i => match P.underlying t with
   | some .string => some (.sidx x i)
   | some (.array len e) => if sizeOf? P e = some 1 ∧ agg? P e = some false then some (.aidx x i len) else none
   | _ => none
 | .load t x => (sizeOf? P t).bind fun n => (agg? P t).bind fun g => if g = false ∧ n ≠ 1 then none else if (cm mu && g) = true then some (.ldc x n g) else some (.ld x n g)
 | .store t x y => (sizeOf? P t).bind fun n => if n = 0 then none else if cm mu = true then some (.stoc x y n) else some (.sto x y n)
 | .slice t x lo hi mx => match P.underlying t with
   | some (.slice e) => (sizeOf? P e).map fun n => .slc false x lo hi mx n
   | some .string => some (.slc true x lo hi mx 0)
   | _ => none
 | .build t parts => match P.underlying t with
   | some (.struct fs) => (zero? P t).bind fun zs => (fs.toList.mapM fun fd => (sizeOf? P fd.type).map fun n => (fd.offset, n)).bind fun places =>
    (parts.toList.mapM fun p => (places[p.1]?).map fun q => (q.1, q.2, p.2)).map fun l => .bld zs l
   | some (.array len e) => (zero? P t).bind fun zs => (sizeOf? P e).bind fun n => some (.bld zs (parts.toList.map fun p => (p.1 * n, n, p.2)))
   | _ => none
 | .buildSlice t len parts => (elem? P t).bind fun e => (sizeOf? P e).bind fun n => (zero? P e).bind fun zs => if zs.length = n ∧ 0 < n ∧ n < 99 ∧ len * n ≤ 16777216 ∧ (len = 0 → parts.size = 0) then some (.bsl n len zs parts.toList) else none
 | .makeSlice t l c => (elem? P t).bind fun e => (P.info? e).bind fun i => (zero? P e).bind fun zs => if zs.length = i.size ∧ 0 < i.size ∧ 0 < i.bytes then some (.mks i.size i.bytes zs l c) else none
 | .convert src dst x => match P.underlying src, P.underlying dst with
   | some (.int _), some (.int k) => some (.conv k x)
   | some (.slice e), some .string => (match P.underlying e with | some (.int .u8) => some (.cst x) | _ => none)
   | _, _ => none
 | .extract x i => some (.ext x i)
 | .makeFunc (.func f) first caps => if first.size = 0 then some (.mkf f caps.toList) else none
 | .nilCheck x => some (.nck x)
 | .call c => match c.callee with
   | .builtin .len => match c.argTypes[0]?, c.args.toList with
     | some t, [x] => (match P.underlying t with | some (.slice _) => some (.len false x) | some .string => some (.len true x) | _ => none)
     | _, _ => none
   | .builtin .cap => match c.argTypes[0]?, c.args.toList with
     | some t, [x] => (match P.underlying t with | some (.slice _) => some (.cap x) | _ => none)
     | _, _ => none
   | .builtin .clear => match c.argTypes[0]?, c.args.toList with
     | some t, [x] => (elem? P t).bind fun e => (zero? P e).bind fun zs => if zs.length = sizeOf? P e ∧ 0 < zs.length then some (.clr x zs.length zs) else none
     | _, _ => none
   | .builtin .max => match c.args.toList with | [x, y] => some (.mx true x y) | _ => none
   | .builtin .min => match c.args.toList with | [x, y] => some (.mx false x y) | _ => none
   | .builtin .append => match c.argTypes.toList, c.args.toList with
     | [t, u], [x, y] => (elem? P t).bind fun e => (P.info? e).bind fun i => (zero? P e).bind fun zs => (match P.underlying u with | some (.slice _) => if zs.length = i.size ∧ 0 < i.size ∧ 0 < i.bytes ∧ i.bytes ≤ 65536 ∧ i.size < 99 then some (.app x y i.size i.bytes) else none | _ => none)
     | _, _ => none
   | .value (.func f) => if mu (f + 1000000) then some (.callp f c.args.toList) else if mu (f + 2000000) then (if cm mu = true then some (.calln f c.args.toList) else none) else if mu f then (if cm mu = true then none else some (.callm f c.args.toList)) else if mu (f + 4000000) then (match c.args.toList with | [x, i, y] => some (.ins f x i y) | _ => none) else some (.call f c.args.toList)
   | .value (.tmp t) => some (.callv (.tmp t) c.args.toList)
   | _ => none
 | _ => none
def noOk : Op → Bool
 | .select .. => false
 | _ => true
def compOp (P : Program) (mu : Nat → Bool) (o : Op) : Option MOp := match compOp0 P mu o with
 | some m => some m
 | none => if noOk o = true then some .no else none
end Go.V
namespace Go.V
open Go Go.RowKit
def addAll (new : List (Nat × Blk)) (st : Nat → Option Blk) : Nat → Option Blk := fun b => match look b new with
 | some k => some k
 | none => st b
theorem ofVal_loc (E : Env) (v : Value) : Loc E (ofVal v) v := by
 cases v with
 | int k n => exact .int k _
 | bool b => exact .bo b
 | string s => exact .str _
 | slice a n c =>
   cases a with
   | none =>
     rw [ofVal]
     cases n with
     | zero =>
       cases c with
       | zero => exact .nil
       | succ c => exact .any _
     | succ n => exact .any _
   | some a => exact .any _
 | _ => exact .any _
section
variable {P : Program} {w0 : Base} {w : World} {N : Nat} {tm : List (Nat × AV)} {st : Nat → Option Blk} {a : Act} {at_ : Nat → Option (Nat × Nat)} {FP : Nat → List Nat}
theorem Here.ev (h : Here w0 N tm st a w at_ FP) (x : Operand) : Loc ⟨w0, w, at_, st⟩ (ev tm x) (a.eval x) := by
 cases x with
 | tmp t => exact h.loc t
 | const v => exact ofVal_loc _ v
 | global g => exact .any _
 | func f => exact .clo rfl (fun i x hx => by simp at hx)
end
def QOK (P : Program) (o : Oper) (tm : List (Nat × AV)) (st : List (Nat × Blk)) (nid : Nat) (v : AV) (new : List (Nat × Blk)) : Prop :=
 (∀ p ∈ new, nid ≤ p.1 ∧ p.1 < nid + 16) ∧
 ∀ (w0 : Base) [TbOk P w0] (N : Nat) (tm' : List (Nat × AV)) (st' : Nat → Option Blk) (a : Act) (w : World), (∀ x ∈ o.op.operands.toList, ev tm' x = ev tm x) → (∀ b k, look b st = some k → st' b = some k) →
   (∀ b, nid ≤ b → b < nid + 16 → st' b = none) → Rel w0 N tm' st' a w →
   Does P o a w (fun u w' => ∃ at_ FP, Here w0 N tm' (addAll new st') a w' at_ FP ∧ Loc ⟨w0, w', at_, addAll new st'⟩ v u)
theorem QOK.pure {P : Program} {o : Oper} {tm : List (Nat × AV)} {st : List (Nat × Blk)} {nid : Nat} {v : AV}
 (h : ∀ (w0 : Base) (N : Nat) (tm' : List (Nat × AV)) (st' : Nat → Option Blk) (a : Act) (w : World) (at_ : Nat → Option (Nat × Nat)) (FP : Nat → List Nat),
   (∀ x ∈ o.op.operands.toList, ev tm' x = ev tm x) → (∀ b k, look b st = some k → st' b = some k) → Here w0 N tm' st' a w at_ FP →
   ∃ u, (execOp a.eval o).run P w = .ok (.value u) w ∧ Loc ⟨w0, w, at_, st'⟩ v u) : QOK P o tm st nid v [] := by
 refine ⟨fun p hp => (by cases hp), fun w0 _ N tm' st' a w hx hst hf ⟨at_, FP, hh⟩ => ?_⟩
 obtain ⟨u, hr, hl⟩ := h w0 N tm' st' a w at_ FP hx hst hh
 exact .inl ⟨u, w, .inl hr, at_, FP, hh, hl⟩
section
variable {E : Env} {v : Value}
theorem Loc.int_inv {k : IntKind} {n : Unit → Int} (h : Loc E (.int k n) v) : v = .int k (n ()) := by cases h; rfl
theorem Loc.bo_inv {b : Bool} (h : Loc E (.bo b) v) : v = .bool b := by cases h; rfl
theorem Loc.str_inv {s : Unit → ByteArray} (h : Loc E (.str s) v) : v = .string (s ()) := by cases h; rfl
theorem Loc.nil_inv (h : Loc E .nil v) : v = .slice none 0 0 := by cases h; rfl
theorem Loc.emp_inv (h : Loc E .emp v) : ∃ A, v = .slice A 0 0 := by cases h; exact ⟨_, rfl⟩
theorem Loc.undef_inv (h : Loc E .undef v) : v = Go.undef := by cases h; rfl
theorem Loc.agg_inv {cs : List AV} (h : Loc E (.agg cs) v) : ∃ us, v = .agg us ∧ us.size = cs.length ∧ ∀ i x, cs[i]? = some x → Loc E x (us.getD i Go.undef) := by
 cases h with
 | agg hl hd => exact ⟨_, rfl, hl, hd⟩
theorem Loc.tup_inv {cs : List AV} (h : Loc E (.tup cs) v) : ∃ us, v = .tuple us ∧ us.size = cs.length ∧ ∀ i x, cs[i]? = some x → Loc E x (us.getD i Go.undef) := by
 cases h with
 | tup hl hd => exact ⟨_, rfl, hl, hd⟩
theorem Loc.clo_inv {f : Nat} {cs : List AV} (h : Loc E (.clo f cs) v) : ∃ us, v = .func (.func f) #[] us ∧ us.size = cs.length ∧ ∀ i x, cs[i]? = some x → Loc E x (us.getD i Go.undef) := by
 cases h with
 | clo hl hd => exact ⟨_, rfl, hl, hd⟩
end
section
variable {P : Program} {Q : AV → Prop} {As : List (St → Prop)} {mu : Nat → Bool} {tm : List (Nat × AV)} {st : List (Nat × Blk)} {nid : Nat} {K : AV → List (Nat × Blk) → Tree} {o : Oper}
theorem q_mv {x : Operand} (ho : o.op = .move x ∨ o.op = .assign x) : QOK P o tm st nid (ev tm x) [] := by
 refine QOK.pure (fun w0 N tm' st' a w at_ FP hx hst hh => ⟨a.eval x, ?_, ?_⟩)
 ·rcases ho with ho | ho <;> simp [execOp, ho]
 ·have hm : x ∈ o.op.operands.toList := by rcases ho with ho | ho <;> simp [ho, Op.operands]
  rw [← hx x hm]
  exact hh.ev x
theorem q_pick {c x y : Operand} {t : Bool} (ho : o.op = .pick c x y) (hc : ev tm c = .bo t) : QOK P o tm st nid (bif t then ev tm x else ev tm y) [] := by
 refine QOK.pure (fun w0 N tm' st' a w at_ FP hx hst hh => ⟨if t then a.eval x else a.eval y, ?_, ?_⟩)
 ·have h1 := hh.ev c
  rw [hx c (by simp [ho, Op.operands]), hc] at h1
  have h2 := h1.bo_inv
  cases t <;> simp [execOp, ho, h2, asBool]
 ·cases t with
  | true => rw [cond_true, ← hx x (by simp [ho, Op.operands])]; exact hh.ev x
  | false => rw [cond_false, ← hx y (by simp [ho, Op.operands])]; exact hh.ev y
theorem q_not {t : TypeId} {x : Operand} {b : Bool} (ho : o.op = .unOp .not t x) (hx0 : ev tm x = .bo b) : QOK P o tm st nid (.bo (bif b then false else true)) [] := by
 refine QOK.pure (fun w0 N tm' st' a w at_ FP hx hst hh => ⟨.bool (!b), ?_, ?_⟩)
 ·have h1 := hh.ev x
  rw [hx x (by simp [ho, Op.operands]), hx0] at h1
  simp [execOp, ho, h1.bo_inv, Op.unary]
 ·cases b <;> exact .bo _
theorem q_conv {src dst : TypeId} {x : Operand} {k k' : IntKind} {k0 : IntKind} {n v : Unit → Int} (ho : o.op = .convert src dst x) (hs : P.underlying src = some (.int k0)) (hd : P.underlying dst = some (.int k)) (hx0 : ev tm x = .int k' n)
 (hv : k.wrap (n ()) = v ()) : QOK P o tm st nid (.int k v) [] := by
 refine QOK.pure (fun w0 N tm' st' a w at_ FP hx hst hh => ⟨.int k (v ()), ?_, .int k v⟩)
 have h1 := hh.ev x
 rw [hx x (by simp [ho, Op.operands]), hx0] at h1
 simp [execOp, ho, h1.int_inv, convert, run_underlying hs, run_underlying hd, Conv.intToInt, hv]
theorem q_ext {x : Operand} {i : Nat} {vs : List AV} {v : AV} (ho : o.op = .extract x i) (hx0 : ev tm x = .tup vs) (hv : vs[i]? = some v) : QOK P o tm st nid v [] := by
 refine QOK.pure (fun w0 N tm' st' a w at_ FP hx hst hh => ?_)
 have h1 := hh.ev x
 rw [hx x (by simp [ho, Op.operands]), hx0] at h1
 obtain ⟨us, he, hl, hd⟩ := h1.tup_inv
 have hi : i < us.size := by rw [hl]; exact lt_of_get hv
 refine ⟨us.getD i Go.undef, ?_, hd i v hv⟩
 simp [execOp, ho, he, Instr.extract, Array.getD, hi]
theorem q_nck {x : Operand} {v : AV} (ho : o.op = .nilCheck x) (hx0 : ev tm x = v) (hp : ∀ (E : Env) (u : Value), Loc E v u → ∃ p, u = .pointer (some p)) : QOK P o tm st nid v [] := by
 refine QOK.pure (fun w0 N tm' st' a w at_ FP hx hst hh => ?_)
 have h1 := hh.ev x
 rw [hx x (by simp [ho, Op.operands]), hx0] at h1
 obtain ⟨p, he⟩ := hp _ _ h1
 refine ⟨a.eval x, ?_, h1⟩
 simp [execOp, ho, he]
theorem q_mkf {f : Nat} {first caps : Array Operand} (ho : o.op = .makeFunc (.func f) first caps) (hf : first.size = 0) : QOK P o tm st nid (.clo f (caps.toList.map (ev tm))) [] := by
 refine QOK.pure (fun w0 N tm' st' a w at_ FP hx hst hh => ⟨.func (.func f) #[] (caps.map a.eval), ?_, .clo (by simp) (fun i y hy => ?_)⟩)
 ·have : first = #[] := by simpa using hf
  simp [execOp, ho, Instr.makeFunc, this]
 ·rw [List.getElem?_map, Option.map_eq_some_iff] at hy
  obtain ⟨c, hc, rfl⟩ := hy
  have hc' : caps[i]? = some c := by simpa using hc
  have hi : i < caps.size := (Array.getElem?_eq_some_iff.1 hc').1
  have e : (caps.map a.eval).getD i Go.undef = a.eval c := by
   have : caps[i] = c := (Array.getElem?_eq_some_iff.1 hc').2
   simp [Array.getD, hi, this]
  rw [e, ← hx c (by simp [ho, Op.operands]; exact .inr (Array.mem_of_getElem? hc'))]
  exact hh.ev c
theorem q_neg {t : TypeId} {x : Operand} {k : IntKind} {a v : Unit → Int} (ho : o.op = .unOp .neg t x) (hx0 : ev tm x = .int k a) (hv : k.wrap (0 - a ()) = v ()) : QOK P o tm st nid (.int k v) [] := by
 refine QOK.pure (fun w0 N tm' st' A w at_ FP hx hst hh => ⟨.int k (v ()), ?_, .int k v⟩)
 have h1 := hh.ev x
 rw [hx x (by simp [ho, Op.operands]), hx0] at h1
 simp [execOp, ho, h1.int_inv, Op.unary, Op.intArith] at hv ⊢
 exact hv
theorem kindEq_eq {k q : IntKind} (h : kindEq k q = true) : k = q := by cases k <;> cases q <;> first | rfl | (simp [kindEq] at h)
theorem q_arith {op : BinOp} {t t' : TypeId} {x y : Operand} {k : IntKind} {a b v : Unit → Int} {r : Int} (ho : o.op = .binOp op t x y t') (hx0 : ev tm x = .int k a) (hy0 : ev tm y = .int k b)
 (hop : (op = .add ∧ r = a () + b ()) ∨ (op = .sub ∧ r = a () - b ()) ∨ (op = .mul ∧ r = a () * b ())) (hv : k.wrap r = v ()) : QOK P o tm st nid (.int k v) [] := by
 refine QOK.pure (fun w0 N tm' st' A w at_ FP hx hst hh => ⟨.int k (v ()), ?_, .int k v⟩)
 have h1 := hh.ev x
 rw [hx x (by simp [ho, Op.operands]), hx0] at h1
 have h2 := hh.ev y
 rw [hx y (by simp [ho, Op.operands]), hy0] at h2
 rcases hop with ⟨rfl, rfl⟩ | ⟨rfl, rfl⟩ | ⟨rfl, rfl⟩ <;> simp [execOp, ho, h1.int_inv, h2.int_inv, eqGuard, binOp, Op.intArith, hv]
theorem q_rem {t t' : TypeId} {x y : Operand} {k : IntKind} {a b : Unit → Int} (ho : o.op = .binOp .rem t x y t') (hx0 : ev tm x = .int k a) (hy0 : ev tm y = .int k b) (h0 : b () ≠ 0) : QOK P o tm st nid (.int k (fun _ => (a ()).tmod (b ()))) [] := by
 refine QOK.pure (fun w0 N tm' st' A w at_ FP hx hst hh => ⟨.int k ((a ()).tmod (b ())), ?_, .int k _⟩)
 have h1 := hh.ev x
 rw [hx x (by simp [ho, Op.operands]), hx0] at h1
 have h2 := hh.ev y
 rw [hx y (by simp [ho, Op.operands]), hy0] at h2
 simp [execOp, ho, h1.int_inv, h2.int_inv, eqGuard, binOp, Op.intDiv, h0]
theorem q_bit {op : BinOp} {t t' : TypeId} {x y : Operand} {k : IntKind} {a b : Unit → Int} (ho : o.op = .binOp op t x y t') (hx0 : ev tm x = .int k a) (hy0 : ev tm y = .int k b) (hop : op = .and ∨ op = .or ∨ op = .xor ∨ op = .andNot) : QOK P o tm st nid (.int k (fun _ => bitI op k (a ()) (b ()))) [] := by
 refine QOK.pure (fun w0 N tm' st' A w at_ FP hx hst hh => ⟨.int k (bitI op k (a ()) (b ())), ?_, .int k _⟩)
 have h1 := hh.ev x
 rw [hx x (by simp [ho, Op.operands]), hx0] at h1
 have h2 := hh.ev y
 rw [hx y (by simp [ho, Op.operands]), hy0] at h2
 rcases hop with rfl | rfl | rfl | rfl <;> simp [execOp, ho, h1.int_inv, h2.int_inv, eqGuard, binOp, Op.intBits, bitI]
theorem q_sh {op : BinOp} {t t' : TypeId} {x y : Operand} {k q : IntKind} {a b : Unit → Int} (ho : o.op = .binOp op t x y t') (hx0 : ev tm x = .int k a) (hy0 : ev tm y = .int q b) (hop : op = .shl ∨ op = .shr) (h0 : 0 ≤ b ()) : QOK P o tm st nid (.int k (fun _ => shI op k (a ()) (b ()))) [] := by
 refine QOK.pure (fun w0 N tm' st' A w at_ FP hx hst hh => ⟨.int k (shI op k (a ()) (b ())), ?_, .int k _⟩)
 have h1 := hh.ev x
 rw [hx x (by simp [ho, Op.operands]), hx0] at h1
 have h2 := hh.ev y
 rw [hx y (by simp [ho, Op.operands]), hy0] at h2
 have h3 : ¬ (b () < 0) := by omega
 rcases hop with rfl | rfl <;> simp [execOp, ho, h1.int_inv, h2.int_inv, eqGuard, binOp, Op.shift, shI, h3]
theorem q_quo {t t' : TypeId} {x y : Operand} {k : IntKind} {a b v : Unit → Int} (ho : o.op = .binOp .quo t x y t') (hx0 : ev tm x = .int k a) (hy0 : ev tm y = .int k b) (h0 : b () ≠ 0) (hv : k.wrap ((a ()).tdiv (b ())) = v ()) : QOK P o tm st nid (.int k v) [] := by
 refine QOK.pure (fun w0 N tm' st' A w at_ FP hx hst hh => ⟨.int k (v ()), ?_, .int k v⟩)
 have h1 := hh.ev x
 rw [hx x (by simp [ho, Op.operands]), hx0] at h1
 have h2 := hh.ev y
 rw [hx y (by simp [ho, Op.operands]), hy0] at h2
 simp [execOp, ho, h1.int_inv, h2.int_inv, eqGuard, binOp, Op.intDiv, h0, hv]
theorem q_sadd {t t' : TypeId} {x y : Operand} {a b : Unit → ByteArray} (ho : o.op = .binOp .add t x y t') (hx0 : ev tm x = .str a) (hy0 : ev tm y = .str b) (h0 : (a ()).size + (b ()).size ≤ 9223372036854775807) : QOK P o tm st nid (.str (fun _ => a () ++ b ())) [] := by
 refine QOK.pure (fun w0 N tm' st' A w at_ FP hx hst hh => ⟨.string (a () ++ b ()), ?_, .str _⟩)
 have h1 := hh.ev x
 rw [hx x (by simp [ho, Op.operands]), hx0] at h1
 have h2 := hh.ev y
 rw [hx y (by simp [ho, Op.operands]), hy0] at h2
 have h4 : (((a ()).size : Nat) : Int) + ((b ()).size : Nat) ≤ 9223372036854775807 := by omega
 simp [execOp, ho, h1.str_inv, h2.str_inv, eqGuard, binOp, Op.stringOp, h4]
def cmpB (op : BinOp) (a b : Int) : Option Bool := match op with
 | .eql => some (a == b)
 | .neq => some (a != b)
 | .lss => some (decide (a < b))
 | .leq => some (decide (a ≤ b))
 | .gtr => some (decide (a > b))
 | .geq => some (decide (a ≥ b))
 | _ => none
theorem q_cmp {op : BinOp} {t t' : TypeId} {x y : Operand} {k : IntKind} {a b : Unit → Int} {r : Bool} (ho : o.op = .binOp op t x y t') (hx0 : ev tm x = .int k a) (hy0 : ev tm y = .int k b)
 (hr : cmpB op (a ()) (b ()) = some r) : QOK P o tm st nid (.bo r) [] := by
 refine QOK.pure (fun w0 N tm' st' A w at_ FP hx hst hh => ⟨.bool r, ?_, .bo r⟩)
 have h1 := hh.ev x
 rw [hx x (by simp [ho, Op.operands]), hx0] at h1
 have h2 := hh.ev y
 rw [hx y (by simp [ho, Op.operands]), hy0] at h2
 cases op <;> simp [cmpB] at hr <;> subst hr <;> simp [execOp, ho, h1.int_inv, h2.int_inv, eqGuard, binOp, Op.intCmp]
theorem sat_cmp {c : Cmp} {a b : Unit → Int} {t e : Unit → Tree} (h : Sat P Q As (.cmp c a b t e)) : (c.holds (a ()) (b ()) ∧ Sat P Q As (t ())) ∨ (¬ c.holds (a ()) (b ()) ∧ Sat P Q As (e ())) := by
 cases h with
 | cmp h1 h2 =>
   by_cases hc : c.holds (a ()) (b ())
   ·exact .inl ⟨hc, h1 hc⟩
   ·exact .inr ⟨hc, h2 hc⟩
theorem sat_cmpT {op : BinOp} {a b : Unit → Int} {k : Bool → Tree} (h : Sat P Q As (cmpT op a b k)) : ∃ r, cmpB op (a ()) (b ()) = some r ∧ Sat P Q As (k r) := by
 cases op with
 | eql => rcases sat_cmp h with ⟨hc, h⟩ | ⟨hc, h⟩
          ·exact ⟨true, by simpa [cmpB, Cmp.holds] using hc, h⟩
          ·exact ⟨false, by simpa [cmpB, Cmp.holds] using hc, h⟩
 | neq => rcases sat_cmp h with ⟨hc, h⟩ | ⟨hc, h⟩
          ·exact ⟨false, by simpa [cmpB, Cmp.holds] using hc, h⟩
          ·exact ⟨true, by simpa [cmpB, Cmp.holds] using hc, h⟩
 | lss => rcases sat_cmp h with ⟨hc, h⟩ | ⟨hc, h⟩
          ·exact ⟨true, by simpa [cmpB, Cmp.holds] using hc, h⟩
          ·exact ⟨false, by simpa [cmpB, Cmp.holds] using hc, h⟩
 | leq => rcases sat_cmp h with ⟨hc, h⟩ | ⟨hc, h⟩
          ·exact ⟨true, by simpa [cmpB, Cmp.holds] using hc, h⟩
          ·exact ⟨false, by simpa [cmpB, Cmp.holds] using hc, h⟩
 | gtr => rcases sat_cmp h with ⟨hc, h⟩ | ⟨hc, h⟩
          ·exact ⟨true, by simpa [cmpB, Cmp.holds] using hc, h⟩
          ·exact ⟨false, by simpa [cmpB, Cmp.holds] using hc, h⟩
 | geq => rcases sat_cmp h with ⟨hc, h⟩ | ⟨hc, h⟩
          ·exact ⟨true, by simpa [cmpB, Cmp.holds] using hc, h⟩
          ·exact ⟨false, by simpa [cmpB, Cmp.holds] using hc, h⟩
 | _ => simp only [cmpT] at h; cases h
end
end Go.V
namespace Go.V
open Go Go.RowKit
theorem addAll_one {b : Nat} {k : Blk} {st : Nat → Option Blk} : addAll [(b, k)] st = upd st b (some k) := by
 funext c
 show (match (bif Nat.beq b c then some k else none) with | some k => some k | none => st c) = upd st b (some k) c
 unfold upd
 cases h : Nat.beq b c with
 | true => have e := Nat.eq_of_beq_eq_true h; simp [e]
 | false =>
   have e : c ≠ b := fun e => by rw [e, Nat.beq_refl] at h; cases h
   simp [e]
theorem Loc.cell_one {E : Env} {x : AV} {v : Value} (h : Loc E x v) (hc : cellOk x = true) : v.oneCell' = true ∧ v.cells = #[v] := by
 cases h <;> first | (simp [cellOk] at hc; done) | exact ⟨rfl, rfl⟩ | skip
 all_goals first
  | (rename_i h; obtain ⟨h, _⟩ := h; cases h <;> exact ⟨rfl, rfl⟩)
  | (rename_i h; unfold RefAt at h; obtain ⟨_, h⟩ := h; split at h <;> (first | (obtain ⟨A, rfl⟩ := h; exact ⟨rfl, rfl⟩) | (obtain ⟨A, cap, cs, t, rfl, _⟩ := h; exact ⟨rfl, rfl⟩)))
theorem Loc.cells {E : Env} {x : AV} {v : Value} (h : Loc E x v) (hc : (cellsOf x).all cellOk = true) :
 v.cells.size = (cellsOf x).length ∧ ∀ (i : Nat) (y : AV), (cellsOf x)[i]? = some y → ∃ u, v.cells[i]? = some u ∧ Loc E y u ∧ u.oneCell' = true := by
 by_cases ha : ∃ cs, x = .agg cs
 ·obtain ⟨cs, rfl⟩ := ha
  obtain ⟨us, rfl, hl, hd⟩ := h.agg_inv
  refine ⟨hl, fun i y hy => ?_⟩
  have hy : cs[i]? = some y := hy
  have hi : i < us.size := by rw [hl]; exact lt_of_get hy
  have hl := hd i y hy
  rw [Array.getD, dif_pos hi] at hl
  refine ⟨us[i], Array.getElem?_eq_getElem hi, hl, (hl.cell_one ?_).1⟩
  exact List.all_eq_true.1 hc y (List.mem_of_getElem? hy)
 ·have e : cellsOf x = [x] := by cases x <;> first | rfl | (exact absurd ⟨_, rfl⟩ ha)
  rw [e] at hc ⊢
  have hx : cellOk x = true := by simpa using hc
  obtain ⟨h1, h2⟩ := h.cell_one hx
  rw [h2]
  refine ⟨rfl, fun i y hy => ?_⟩
  cases i with
  | zero =>
    simp only [List.getElem?_cons_zero, Option.some.injEq] at hy
    subst hy
    exact ⟨v, rfl, h, h1⟩
  | succ i => simp at hy
theorem below_grown (w : World) (o : Obj) : Below w.heap.size w (w.alloc o) := (Below.refl _ w).alloc (Nat.le_refl _) o
theorem grown_here (w : World) (o : Obj) : (w.alloc o).heap[w.heap.size]? = some o := by
 show (w.heap.push o)[w.heap.size]? = some o
 simp
section
variable {P : Program} {w0 : Base} {w w' : World} {N : Nat} {tm : List (Nat × AV)} {st : Nat → Option Blk} {a : Act} {at_ : Nat → Option (Nat × Nat)} {FP : Nat → List Nat}
theorem Good.lt {E : Env} (h : Good E FP) {c g : Nat} {k : Blk} (hc : E.st c = some k) (hg : g ∈ E.own FP c) : g < E.w.heap.size := h.bound hc g hg
theorem Here.fresh (h : Here w0 N tm st a w at_ FP) {b : Nat} (hb : st b = none) (cells : Array Value) (t : TypeId) {blk : Blk} {fp : List Nat}
 (hr : (∀ x v, Loc ⟨w0, w, at_, st⟩ x v → Loc ⟨w0, w.alloc (.cells cells t), upd at_ b (some (w.heap.size, 0)), upd st b (some blk)⟩ x v) →
   BlkRep ⟨w0, w.alloc (.cells cells t), upd at_ b (some (w.heap.size, 0)), upd st b (some blk)⟩ b blk fp)
 (hn : fp.Nodup) (hlt : ∀ g ∈ fp, g < w.heap.size ∧ w0.free g ∧ Fresh w g) (hap : ∀ c k, st c = some k → ∀ g ∈ fp, g ∉ (⟨w0, w, at_, st⟩ : Env).own FP c) (hnf : notFx blk = true := by rfl) :
 Here w0 N tm (upd st b (some blk)) a (w.alloc (.cells cells t)) (upd at_ b (some (w.heap.size, 0))) (upd FP b fp) ∧
  ∀ x v, Loc ⟨w0, w, at_, st⟩ x v → Loc ⟨w0, w.alloc (.cells cells t), upd at_ b (some (w.heap.size, 0)), upd st b (some blk)⟩ x v := by
 have h1 := h.world (below_grown w (.cells cells t))
 have mv : ∀ x v, Loc ⟨w0, w, at_, st⟩ x v → Loc ⟨w0, w.alloc (.cells cells t), upd at_ b (some (w.heap.size, 0)), upd st b (some blk)⟩ x v := fun x v hx => by
  refine hx.move rfl (fun c k hc => ?_)
  have hne : c ≠ b := fun e => by subst e; have : st c = some k := hc; rw [hb] at this; cases this
  exact ⟨⟨k, (upd_ne _ _ hne).trans hc, Alike.refl _⟩, upd_ne _ _ hne, fun g base cs t' ha hg => ⟨cs, ((below_grown w _).block g (heap_lt hg)).trans hg, rfl⟩⟩
 obtain ⟨h2, _⟩ := h1.new hb (p := some (w.heap.size, 0)) (fp := fp) (hr mv)
  (by
    show (w.heap.size :: fp).Nodup
    exact List.nodup_cons.2 ⟨fun hm => Nat.lt_irrefl _ (hlt _ hm).1, hn⟩)
  (fun g hg => by
    rcases List.mem_cons.1 hg with rfl | hg
    ·exact h.good.below.free (Nat.le_refl _)
    ·exact (hlt g hg).2.1)
  (fun c k hc g hg => by
    rcases List.mem_cons.1 hg with rfl | hg
    ·intro hm
     have := h.good.lt hc (show w.heap.size ∈ (⟨w0, w, at_, st⟩ : Env).own FP c from hm)
     exact Nat.lt_irrefl _ this
    ·exact hap c k hc g hg)
  (fun g hg => by
    rcases List.mem_cons.1 hg with rfl | hg
    ·exact ⟨_, _, grown_here w _⟩
    ·obtain ⟨cs, t', hc⟩ := (hlt g hg).2.2
     exact ⟨cs, t', ((below_grown w _).block g (heap_lt hc)).trans hc⟩) (fun g base e => by cases e; exact h.good.below.hot (Nat.le_refl _)) hnf
 exact ⟨h2, mv⟩
theorem Here.box (h : Here w0 N tm st a w at_ FP) {b : Nat} (hb : st b = none) (cells : Array Value) (t : TypeId) {sz : Nat} {cs : List AV}
 (hc : ∀ (i : Nat) (y : AV), cs[i]? = some y → ∃ u, cells[i]? = some u ∧ Loc ⟨w0, w, at_, st⟩ y u) (hs : sz < 99 := by omega) :
 ∃ at1 FP1, Here w0 N tm (upd st b (some (.lit sz cs))) a (w.alloc (.cells cells t)) at1 FP1 ∧ at1 b = some (w.heap.size, 0) ∧
   ∀ x v, Loc ⟨w0, w, at_, st⟩ x v → Loc ⟨w0, w.alloc (.cells cells t), at1, upd st b (some (.lit sz cs))⟩ x v := by
 obtain ⟨h1, mv⟩ := h.fresh hb cells t (blk := .lit sz cs) (fp := []) (fun mv => by
  refine .lit (g := w.heap.size) (base := 0) (cells := cells) (t := t) (upd_self _ _ _) (grown_here w _) (fun j x hx => ?_)
  obtain ⟨u, hu, hl⟩ := hc j x hx
  exact ⟨u, by rw [Nat.zero_add]; exact hu, mv x u hl⟩) List.nodup_nil (fun g hg => by cases hg) (fun c k _ g hg => by cases hg) (notFx_lit' sz cs hs)
 exact ⟨_, _, h1, upd_self _ _ _, mv⟩
end
section
variable {P : Program} {Q : AV → Prop} {As : List (St → Prop)} {mu : Nat → Bool} {tm : List (Nat × AV)} {st : List (Nat × Blk)} {nid : Nat} {K : AV → List (Nat × Blk) → Tree} {o : Oper}
theorem q_box {t : TypeId} {x : Operand} (ho : o.op = .box t x) (hc : (cellsOf (ev tm x)).all cellOk = true) : QOK P o tm st nid (.ptr nid 0) [(nid, .lit 0 (cellsOf (ev tm x)))] := by
 refine ⟨fun p hp => (by simp at hp; subst hp; exact ⟨Nat.le_refl _, by omega⟩), fun w0 _ N tm' st' a w hx hst hf ⟨at_, FP, hh⟩ => ?_⟩
 have h1 := hh.ev x
 rw [hx x (by simp [ho, Op.operands])] at h1
 obtain ⟨hl, hd⟩ := h1.cells hc
 obtain ⟨at1, FP1, h2, ha, mv⟩ := hh.box (hf nid (Nat.le_refl _) (by omega)) (a.eval x).cells t (sz := 0) (cs := cellsOf (ev tm x)) (fun i y hy => by obtain ⟨u, hu, hl, _⟩ := hd i y hy; exact ⟨u, hu, hl⟩)
 refine .inl ⟨.pointer (some ⟨w.heap.size, 0, none⟩), w.alloc (.cells (a.eval x).cells t), .inl ?_, at1, FP1, ?_, ?_⟩
 ·simp [execOp, ho, Instr.box, newVar, newRow]
 ·rw [addAll_one]; exact h2
 ·rw [addAll_one]; exact .ptr (upd_self _ _ _) ha
theorem zero_run {t : TypeId} {zs : List Value} (h : zero? P t = some zs) (w : World) : ∃ z, (zeroValue t).run P w = .ok z w ∧ z.cells.toList = zs := by
 unfold zero? at h
 rw [Option.bind_eq_some_iff] at h
 obtain ⟨i, hi, h⟩ := h
 rw [Option.map_eq_some_iff] at h
 obtain ⟨z, hz, rfl⟩ := h
 exact ⟨z, by simp [zeroValue, typeInfo, hi, hz], rfl⟩
theorem q_alloc {t : TypeId} {zs : List Value} (ho : o.op = .alloc t) (hz : zero? P t = some zs) : QOK P o tm st nid (.ptr nid 0) [(nid, .lit 0 (zs.map ofVal))] := by
 refine ⟨fun p hp => (by simp at hp; subst hp; exact ⟨Nat.le_refl _, by omega⟩), fun w0 _ N tm' st' a w hx hst hf ⟨at_, FP, hh⟩ => ?_⟩
 obtain ⟨z, hr, rfl⟩ := zero_run hz w
 obtain ⟨at1, FP1, h2, ha, mv⟩ := hh.box (hf nid (Nat.le_refl _) (by omega)) z.cells t (sz := 0) (cs := z.cells.toList.map ofVal) (fun i y hy => by
  rw [List.getElem?_map, Option.map_eq_some_iff] at hy
  obtain ⟨u, hu, rfl⟩ := hy
  exact ⟨u, by simpa using hu, ofVal_loc _ u⟩)
 refine .inl ⟨.pointer (some ⟨w.heap.size, 0, none⟩), w.alloc (.cells z.cells t), .inl ?_, at1, FP1, ?_, ?_⟩
 ·simp [execOp, ho, Instr.alloc, hr, newVar, newRow]
 ·rw [addAll_one]; exact h2
 ·rw [addAll_one]; exact .ptr (upd_self _ _ _) ha
end
end Go.V
namespace Go.V
open Go Go.RowKit
theorem addr_add (g n k : Nat) : (⟨g, n, none⟩ : Addr).add k = ⟨g, n + k, none⟩ := by
 unfold Addr.add
 by_cases h : k = 0
 ·subst h; simp
 ·simp [h]
theorem cell_of {w : World} {g : Nat} {cells : Array Value} {t : TypeId} {fr : Nat × Nat} (h : w.heap[g]? = some (.cells cells t fr)) (n : Nat) : w.cell? ⟨g, n, none⟩ = cells[n]? := by
 simp [World.cell?, h]
section
variable {P : Program} {Q : AV → Prop} {As : List (St → Prop)} {mu : Nat → Bool} {tm : List (Nat × AV)} {st : List (Nat × Blk)} {nid : Nat} {K : AV → List (Nat × Blk) → Tree} {o : Oper}
theorem Loc.ptr_inv {E : Env} {b j : Nat} {u : Value} (h : Loc E (.ptr b j) u) : ∃ sz cs g base, E.st b = some (.lit sz cs) ∧ E.at_ b = some (g, base) ∧ u = .pointer (some ⟨g, base + j, none⟩) := by
 cases h with
 | ptr hb ha => exact ⟨_, _, _, _, hb, ha, rfl⟩
theorem Loc.eptr_inv {E : Env} {b j : Nat} {i : Unit → Nat} {u : Value} (h : Loc E (.eptr b i j) u) :
 ∃ (α : Type) (sz : Nat) (enc : α → Nat → AV) (xs : Unit → List α) (fx : Bool) (g base : Nat), E.st b = some (.row sz enc xs fx) ∧ E.at_ b = some (g, base) ∧ i () < (xs ()).length ∧ j ≤ sz ∧ u = .pointer (some ⟨g, base + i () * sz + j, none⟩) := by
 cases h with
 | eptr hb ha hi hj => exact ⟨_, _, _, _, _, _, _, hb, ha, hi, hj, rfl⟩
theorem fa_run {s : TypeId} {j : Nat} {fd : Field} (hf : field? P s j = some fd) (hz : ¬ (sizeOf? P fd.type = some 0 ∨ sizeOf? P fd.type = none)) (g n : Nat) (w : World) :
 (Instr.fieldAt s (.pointer (some ⟨g, n, none⟩)) j).run P w = .ok (.pointer (some ⟨g, n + fd.offset, none⟩)) w := by
 unfold field? at hf
 split at hf
 ·rename_i fs hu
  unfold sizeOf? at hz
  cases hi : P.info? fd.type with
  | none => rw [hi] at hz; simp at hz
  | some i =>
    rw [hi] at hz
    simp only [Option.map_some, Option.some.injEq, reduceCtorEq, or_false] at hz
    simp [Instr.fieldAt, run_underlying hu, hf, Instr.sureAddr, fieldPlace, sizeOf, typeInfo, hi, hz, addr_add]
 ·cases hf
theorem q_fa {s : TypeId} {x : Operand} {j : Nat} {fd : Field} {v v' : AV} (ho : o.op = .fieldAddr s x j) (hf : field? P s j = some fd) (hz : ¬ (sizeOf? P fd.type = some 0 ∨ sizeOf? P fd.type = none)) (hx0 : ev tm x = v)
 (hp : ∀ (E : Env) (u : Value), (∀ b k, look b st = some k → E.st b = some k) → Loc E v u → ∃ g n, u = .pointer (some ⟨g, n, none⟩) ∧ Loc E v' (.pointer (some ⟨g, n + fd.offset, none⟩))) : QOK P o tm st nid v' [] := by
 refine QOK.pure (fun w0 N tm' st' a w at_ FP hx hst hh => ?_)
 have h1 := hh.ev x
 rw [hx x (by simp [ho, Op.operands]), hx0] at h1
 obtain ⟨g, n, he, hl⟩ := hp _ _ hst h1
 exact ⟨_, by simp [execOp, ho, he, fa_run hf hz], hl⟩
theorem fa_ptr {E : Env} {b j off : Nat} {u : Value} (h : Loc E (.ptr b j) u) : ∃ g n, u = .pointer (some ⟨g, n, none⟩) ∧ Loc E (.ptr b (j + off)) (.pointer (some ⟨g, n + off, none⟩)) := by
 cases h with
 | ptr hb ha => exact ⟨_, _, rfl, by rw [Nat.add_assoc]; exact .ptr hb ha⟩
theorem fa_eptr {E : Env} {b j off sz : Nat} {i : Unit → Nat} {u : Value} {α : Type} {enc : α → Nat → AV} {xs : Unit → List α} {fx : Bool} (h : Loc E (.eptr b i j) u) (hb0 : E.st b = some (.row sz enc xs fx)) (hj0 : j + off ≤ sz) :
 ∃ g n, u = .pointer (some ⟨g, n, none⟩) ∧ Loc E (.eptr b i (j + off)) (.pointer (some ⟨g, n + off, none⟩)) := by
 cases h with
 | eptr hb ha hi hj =>
   rw [hb0] at hb
   cases hb
   exact ⟨_, _, rfl, by rw [Nat.add_assoc]; exact .eptr hb0 ha hi hj0⟩
theorem fa_rptr {E : Env} {cs : List AV} {off : Nat} {u : Value} (h : Loc E (.rptr cs) u) : ∃ g n, u = .pointer (some ⟨g, n, none⟩) ∧ Loc E (.rptr (cs.drop off)) (.pointer (some ⟨g, n + off, none⟩)) := by
 cases h with
 | rptr h =>
   obtain ⟨h, ho⟩ := h
   cases h with
   | @rptr _ g o cells t fr u F hg hu hd =>
     refine ⟨g, o, rfl, .rptr (fp := g :: (List.range (cs.drop off).length).flatMap (fun j => F (off + j))) ⟨.rptr (fun j => u (off + j)) (fun j => F (off + j)) hg (fun j x hx => ?_) (fun j x hx => ?_), fun q hq => ?_⟩⟩
     rotate_left
     rotate_left
     ·rcases List.mem_cons.1 hq with rfl | hq
      ·exact ho _ (List.mem_cons_self ..)
      ·obtain ⟨j, hj, hq⟩ := List.mem_flatMap.1 hq
       have hj := List.mem_range.1 hj
       rw [List.length_drop] at hj
       exact ho q (List.mem_cons_of_mem _ (mem_flat (by omega) hq))
     ·rw [List.getElem?_drop] at hx
      rw [Nat.add_assoc]
      exact hu _ x hx
     ·rw [List.getElem?_drop] at hx
      exact hd _ x hx
theorem load_run {t : TypeId} {n : Nat} {g : Bool} (hn : sizeOf? P t = some n) (hg : agg? P t = some g) (h1 : g = false → n = 1) {w : World} {b off : Nat} (f : Nat → Value) (hc : ∀ i, i < n → w.cell? ⟨b, off + i, none⟩ = some (f i)) :
 (loadVar t ⟨b, off, none⟩).run P w = .ok (if g then .agg ((List.range n).map f).toArray else f 0) w := by
 have hag : (isAgg t).run P w = .ok g w := by
  unfold agg? at hg
  split at hg
  ·rename_i hu; simp at hg; subst hg; simp [isAgg, run_underlying hu]
  ·rename_i hu; simp at hg; subst hg; simp [isAgg, run_underlying hu]
  ·rename_i d h1 h2 hu
   simp at hg; subst hg
   simp only [isAgg, Sem.run_bind, run_underlying hu, Result.andThen_ok]
   rfl
  ·cases hg
 cases g with
 | true =>
   unfold sizeOf? at hn
   rw [Option.map_eq_some_iff] at hn
   obtain ⟨i, hi, rfl⟩ := hn
   simp [loadVar, hag, sizeOf, typeInfo, hi, run_loadCells w ⟨b, off, none⟩ i.size f (fun j hj => by rw [addr_add]; exact hc j hj)]
 | false =>
   have := h1 rfl
   subst this
   have := hc 0 (by omega)
   simp only [Nat.add_zero] at this
   simp [loadVar, hag, this]
def resAV (g : Bool) (l : List AV) : Option AV := if g then some (.agg l) else match l with | [c] => some c | _ => none
theorem res_loc {E : Env} {g : Bool} {l : List AV} {r : AV} {f : Nat → Value} (hr : resAV g l = some r) (hl : ∀ i x, l[i]? = some x → Loc E x (f i)) : Loc E r (if g then .agg ((List.range l.length).map f).toArray else f 0) := by
 cases g with
 | true =>
   simp only [resAV, if_true, Option.some.injEq] at hr
   subst hr
   refine .agg (by simp) (fun i x hx => ?_)
   have hi := lt_of_get hx
   have : ((List.range l.length).map f).toArray.getD i Go.undef = f i := by simp [Array.getD, hi]
   rw [this]
   exact hl i x hx
 | false =>
   simp only [resAV, Bool.false_eq_true, if_false] at hr
   split at hr
   ·simp only [Option.some.injEq] at hr
    subst hr
    exact hl 0 _ rfl
   ·cases hr
theorem q_ld {t : TypeId} {x : Operand} {n : Nat} {g : Bool} {v r : AV} {l : List AV} (ho : o.op = .load t x) (hn : sizeOf? P t = some n) (hg : agg? P t = some g) (h1 : g = false → n = 1) (hx0 : ev tm x = v) (hll : l.length = n) (hr : resAV g l = some r)
 (hp : ∀ (E : Env) (FP : Nat → List Nat) (u : Value), Good E FP → (∀ b k, look b st = some k → E.st b = some k) → Loc E v u → ∃ b off, ∃ f : Nat → Value, u = .pointer (some ⟨b, off, none⟩) ∧ (∀ i, i < n → E.w.cell? ⟨b, off + i, none⟩ = some (f i)) ∧ ∀ i x, l[i]? = some x → Loc E x (f i)) :
 QOK P o tm st nid r [] := by
 refine QOK.pure (fun w0 N tm' st' a w at_ FP hx hst hh => ?_)
 have h2 := hh.ev x
 rw [hx x (by simp [ho, Op.operands]), hx0] at h2
 obtain ⟨b, off, f, he, hc, hl⟩ := hp _ FP _ hh.good hst h2
 refine ⟨_, ?_, res_loc hr hl⟩
 have hc' : ∀ i, i < n → w.cell? ⟨b, off + i, none⟩ = some (f i) := hc
 simp [execOp, ho, he, Instr.loadAt, Instr.sureAddr, load_run hn hg h1 f hc', hll]
theorem ld_ptr {E : Env} {FP : Nat → List Nat} {b j n sz : Nat} {cs : List AV} {u : Value} (hg : Good E FP) (hb0 : E.st b = some (.lit sz cs)) (hl : ((cs.drop j).take n).length = n) (h : Loc E (.ptr b j) u) :
 ∃ b off, ∃ f : Nat → Value, u = .pointer (some ⟨b, off, none⟩) ∧ (∀ i, i < n → E.w.cell? ⟨b, off + i, none⟩ = some (f i)) ∧ ∀ i x, ((cs.drop j).take n)[i]? = some x → Loc E x (f i) := by
 obtain ⟨sz', cs', g, base, hb, ha, rfl⟩ := h.ptr_inv
 have r := hg.rep b _ hb0
 generalize FP b = fp at r
 cases r with
 | @lit _ _ g' base' cells t ha' hg' hc =>
   rw [ha] at ha'
   cases ha'
   refine ⟨_, _, fun i => cells.getD (base + j + i) Go.undef, rfl, fun i hi => ?_, fun i x hx => ?_⟩
   ·have hi' : i < ((cs.drop j).take n).length := by omega
    have hx := List.getElem?_eq_getElem hi'
    rw [List.getElem?_take, if_pos hi, List.getElem?_drop] at hx
    obtain ⟨u, hu, _⟩ := hc _ _ hx
    rw [cell_of hg']
    dsimp only
    rw [Array.getD_eq_getD_getElem?, Nat.add_assoc, hu]
    rfl
   ·have hi : i < n := by have := lt_of_get hx; omega
    rw [List.getElem?_take, if_pos hi, List.getElem?_drop] at hx
    obtain ⟨u, hu, hl⟩ := hc _ _ hx
    dsimp only
    rw [Array.getD_eq_getD_getElem?, Nat.add_assoc, hu]
    exact hl
theorem deep_sc {E : Env} {w : World} {x : AV} {v : Value} {fp : List Nat} (h : Deep w x v fp) : Loc E (sc x) v := by
 unfold sc
 cases hf : flat x with
 | false => exact .any v
 | true =>
   rw [cond_true]
   cases h <;> first | (simp [flat] at hf; done) | constructor
theorem ld_eptr {E : Env} {FP : Nat → List Nat} {b j n sz : Nat} {i : Unit → Nat} {α : Type} {enc : α → Nat → AV} {xs : Unit → List α} {fx : Bool} {z : α} {u : Value} (hg : Good E FP) (hb0 : E.st b = some (.row sz enc xs fx)) (hj0 : j + n ≤ sz)
 (hz : (xs ())[i ()]? = some z) (h : Loc E (.eptr b i j) u) :
 ∃ b1 off, ∃ f : Nat → Value, u = .pointer (some ⟨b1, off, none⟩) ∧ (∀ i, i < n → E.w.cell? ⟨b1, off + i, none⟩ = some (f i)) ∧ ∀ k x, ((List.range n).map (fun q => scO fx b i (j + q) (enc z (j + q))))[k]? = some x → Loc E x (f k) := by
 obtain ⟨α', sz', enc', xs', fx', g, base, hb, ha, hi, hj, rfl⟩ := h.eptr_inv
 rw [hb0] at hb
 cases hb
 have r := hg.rep b _ hb0
 have hpn : fx = true → ∃ p, E.w0.pin b = some p ∧ p.sz = sz ∧ p.len = (xs ()).length ∧ p.place = some (g, base) ∧ (0 < p.len → Heads E.w0.w E.w g) := fun hf => by
  subst hf
  obtain ⟨p, hp⟩ := hg.fxp b _ _ _ _ hb0
  obtain ⟨p1, p2, ph, β, enc2, ys, p3, p4⟩ := hg.pins b p hp
  rw [hb0] at p3
  cases p3
  exact ⟨p, hp, rfl, p4.symm, p1.symm.trans ha, fun hl => ph hl g base (p1.symm.trans ha)⟩
 generalize FP b = fp at r
 cases r with
 | row0 ha' _ => rw [ha] at ha'; cases ha'
 | row F ha' hg' hr hc =>
   rename_i cells t
   rw [ha] at ha'
   cases ha'
   have key : ∀ q, q < n → ∃ u, cells[base + i () * sz + j + q]? = some u ∧ Loc E (scO fx b i (j + q) (enc z (j + q))) u := fun q hq => by
    obtain ⟨u, hu, hd⟩ := hc (i ()) z hz (j + q) (by omega)
    refine ⟨u, by rw [Nat.add_assoc]; exact hu, ?_⟩
    have sl : ∀ (β : Type) (s : Nat) (e : β → Nat → AV) (ys : Unit → List β), enc z (j + q) = .sl s e ys → fx = true → Loc E (.own b i (j + q)) u := fun β s e ys he hf => by
     obtain ⟨p, hp, h1, h2, h3, h4⟩ := hpn hf
     obtain ⟨cs0, c1, c2⟩ := h4 (by rw [h2]; exact Nat.lt_of_le_of_lt (Nat.zero_le _) hi) _ _ hg'
     rw [he] at hd
     generalize F (i ()) (j + q) = fpq at hd
     cases hd with
     | sl0 A _ => exact .own hp h3 (by rw [h2]; exact hi) c1 (by rw [h1]; exact c2 _ _ _ _ hu)
     | sl => exact .own hp h3 (by rw [h2]; exact hi) c1 (by rw [h1]; exact c2 _ _ _ _ hu)
    have hsc := deep_sc (E := E) hd
    revert hsc
    unfold scO sc
    cases hfl : flat (enc z (j + q)) with
    | true => exact fun h => h
    | false =>
      intro _
      simp only [cond_false]
      split
      ·rename_i s e ys he
       exact sl _ _ _ _ he rfl
      ·exact .any _
   refine ⟨_, _, fun q => cells.getD (base + i () * sz + j + q) Go.undef, rfl, fun q hq => ?_, fun q x hx => ?_⟩
   ·obtain ⟨u, hu, _⟩ := key q hq
    rw [cell_of hg']
    dsimp only
    rw [Array.getD_eq_getD_getElem?, hu]
    rfl
   ·rw [List.getElem?_map, Option.map_eq_some_iff] at hx
    obtain ⟨q', hq', rfl⟩ := hx
    have hlt := lt_of_get hq'
    rw [List.length_range] at hlt
    rw [List.getElem?_range hlt] at hq'
    cases hq'
    obtain ⟨u, hu, hl⟩ := key q hlt
    dsimp only
    rw [Array.getD_eq_getD_getElem?, hu]
    exact hl
theorem deep_loc {E : Env} {x : AV} {v : Value} {fp : List Nat} (h : Deep E.w0.w x v fp) (ho : ∀ g ∈ fp, ¬ E.w0.mine g ∧ ¬ E.w0.ban g) : Loc E x v := by
 induction h with
 | int k n => exact .int k n
 | bo b => exact .bo b
 | str s => exact .str s
 | nil => exact .nil
 | emp A => exact .emp A
 | sl0 A h => exact .sl ⟨.sl0 A h, ho⟩
 | sl u F hn hg hr hu hd ih => exact .sl ⟨.sl u F hn hg hr hu hd, ho⟩
 | lsl u F hn hg hr hu hd ih => exact .lsl ⟨.lsl u F hn hg hr hu hd, ho⟩
 | rptr u F hg hu hd ih => exact .rptr ⟨.rptr u F hg hu hd, ho⟩
 | agg F hl hd ih => exact .agg hl (fun i x hx => ih i x hx (fun g hg => ho g (mem_flat (lt_of_get hx) hg)))
 | tup F hl hd ih => exact .tup hl (fun i x hx => ih i x hx (fun g hg => ho g (mem_flat (lt_of_get hx) hg)))
 | clo F hl hd ih => exact .clo hl (fun i x hx => ih i x hx (fun g hg => ho g (mem_flat (lt_of_get hx) hg)))
theorem ld_rptr {E : Env} {FP : Nat → List Nat} {n : Nat} {cs : List AV} {u : Value} (hG : Good E FP) (hl : (cs.take n).length = n) (h : Loc E (.rptr cs) u) :
 ∃ b off, ∃ f : Nat → Value, u = .pointer (some ⟨b, off, none⟩) ∧ (∀ i, i < n → E.w.cell? ⟨b, off + i, none⟩ = some (f i)) ∧ ∀ i x, (cs.take n)[i]? = some x → Loc E x (f i) := by
 cases h with
 | rptr h =>
   obtain ⟨h, ho⟩ := h
   cases h with
   | @rptr _ g off cells t fr u F hg hu hd =>
     have hg' : E.w.heap[g]? = some (.cells cells t fr) := (hG.below.block g (heap_lt hg) (ho g (List.mem_cons_self ..)).1).trans hg
     refine ⟨_, _, u, rfl, fun i hi => ?_, fun i x hx => ?_⟩
     ·have hx := List.getElem?_eq_getElem (show i < (cs.take n).length by omega)
      rw [List.getElem?_take, if_pos hi] at hx
      rw [cell_of hg']
      exact hu i _ hx
     ·have hi : i < n := by have := lt_of_get hx; omega
      rw [List.getElem?_take, if_pos hi] at hx
      exact deep_loc (hd i x hx) (fun q hq => ho q (List.mem_cons_of_mem _ (mem_flat (lt_of_get hx) hq)))
theorem ia_run {t e : TypeId} {n : Nat} (he : elem? P t = some e) (hn : sizeOf? P e = some n) {g off len cap : Nat} {k : IntKind} {i : Int} (h0 : 0 ≤ i) (h1 : i < len) (w : World) :
 (Instr.indexAt t (.slice (some ⟨g, off, none⟩) len cap) (.int k i)).run P w = .ok (.pointer (some ⟨g, off + i.toNat * n, none⟩)) w := by
 unfold elem? at he
 split at he
 ·rename_i e' hu
  cases he
  unfold sizeOf? at hn
  rw [Option.map_eq_some_iff] at hn
  obtain ⟨q, hi, rfl⟩ := hn
  simp [Instr.indexAt, run_underlying hu, asIntOf, h0, h1, sizeOf, typeInfo, hi, addr_add]
 ·cases he
theorem q_ia {t e : TypeId} {x y : Operand} {n : Nat} {v v' : AV} {k : IntKind} {m : Unit → Int} (ho : o.op = .indexAddr t x y) (he : elem? P t = some e) (hn : sizeOf? P e = some n) (hx0 : ev tm x = v) (hy0 : ev tm y = .int k m)
 (hp : ∀ (E : Env) (FP : Nat → List Nat) (u : Value), Good E FP → (∀ b k, look b st = some k → E.st b = some k) → Loc E v u → ∃ g off len cap, u = .slice (some ⟨g, off, none⟩) len cap ∧ 0 ≤ m () ∧ m () < len ∧ Loc E v' (.pointer (some ⟨g, off + (m ()).toNat * n, none⟩))) :
 QOK P o tm st nid v' [] := by
 refine QOK.pure (fun w0 N tm' st' a w at_ FP hx hst hh => ?_)
 have h2 := hh.ev x
 rw [hx x (by simp [ho, Op.operands]), hx0] at h2
 have h3 := hh.ev y
 rw [hx y (by simp [ho, Op.operands]), hy0] at h3
 obtain ⟨g, off, len, cap, hu, h0, h1, hl⟩ := hp _ FP _ hh.good hst h2
 exact ⟨_, by simp [execOp, ho, hu, h3.int_inv, ia_run he hn h0 h1], hl⟩
theorem iaa_run {t e : TypeId} {n len : Nat} (hu : P.underlying t = some (.array len e)) (hn : sizeOf? P e = some n) {g off : Nat} {k : IntKind} {i : Int} (h0 : 0 ≤ i) (h1 : i < len) (w : World) :
 (Instr.indexAt t (.pointer (some ⟨g, off, none⟩)) (.int k i)).run P w = .ok (.pointer (some ⟨g, off + i.toNat * n, none⟩)) w := by
 unfold sizeOf? at hn
 rw [Option.map_eq_some_iff] at hn
 obtain ⟨q, hi, rfl⟩ := hn
 simp [Instr.indexAt, run_underlying hu, asIntOf, h0, h1, sizeOf, typeInfo, hi, addr_add, Instr.sureAddr]
theorem q_iaa {t e : TypeId} {x y : Operand} {n len b j c : Nat} {k : IntKind} {m : Unit → Int} (ho : o.op = .indexAddr t x y) (hu : P.underlying t = some (.array len e)) (hn : sizeOf? P e = some n) (hx0 : ev tm x = .ptr b j) (hy0 : ev tm y = .int k m) (hc : m () = c) (hlt : c < len) :
 QOK P o tm st nid (.ptr b (j + c * n)) [] := by
 refine QOK.pure (fun w0 N tm' st' a w at_ FP hx hst hh => ?_)
 have h2 := hh.ev x
 rw [hx x (by simp [ho, Op.operands]), hx0] at h2
 have h3 := hh.ev y
 rw [hx y (by simp [ho, Op.operands]), hy0] at h3
 obtain ⟨g, off, he, hl⟩ := fa_ptr (off := c * n) h2
 have e : c = (m ()).toNat := by omega
 refine ⟨_, ?_, hl⟩
 rw [e]
 simp [execOp, ho, he, h3.int_inv, iaa_run hu hn (show 0 ≤ m () by omega) (show m () < len by omega)]
theorem ia_sl {E : Env} {α : Type} {n : Nat} {enc : α → Nat → AV} {xs : Unit → List α} {z : α} {m : Int} {u : Value} (h0 : 0 ≤ m) (h1 : m < (xs ()).length) (hz : (xs ())[m.toNat]? = some z) (h : Loc E (.sl n enc xs) u) :
 ∃ g off len cap, u = .slice (some ⟨g, off, none⟩) len cap ∧ 0 ≤ m ∧ m < len ∧ Loc E (.rptr ((List.range n).map (enc z))) (.pointer (some ⟨g, off + m.toNat * n, none⟩)) := by
 cases h with
 | sl h =>
   obtain ⟨h, ho⟩ := h
   cases h with
   | sl0 A he => rw [he] at h1; simp at h1; omega
   | @sl _ _ _ _ g off cap cs t fr u F hn hg hr hu hd =>
     refine ⟨g, off, _, cap, rfl, h0, h1, .rptr (fp := g :: (List.range ((List.range n).map (enc z)).length).flatMap (F m.toNat)) ⟨.rptr (u m.toNat) (F m.toNat) hg (fun j x hx => ?_) (fun j x hx => ?_), fun q hq => ?_⟩⟩
     rotate_left
     rotate_left
     ·rcases List.mem_cons.1 hq with rfl | hq
      ·exact ho _ (List.mem_cons_self ..)
      ·obtain ⟨j, hj, hq⟩ := List.mem_flatMap.1 hq
       have hj := List.mem_range.1 hj
       rw [List.length_map, List.length_range] at hj
       exact ho q (List.mem_cons_of_mem _ (mem_flat (F := fun i => (List.range n).flatMap (F i)) (by omega) (mem_flat hj hq)))
     ·have hj : j < n := by have := lt_of_get hx; simpa using this
      exact hu _ z hz j hj
     ·have hj : j < n := by have := lt_of_get hx; simpa using this
      rw [List.getElem?_map, List.getElem?_range hj] at hx
      simp only [Option.map_some, Option.some.injEq] at hx
      subst hx
      exact hd _ z hz j hj
theorem ia_ref {E : Env} {FP : Nat → List Nat} {α : Type} {b n : Nat} {off k : Unit → Nat} {enc : α → Nat → AV} {xs : Unit → List α} {fx : Bool} {m : Int} {u : Value} (hG : Good E FP) (hb0 : E.st b = some (.row n enc xs fx)) (h0 : 0 ≤ m) (h1 : m < k ()) (h : Loc E (.ref b off k) u) :
 ∃ g o len cap, u = .slice (some ⟨g, o, none⟩) len cap ∧ 0 ≤ m ∧ m < len ∧ Loc E (.eptr b (fun _ => off () + m.toNat) 0) (.pointer (some ⟨g, o + m.toNat * n, none⟩)) := by
 cases h with
 | ref hb hr =>
   rw [hb0] at hb
   cases hb
   obtain ⟨hle, hr⟩ := hr
   cases ha : E.at_ b with
   | none =>
     have r := hG.rep b _ hb0
     generalize FP b = fp at r
     cases r with
     | row0 _ hx => rw [hx] at hle; simp at hle; omega
     | row F ha' _ _ _ => rw [ha] at ha'; cases ha'
   | some p =>
     obtain ⟨g, base⟩ := p
     rw [ha] at hr
     obtain ⟨A, cap, cs, t, rfl, hn, hg, hr⟩ := hr
     rcases hr with hr | ⟨rfl, hr⟩
     ·omega
     ·refine ⟨g, _, _, cap, rfl, h0, h1, ?_⟩
      have e : base + off () * n + m.toNat * n = base + (off () + m.toNat) * n + 0 := by rw [Nat.add_mul]; omega
      rw [e]
      exact .eptr hb0 ha (by omega) (Nat.zero_le _)
 | refl hb hr => rw [hb0] at hb; cases hb
end
end Go.V
