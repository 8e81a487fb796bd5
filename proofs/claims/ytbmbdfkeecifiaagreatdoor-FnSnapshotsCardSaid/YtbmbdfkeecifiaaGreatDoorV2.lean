/- A theory of its own: Go code in short, evaluated, with proof that the machine does what the evaluation tells. Conditions: those that each theorem states. Part 2. -/
import Derived.Test.YtbmbdfkeecifiaaGreatDoorV1
import Derived.IntWalk
import Derived.Laws.IdiomCopy
import Derived.Laws.Rows
import Derived.Laws.StructEq
import Derived.Lib.Strings
set_option linter.unusedVariables false
set_option linter.unusedSimpArgs false
namespace Go.V
open Go Go.RowKit
section
variable {P : Program} {Q : AV → Prop} {As : List (St → Prop)} {mu : Nat → Bool} {tm : List (Nat × AV)} {st : List (Nat × Blk)} {nid : Nat} {K : AV → List (Nat × Blk) → Tree} {o : Oper}
def bnd (x : Option Value) (d : Nat) (n : Nat) : Prop := match x with
 | none => n = d
 | some v => ∃ k i, v = .int k i ∧ 0 ≤ i ∧ i.toNat = n
theorem bounds_run {isS : Bool} {len cap l h : Nat} {lo hi : Option Value} (hl : bnd lo 0 l) (hh : bnd hi len h) (h1 : l ≤ h) (h2 : h ≤ cap) (w : World) :
 (Instr.sliceBounds isS len cap lo hi none).run P w = .ok (l, h, cap) w := by
 have key : ∀ (v : Value) (y n : Nat) (c : BoundsCode), (∃ k i, v = .int k i ∧ 0 ≤ i ∧ i.toNat = n) → n ≤ y → (Instr.sliceBound v y c).run P w = .ok n w := fun v y n c ⟨k, i, hv, h0, hn⟩ hy => by
  subst hv
  have : i ≤ y := by omega
  simp [Instr.sliceBound, asIntOf, h0, this, hn]
 cases lo with
 | none =>
   have hl : l = 0 := hl
   subst hl
   cases hi with
   | none =>
     have hh : h = len := hh
     subst hh
     simp [Instr.sliceBounds]
   | some v => simp [Instr.sliceBounds, key v cap h _ hh h2]
 | some u =>
   cases hi with
   | none =>
     have hh : h = len := hh
     subst hh
     simp [Instr.sliceBounds, key u h l _ hl h1]
   | some v => simp [Instr.sliceBounds, key v cap h _ hh h2, key u h l _ hl h1]
theorem slice_run {t e : TypeId} {n : Nat} (hu : P.underlying t = some (.slice e)) (hn : sizeOf? P e = some n) {A : Option Addr} {len cap l h : Nat} {lo hi : Option Value} (hl : bnd lo 0 l) (hh : bnd hi len h) (h1 : l ≤ h) (h2 : h ≤ cap) (w : World) :
 (Instr.sliceAt t (.slice A len cap) lo hi none).run P w = .ok (.slice (if cap = l then A else A.map (·.add (l * n))) (h - l) (cap - l)) w := by
 unfold sizeOf? at hn
 rw [Option.map_eq_some_iff] at hn
 obtain ⟨q, hi', rfl⟩ := hn
 simp [Instr.sliceAt, run_underlying hu, Instr.slice, bounds_run hl hh h1 h2, sizeOf, typeInfo, hi']
theorem sslice_run {t : TypeId} (hu : P.underlying t = some .string) {s : ByteArray} {l h : Nat} {lo hi : Option Value} (hl : bnd lo 0 l) (hh : bnd hi s.size h) (h1 : l ≤ h) (h2 : h ≤ s.size) (w : World) :
 (Instr.sliceAt t (.string s) lo hi none).run P w = .ok (.string (s.extract l h)) w := by
 simp [Instr.sliceAt, run_underlying hu, Instr.slice, bounds_run hl hh h1 h2]
def edge (r : Option (Unit → Int)) (d : Nat) (q : Unit → Nat) : Prop := match r with
 | none => q () = d
 | some f => 0 ≤ f () ∧ q () = (f ()).toNat
theorem sat_cutT {lo hi : Option (Unit → Int)} {len : Unit → Nat} {c : (Unit → Nat) → (Unit → Nat) → Tree} (h : Sat P Q As (cutT lo hi len c)) :
 ∃ l r : Unit → Nat, edge lo 0 l ∧ edge hi (len ()) r ∧ l () ≤ r () ∧ r () ≤ len () ∧ Sat P Q As (c l r) := by
 unfold cutT at h
 cases lo with
 | none =>
   cases hi with
   | none => exact ⟨fun _ => 0, len, (rfl : (0 : Nat) = 0), (rfl : len () = len ()), Nat.zero_le _, Nat.le_refl _, h⟩
   | some f => cases h with | need hp hc => exact ⟨fun _ => 0, fun _ => (f ()).toNat, (rfl : (0 : Nat) = 0), ⟨hp.1, rfl⟩, Nat.zero_le _, by have := hp.2; dsimp only; omega, hc⟩
 | some g =>
   cases hi with
   | none => cases h with | need hp hc => exact ⟨fun _ => (g ()).toNat, len, ⟨hp.1, rfl⟩, (rfl : len () = len ()), by have := hp.2; dsimp only; omega, Nat.le_refl _, hc⟩
   | some f => cases h with | need hp hc => exact ⟨fun _ => (g ()).toNat, fun _ => (f ()).toNat, ⟨hp.1, rfl⟩, ⟨by have := hp.2.1; omega, rfl⟩, by have := hp.2.1; dsimp only; omega, by have := hp.2.2; dsimp only; omega, hc⟩
theorem here_bnd {w0 : Base} {w : World} {N : Nat} {tm' : List (Nat × AV)} {st' : Nat → Option Blk} {a : Act} {at_ : Nat → Option (Nat × Nat)} {FP : Nat → List Nat} (hh : Here w0 N tm' st' a w at_ FP) {lo : Option Operand} {l : Option (Unit → Int)} {d : Nat} {n : Unit → Nat}
 (hx : ∀ x, lo = some x → ev tm' x = ev tm x) (ho : optInt tm lo = some l) (hn : edge l d n) : bnd (lo.map a.eval) d (n ()) := by
 cases lo with
 | none =>
   simp only [optInt, Option.some.injEq] at ho
   subst ho
   exact hn
 | some x =>
   simp only [optInt] at ho
   cases hi : intOf? (ev tm x) with
   | none => rw [hi] at ho; cases ho
   | some f =>
     rw [hi] at ho
     simp only [Option.some.injEq] at ho
     subst ho
     obtain ⟨h0, hn⟩ := hn
     have h1 := hh.ev x
     rw [hx x rfl] at h1
     cases he : ev tm x with
     | int k m =>
       rw [he] at h1 hi
       simp only [intOf?, Option.some.injEq] at hi
       subst hi
       exact ⟨k, _, h1.int_inv, h0, hn.symm⟩
     | _ => rw [he] at hi; simp [intOf?] at hi
theorem q_slc {t : TypeId} {x : Operand} {lo hi : Option Operand} {v v' : AV} {l r : Option (Unit → Int)} {p q : Unit → Nat} {len : Nat} (ho : o.op = .slice t x lo hi none) (hx0 : ev tm x = v) (hlo : optInt tm lo = some l) (hhi : optInt tm hi = some r)
 (hl : edge l 0 p) (hr : edge r len q)
 (hp : ∀ (E : Env) (FP : Nat → List Nat) (u : Value) (lv hv : Option Value), Good E FP → (∀ b k, look b st = some k → E.st b = some k) → Loc E v u → bnd lv 0 (p ()) → bnd hv len (q ()) → ∃ u', (Instr.sliceAt t u lv hv none).run P E.w = .ok u' E.w ∧ Loc E v' u') :
 QOK P o tm st nid v' [] := by
 refine QOK.pure (fun w0 N tm' st' a w at_ FP hx hst hh => ?_)
 have h2 := hh.ev x
 rw [hx x (by simp [ho, Op.operands]), hx0] at h2
 have b1 := here_bnd hh (tm := tm) (lo := lo) (d := 0) (n := p) (fun y hy => hx y (by subst hy; simp [ho, Op.operands])) hlo hl
 have b2 := here_bnd hh (tm := tm) (lo := hi) (d := len) (n := q) (fun y hy => hx y (by subst hy; simp [ho, Op.operands])) hhi hr
 obtain ⟨u', hrun, hloc⟩ := hp _ FP _ _ _ hh.good hst h2 b1 b2
 exact ⟨u', by simp [execOp, ho]; rw [hrun]; rfl, hloc⟩
theorem cut_deep {w : World} {α : Type} {n : Nat} {enc : α → Nat → AV} {xs : Unit → List α} {u : Value} {fp : List Nat} (h : Deep w (.sl n enc xs) u fp) {l r : Nat} (h1 : l ≤ r) (h2 : r ≤ (xs ()).length) :
 ∃ A cap, u = .slice A (xs ()).length cap ∧ (xs ()).length ≤ cap ∧ ∃ fp', Deep w (.sl n enc (fun _ => ((xs ()).drop l).take (r - l))) (.slice (if cap = l then A else A.map (·.add (l * n))) (r - l) (cap - l)) fp' ∧ ∀ g ∈ fp', g ∈ fp := by
 cases h with
 | sl0 A he =>
   rw [he] at h2 ⊢
   have : r = 0 := by simpa using h2
   subst this
   have : l = 0 := by omega
   subst this
   exact ⟨A, 0, rfl, Nat.le_refl _, [], .sl0 _ (by simp), fun g hg => by cases hg⟩
 | @sl _ _ _ _ g off cap cs t fr u F hn hg hr hu hd =>
   refine ⟨some ⟨g, off, none⟩, cap, rfl, hn, ?_⟩
   have hlen : (((xs ()).drop l).take (r - l)).length = r - l := by rw [List.length_take, List.length_drop]; omega
   by_cases hc : cap = l
   ·have : r = l := by omega
    subst this
    rw [if_pos hc, hc]
    have e : r - r = 0 := Nat.sub_self r
    rw [e]
    exact ⟨[], .sl0 _ (by simp), fun g hg => by cases hg⟩
   ·rw [if_neg hc]
    simp only [Option.map_some, addr_add]
    have d := Deep.sl (w := w) (sz := n) (enc := enc) (xs := fun _ => ((xs ()).drop l).take (r - l)) (g := g) (off := off + l * n) (cap := cap - l) (cs := cs) (t := t) (fr := fr) (fun i j => u (l + i) j) (fun i j => F (l + i) j)
     (by simp only [hlen]; omega) hg (by have : off + cap * n ≤ cs.size := hr; have e : (cap - l) * n + l * n = cap * n := by rw [← Nat.add_mul]; congr 1; omega
                                         omega)
     (fun i x hx j hj => by
       have hi : i < r - l := by have := lt_of_get hx; simp only [hlen] at this; exact this
       rw [List.getElem?_take, if_pos hi, List.getElem?_drop] at hx
       have := hu _ x hx j hj
       rw [Nat.add_mul] at this
       rw [show off + l * n + i * n + j = off + (l * n + i * n) + j by omega]
       exact this)
     (fun i x hx j hj => by
       have hi : i < r - l := by have := lt_of_get hx; simp only [hlen] at this; exact this
       rw [List.getElem?_take, if_pos hi, List.getElem?_drop] at hx
       exact hd _ x hx j hj)
    simp only [hlen] at d
    refine ⟨_, d, fun q hq => ?_⟩
    rcases List.mem_cons.1 hq with rfl | hq
    ·exact List.mem_cons_self ..
    ·refine List.mem_cons_of_mem _ ?_
     obtain ⟨i, hi, hq⟩ := List.mem_flatMap.1 hq
     have := List.mem_range.1 hi
     exact mem_flat (by omega) hq
theorem slc_sl {E : Env} {α : Type} {t e : TypeId} {n : Nat} {enc : α → Nat → AV} {xs : Unit → List α} {u : Value} {lv hv : Option Value} {l r : Unit → Nat} (hu : P.underlying t = some (.slice e)) (hn : sizeOf? P e = some n) (h : Loc E (.sl n enc xs) u) (h1 : l () ≤ r ()) (h2 : r () ≤ (xs ()).length)
 (b1 : bnd lv 0 (l ())) (b2 : bnd hv (xs ()).length (r ())) : ∃ u', (Instr.sliceAt t u lv hv none).run P E.w = .ok u' E.w ∧ Loc E (.sl n enc (fun _ => ((xs ()).drop (l ())).take (r () - l ()))) u' := by
 cases h with
 | sl h =>
   obtain ⟨h, ho⟩ := h
   obtain ⟨A, cap, rfl, hc, fp', hd, hs⟩ := cut_deep h h1 h2
   exact ⟨_, slice_run hu hn b1 b2 h1 (Nat.le_trans h2 hc) _, .sl ⟨hd, fun g hg => ho g (hs g hg)⟩⟩
theorem slc_ref {E : Env} {FP : Nat → List Nat} {α : Type} {t e : TypeId} {b n : Nat} {off k : Unit → Nat} {enc : α → Nat → AV} {xs : Unit → List α} {fx : Bool} {u : Value} {lv hv : Option Value} {l r : Unit → Nat} (hG : Good E FP) (hu : P.underlying t = some (.slice e)) (hn : sizeOf? P e = some n) (hb0 : E.st b = some (.row n enc xs fx))
 (h : Loc E (.ref b off k) u) (h1 : l () ≤ r ()) (h2 : r () ≤ k ()) (b1 : bnd lv 0 (l ())) (b2 : bnd hv (k ()) (r ())) :
 ∃ u', (Instr.sliceAt t u lv hv none).run P E.w = .ok u' E.w ∧ Loc E (.ref b (fun _ => off () + l ()) (fun _ => r () - l ())) u' := by
 cases h with
 | refl hb hr => rw [hb0] at hb; cases hb
 | ref hb hr =>
   rw [hb0] at hb
   cases hb
   obtain ⟨hle, hr⟩ := hr
   cases ha : E.at_ b with
   | none =>
     rw [ha] at hr
     have r' := hG.rep b _ hb0
     generalize FP b = fp at r'
     obtain ⟨A, rfl⟩ := hr
     cases r' with
     | row F ha' _ _ _ => rw [ha] at ha'; cases ha'
     | row0 _ hx =>
       rw [hx] at hle
       have hk : k () = 0 := by simp at hle; omega
       have hr0 : r () = 0 := by omega
       have hl0 : l () = 0 := by omega
       rw [hk, hr0] at b2
       rw [hl0] at b1
       refine ⟨_, slice_run hu hn b1 b2 (Nat.le_refl _) (Nat.le_refl _) _, .ref hb0 ⟨?_, ?_⟩⟩
       ·show off () + l () + (r () - l ()) ≤ (xs ()).length
        rw [hx]; simp; simp at hle; omega
       ·rw [ha]; exact ⟨_, rfl⟩
   | some p =>
     obtain ⟨g, base⟩ := p
     rw [ha] at hr
     obtain ⟨A, cap, cs, t', rfl, hk, hg, hr⟩ := hr
     refine ⟨_, slice_run hu hn b1 b2 h1 (Nat.le_trans h2 hk) _, .ref hb0 ⟨by show off () + l () + (r () - l ()) ≤ _; omega, ?_⟩⟩
     rw [ha]
     refine ⟨_, _, cs, t', rfl, by show r () - l () ≤ cap - l (); omega, hg, ?_⟩
     by_cases hc : cap = l ()
     ·exact .inl (by omega)
     ·rcases hr with hr | ⟨rfl, hr⟩
      ·exact absurd (show cap = l () by omega) hc
      ·rw [if_neg hc]
       simp only [Option.map_some, addr_add]
       refine .inr ⟨?_, ?_⟩
       ·congr 2; rw [Nat.add_mul]; omega
       ·show base + (off () + l () + (cap - l ())) * n ≤ cs.size
        have : off () + l () + (cap - l ()) = off () + cap := by omega
        rw [this]; exact hr
theorem slc_str {E : Env} {t : TypeId} {s : Unit → ByteArray} {u : Value} {lv hv : Option Value} {l r : Unit → Nat} (hu : P.underlying t = some .string) (h : Loc E (.str s) u) (h1 : l () ≤ r ()) (h2 : r () ≤ (s ()).size)
 (b1 : bnd lv 0 (l ())) (b2 : bnd hv (s ()).size (r ())) : ∃ u', (Instr.sliceAt t u lv hv none).run P E.w = .ok u' E.w ∧ Loc E (.str (fun _ => (s ()).extract (l ()) (r ()))) u' := by
 have := h.str_inv
 subst this
 exact ⟨_, sslice_run hu b1 b2 h1 h2 _, .str (fun _ => (s ()).extract (l ()) (r ()))⟩
theorem slc_nil {E : Env} {t e : TypeId} {n : Nat} {u : Value} {lv hv : Option Value} {l r : Unit → Nat} (hu : P.underlying t = some (.slice e)) (hn : sizeOf? P e = some n) (h : Loc E .nil u) (h1 : l () ≤ r ()) (h2 : r () ≤ 0)
 (b1 : bnd lv 0 (l ())) (b2 : bnd hv 0 (r ())) : ∃ u', (Instr.sliceAt t u lv hv none).run P E.w = .ok u' E.w ∧ Loc E .nil u' := by
 have := h.nil_inv
 subst this
 refine ⟨_, slice_run hu hn b1 b2 h1 h2 _, ?_⟩
 have hr : r () = 0 := by omega
 have hl : l () = 0 := by omega
 rw [hr, hl]
 exact .nil
theorem slc_emp {E : Env} {t e : TypeId} {n : Nat} {u : Value} {lv hv : Option Value} {l r : Unit → Nat} (hu : P.underlying t = some (.slice e)) (hn : sizeOf? P e = some n) (h : Loc E .emp u) (h1 : l () ≤ r ()) (h2 : r () ≤ 0)
 (b1 : bnd lv 0 (l ())) (b2 : bnd hv 0 (r ())) : ∃ u', (Instr.sliceAt t u lv hv none).run P E.w = .ok u' E.w ∧ Loc E .emp u' := by
 obtain ⟨A, rfl⟩ := h.emp_inv
 refine ⟨_, slice_run hu hn b1 b2 h1 h2 _, ?_⟩
 have hr : r () = 0 := by omega
 have hl : l () = 0 := by omega
 rw [hr, hl]
 exact .emp _
theorem slice0_run {t e : TypeId} {n : Nat} (hu : P.underlying t = some (.slice e)) (hn : sizeOf? P e = some n) {A : Option Addr} {len cap : Nat} {lo : Option Value} {k1 k2 : IntKind} (hl : lo = none ∨ ∃ k, lo = some (.int k 0)) (w : World) :
 ∃ A', (Instr.sliceAt t (.slice A len cap) lo (some (.int k1 0)) (some (.int k2 0))).run P w = .ok (.slice A' 0 0) w := by
 unfold sizeOf? at hn
 rw [Option.map_eq_some_iff] at hn
 obtain ⟨q, hi', rfl⟩ := hn
 rcases hl with rfl | ⟨k, rfl⟩ <;> simp [Instr.sliceAt, run_underlying hu, Instr.slice, Instr.sliceBounds, Instr.sliceBound, asIntOf, sizeOf, typeInfo, hi']
theorem lit0_eval {x : Option Operand} (h : isLit0 x = true) : ∃ k, x = some (.const (.int k 0)) := by
 unfold isLit0 at h
 split at h
 ·rename_i k n
  split at h
  ·exact ⟨k, rfl⟩
  ·cases h
 ·cases h
theorem q_slc0 {t e : TypeId} {n : Nat} {x : Operand} {lo hi mx : Option Operand} {v : AV} (ho : o.op = .slice t x lo hi mx) (hu : P.underlying t = some (.slice e)) (hn : sizeOf? P e = some n) (hx0 : ev tm x = v) (h1 : isLit0 hi = true) (h2 : isLit0 mx = true) (h3 : (bif isNone lo then true else isLit0 lo) = true)
 (hp : ∀ (E : Env) (FP : Nat → List Nat) (u : Value), Good E FP → Loc E v u → ∃ A l c, u = .slice A l c) : QOK P o tm st nid .emp [] := by
 refine QOK.pure (fun w0 N tm' st' a w at_ FP hx hst hh => ?_)
 have h4 := hh.ev x
 rw [hx x (by simp [ho, Op.operands]), hx0] at h4
 obtain ⟨A, l, c, hv⟩ := hp _ FP _ hh.good h4
 obtain ⟨k1, rfl⟩ := lit0_eval h1
 obtain ⟨k2, rfl⟩ := lit0_eval h2
 have hl : lo.map a.eval = none ∨ ∃ k, lo.map a.eval = some (.int k 0) := by
  cases lo with
  | none => exact .inl rfl
  | some y =>
    obtain ⟨k, e⟩ := lit0_eval (x := some y) (by simpa [isNone] using h3)
    cases e
    exact .inr ⟨k, rfl⟩
 obtain ⟨A', hrun⟩ := slice0_run (P := P) (k1 := k1) (k2 := k2) (A := A) (len := l) (cap := c) hu hn hl w
 refine ⟨_, ?_, .emp A'⟩
 simp only [execOp, ho, hv, Option.map_some]
 have : ∀ k, a.eval (.const (.int k 0)) = .int k 0 := fun k => rfl
 rw [this, this, Sem.run_bind, hrun]
 rfl
theorem q_cap {v : AV} {c : Go.Call} {t e : TypeId} {x : Operand} (ho : o.op = .call c) (hc : c.callee = .builtin .cap) (ht : c.argTypes[0]? = some t) (ha : c.args.toList = [x]) (hu : P.underlying t = some (.slice e)) (hx0 : ev tm x = v) (hv : v = .nil ∨ v = .emp) :
 QOK P o tm st nid (.int .i64 (fun _ => 0)) [] := by
 refine QOK.pure (fun w0 N tm' st' a w at_ FP hx hst hh => ⟨.int .i64 0, ?_, .int .i64 _⟩)
 have hargs : c.args = #[x] := by
  have : c.args.toList = (#[x] : Array Operand).toList := ha
  exact Array.toList_inj.1 this
 have hts : c.argTypes[0]? = some t := ht
 have h2 := hh.ev x
 rw [hx x (by simp [ho, Op.operands, Go.Call.operands, hc, hargs]), hx0] at h2
 obtain ⟨A, he⟩ : ∃ A, a.eval x = .slice A 0 0 := by
  rcases hv with rfl | rfl
  ·exact ⟨_, h2.nil_inv⟩
  ·exact h2.emp_inv
 simp [execOp, ho, resolve, hc, hargs, invoke, builtin, Builtin.cap_, hts, he, run_underlying hu, goInt]
theorem q_len {v : AV} {n : Unit → Int} {c : Go.Call} {t : TypeId} {x : Operand} (ho : o.op = .call c) (hc : c.callee = .builtin .len) (ht : c.argTypes[0]? = some t) (ha : c.args.toList = [x]) (hx0 : ev tm x = v)
 (hp : ∀ (E : Env) (FP : Nat → List Nat) (u : Value), Good E FP → (∀ b k, look b st = some k → E.st b = some k) → Loc E v u → ((∃ e A l cap, P.underlying t = some (.slice e) ∧ u = .slice A l cap ∧ (l : Int) = n ()) ∨ (∃ s, P.underlying t = some .string ∧ u = .string s ∧ (s.size : Int) = n ()))) :
 QOK P o tm st nid (.int .i64 n) [] := by
 refine QOK.pure (fun w0 N tm' st' a w at_ FP hx hst hh => ⟨.int .i64 (n ()), ?_, .int .i64 n⟩)
 have hargs : c.args = #[x] := by
  have : c.args.toList = (#[x] : Array Operand).toList := ha
  exact Array.toList_inj.1 this
 have hts : c.argTypes[0]? = some t := ht
 have h2 := hh.ev x
 rw [hx x (by simp [ho, Op.operands, Go.Call.operands, hc, hargs]), hx0] at h2
 rcases hp _ FP _ hh.good hst h2 with ⟨e, A, l, cap, hu, he, hl⟩ | ⟨s, hu, he, hl⟩
 ·simp [execOp, ho, resolve, hc, hargs, invoke, builtin, Builtin.len_, hts, he, run_underlying hu, goInt, hl]
 ·simp [execOp, ho, resolve, hc, hargs, invoke, builtin, Builtin.len_, hts, he, run_underlying hu, goInt, hl]
theorem q_mx {k : IntKind} {m : Bool} {p q r : Unit → Int} {c : Go.Call} {x y : Operand} (ho : o.op = .call c) (hc : c.callee = .builtin (if m then .max else .min)) (ha : c.args.toList = [x, y]) (hx0 : ev tm x = .int k p) (hy0 : ev tm y = .int k q)
 (hr : r () = if m then max (p ()) (q ()) else min (p ()) (q ())) : QOK P o tm st nid (.int k r) [] := by
 refine QOK.pure (fun w0 N tm' st' a w at_ FP hx hst hh => ⟨.int k (r ()), ?_, .int k r⟩)
 have hargs : c.args = #[x, y] := by
  have : c.args.toList = (#[x, y] : Array Operand).toList := ha
  exact Array.toList_inj.1 this
 have h2 := hh.ev x
 rw [hx x (by simp [ho, Op.operands, Go.Call.operands, hc, hargs]), hx0] at h2
 have h3 := hh.ev y
 rw [hx y (by simp [ho, Op.operands, Go.Call.operands, hc, hargs]), hy0] at h3
 cases m with
 | true =>
   simp [execOp, ho, resolve, hc, hargs, invoke, builtin, Builtin.max_, h2.int_inv, h3.int_inv, Builtin.max2, hr]
   split <;> omega
 | false =>
   simp [execOp, ho, resolve, hc, hargs, invoke, builtin, Builtin.min_, h2.int_inv, h3.int_inv, Builtin.min2, hr]
   split <;> omega
theorem q_sidx {t : TypeId} {x y : Operand} {s : Unit → ByteArray} {k : IntKind} {m : Unit → Int} (ho : o.op = .index t x y) (hu : P.underlying t = some .string) (hx0 : ev tm x = .str s) (hy0 : ev tm y = .int k m) (h0 : 0 ≤ m ()) (h1 : m () < (s ()).size) :
 QOK P o tm st nid (.int .u8 (fun _ => (((s ()).get! (m ()).toNat).toNat : Int))) [] := by
 refine QOK.pure (fun w0 N tm' st' a w at_ FP hx hst hh => ⟨_, ?_, .int .u8 _⟩)
 have h2 := hh.ev x
 rw [hx x (by simp [ho, Op.operands]), hx0] at h2
 have h3 := hh.ev y
 rw [hx y (by simp [ho, Op.operands]), hy0] at h3
 have hlt : (m ()).toNat < (s ()).size := by omega
 have hg : (s ())[(m ()).toNat]? = some ((s ()).get! (m ()).toNat) := by
  rw [getElem?_pos (s ()) (m ()).toNat hlt]
  congr 1
  show (s ()).data[(m ()).toNat] = (s ()).data[(m ()).toNat]!
  exact (getElem!_pos (s ()).data (m ()).toNat hlt).symm
 simp [execOp, ho, Instr.index, h2.str_inv, h3.int_inv, asIntOf, run_underlying hu, h0, hg]
end
end Go.V
namespace Go.V
open Go Go.RowKit
theorem foldl_set (off : Nat) : ∀ (l : List Value) (k : Nat) (cs : Array Value),
 ((l.zipIdx k).foldl (fun cs p => cs.setIfInBounds (off + p.2) p.1) cs).size = cs.size ∧
 ∀ q, q < cs.size → ((l.zipIdx k).foldl (fun cs p => cs.setIfInBounds (off + p.2) p.1) cs)[q]? = if off + k ≤ q ∧ q < off + k + l.length then l[q - (off + k)]? else cs[q]?
 | [], k, cs => ⟨rfl, fun q hq => by simp; intro h1 h2; omega⟩
 | v :: r, k, cs => by
   obtain ⟨h1, h2⟩ := foldl_set off r (k + 1) (cs.setIfInBounds (off + k) v)
   simp only [List.zipIdx_cons, List.foldl_cons]
   refine ⟨by rw [h1]; simp, fun q hq => ?_⟩
   rw [h2 q (by simpa using hq)]
   simp only [List.length_cons]
   by_cases e : q = off + k
   ·subst e
    rw [if_neg (by omega), if_pos (by omega)]
    simp [hq]
   ·by_cases c : off + (k + 1) ≤ q ∧ q < off + (k + 1) + r.length
    ·rw [if_pos c, if_pos (by omega)]
     have : q - (off + k) = (q - (off + (k + 1))) + 1 := by omega
     rw [this, List.getElem?_cons_succ]
    ·rw [if_neg c, if_neg (by omega)]
     rw [Array.getElem?_setIfInBounds, if_neg (by omega)]
def Cells (E : Env) (cs : List AV) (us : Array Value) : Prop := us.size = cs.length ∧ ∀ (i : Nat) (x : AV), cs[i]? = some x → ∃ u, us[i]? = some u ∧ Loc E x u
theorem fillC_get {cs vs : List AV} {off q : Nat} (h : off + vs.length ≤ cs.length) : (fillC cs off vs)[q]? = if off ≤ q ∧ q < off + vs.length then vs[q - off]? else cs[q]? := by
 unfold fillC
 have hl : (cs.take off).length = off := by rw [List.length_take]; omega
 by_cases h1 : q < off
 ·rw [if_neg (by omega), List.append_assoc, List.getElem?_append_left (by rw [hl]; exact h1), List.getElem?_take, if_pos h1]
 ·by_cases h2 : q < off + vs.length
  ·rw [if_pos ⟨by omega, h2⟩, List.getElem?_append_left (by rw [List.length_append, hl]; exact h2), List.getElem?_append_right (by rw [hl]; omega), hl]
  ·rw [if_neg (by omega), List.getElem?_append_right (by rw [List.length_append, hl]; omega), List.length_append, hl, List.getElem?_drop]
   congr 1
   omega
theorem fillC_length {cs vs : List AV} {off : Nat} (h : off + vs.length ≤ cs.length) : (fillC cs off vs).length = cs.length := by
 unfold fillC
 rw [List.length_append, List.length_append, List.length_take, List.length_drop]
 omega
theorem fill_rel {w0 : Base} {w : World} {N : Nat} {tm tm' : List (Nat × AV)} {st' : Nat → Option Blk} {a : Act} {at_ : Nat → Option (Nat × Nat)} {FP : Nat → List Nat} (hh : Here w0 N tm' st' a w at_ FP) (place : Nat → Option (Nat × Nat)) :
 ∀ (parts : List (Nat × Operand)) (mparts : List (Nat × Nat × Operand)) (cs cs' : List AV) (us : Array Value),
   (∀ p ∈ parts, ev tm' p.2 = ev tm p.2) → mparts.length = parts.length → (∀ (i : Nat) (p : Nat × Operand) (m : Nat × Nat × Operand), parts[i]? = some p → mparts[i]? = some m → place p.1 = some (m.1, m.2.1) ∧ m.2.2 = p.2) →
   Cells ⟨w0, w, at_, st'⟩ cs us → fill tm cs mparts = some cs' → ∃ us', Instr.fill place us (parts.map fun p => (p.1, a.eval p.2)) = some us' ∧ Cells ⟨w0, w, at_, st'⟩ cs' us'
 | [], [], cs, cs', us, _, _, _, hc, hf => by
   simp only [fill, Option.some.injEq] at hf
   subst hf
   exact ⟨us, rfl, hc⟩
 | [], _ :: _, _, _, _, _, hl, _, _, _ => by simp at hl
 | _ :: _, [], _, _, _, _, hl, _, _, _ => by simp at hl
 | p :: parts, (off, n, x) :: mparts, cs, cs', us, hev, hl, hp, hc, hf => by
   obtain ⟨h1, h2⟩ := hp 0 p (off, n, x) rfl rfl
   have h2 : x = p.2 := h2
   subst h2
   simp only [fill] at hf
   cases hb : (Nat.beq (cellsOf (ev tm p.2)).length n && Nat.ble (off + n) cs.length && (cellsOf (ev tm p.2)).all cellOk) with
   | false => rw [hb] at hf; cases hf
   | true =>
     rw [hb, cond_true] at hf
     simp only [Bool.and_eq_true] at hb
     obtain ⟨⟨hb1, hb2⟩, hb3⟩ := hb
     have hb1 := Nat.eq_of_beq_eq_true hb1
     have hb2 := Nat.le_of_ble_eq_true hb2
     have hloc := hh.ev p.2
     rw [hev p (List.mem_cons_self ..)] at hloc
     obtain ⟨hs, hd⟩ := hloc.cells hb3
     have hsz : (a.eval p.2).cells.size = n := by rw [hs, hb1]
     have hus := hc.1
     obtain ⟨f1, f2⟩ := foldl_set off (a.eval p.2).cells.toList 0 us
     have ez : (a.eval p.2).cells.zipIdx.foldl (fun cs p => cs.setIfInBounds (off + p.2) p.1) us = ((a.eval p.2).cells.toList.zipIdx 0).foldl (fun cs p => cs.setIfInBounds (off + p.2) p.1) us := by
      rw [← Array.foldl_toList, Array.toList_zipIdx]
     have hc' : Cells ⟨w0, w, at_, st'⟩ (fillC cs off (cellsOf (ev tm p.2))) ((a.eval p.2).cells.zipIdx.foldl (fun cs p => cs.setIfInBounds (off + p.2) p.1) us) := by
      refine ⟨by rw [ez, f1, fillC_length (by omega)]; exact hus, fun q y hy => ?_⟩
      have hq : q < us.size := by have := lt_of_get hy; rw [fillC_length (by omega)] at this; omega
      rw [fillC_get (by omega)] at hy
      rw [ez, f2 q hq]
      by_cases c : off ≤ q ∧ q < off + (cellsOf (ev tm p.2)).length
      ·rw [if_pos c] at hy
       rw [if_pos (by rw [Array.length_toList]; omega)]
       obtain ⟨u, hu, hlu, _⟩ := hd _ y hy
       exact ⟨u, by rw [Nat.add_zero, Array.getElem?_toList]; exact hu, hlu⟩
      ·rw [if_neg c] at hy
       rw [if_neg (by rw [Array.length_toList]; omega)]
       exact hc.2 q y hy
     obtain ⟨us', hr, hc''⟩ := fill_rel hh place parts mparts _ cs' _ (fun q hq => hev q (List.mem_cons_of_mem _ hq)) (by simpa using hl) (fun i q m hq hm => hp (i + 1) q m (by simpa using hq) (by simpa using hm)) hc' hf
     refine ⟨us', ?_, hc''⟩
     have g1 : ¬ ((a.eval p.2).cells.size ≠ n ∨ off + (a.eval p.2).cells.size > us.size) := by omega
     simp only [List.map_cons, Instr.fill, h1]
     rw [if_neg (by simpa using g1)]
     exact hr
section
variable {P : Program} {Q : AV → Prop} {As : List (St → Prop)} {mu : Nat → Bool} {tm : List (Nat × AV)} {st : List (Nat × Blk)} {nid : Nat} {K : AV → List (Nat × Blk) → Tree} {o : Oper}
theorem mapM_get {α β : Type _} {f : α → Option β} : ∀ {l : List α} {r : List β}, l.mapM f = some r → r.length = l.length ∧ ∀ (i : Nat) (x : α) (y : β), l[i]? = some x → r[i]? = some y → f x = some y
 | [], r, h => by
   simp only [List.mapM_nil, Option.pure_def, Option.some.injEq] at h
   subst h
   exact ⟨rfl, fun i x y hx => by simp at hx⟩
 | a :: l, r, h => by
   rw [List.mapM_cons, Option.bind_eq_bind, Option.bind_eq_some_iff] at h
   obtain ⟨b, hb, h⟩ := h
   rw [Option.bind_eq_bind, Option.bind_eq_some_iff] at h
   obtain ⟨r', hr, h⟩ := h
   simp only [Option.pure_def, Option.some.injEq] at h
   subst h
   obtain ⟨h1, h2⟩ := mapM_get hr
   refine ⟨by simp [h1], fun i x y hx hy => ?_⟩
   cases i with
   | zero =>
     simp only [List.getElem?_cons_zero, Option.some.injEq] at hx hy
     subst hx hy
     exact hb
   | succ i => exact h2 i x y (by simpa using hx) (by simpa using hy)
theorem list_mapM_run {α β : Type} {f : α → Sem β} {g : α → Option β} {w : World} (h : ∀ x y, g x = some y → (f x).run P w = .ok y w) : ∀ {l : List α} {r : List β}, l.mapM g = some r → (l.mapM f).run P w = .ok r w
 | [], r, hr => by
   simp only [List.mapM_nil, Option.pure_def, Option.some.injEq] at hr
   subst hr
   simp
 | a :: l, r, hr => by
   rw [List.mapM_cons, Option.bind_eq_bind, Option.bind_eq_some_iff] at hr
   obtain ⟨b, hb, hr⟩ := hr
   rw [Option.bind_eq_bind, Option.bind_eq_some_iff] at hr
   obtain ⟨r', hr', hr⟩ := hr
   simp only [Option.pure_def, Option.some.injEq] at hr
   subst hr
   simp [List.mapM_cons, h a b hb, list_mapM_run h hr']
theorem sizeOf_run {t : TypeId} {n : Nat} (h : sizeOf? P t = some n) (w : World) : (sizeOf t).run P w = .ok n w := by
 unfold sizeOf? at h
 rw [Option.map_eq_some_iff] at h
 obtain ⟨i, hi, rfl⟩ := h
 simp [sizeOf, typeInfo, hi]
theorem q_bld {t : TypeId} {parts : Array (Nat × Operand)} {fs : Array Field} {zs : List Value} {places : List (Nat × Nat)} {l : List (Nat × Nat × Operand)} {cs : List AV} (ho : o.op = .build t parts) (hu : P.underlying t = some (.struct fs)) (hz : zero? P t = some zs)
 (hp : (fs.toList.mapM fun fd => (sizeOf? P fd.type).map fun n => (fd.offset, n)) = some places)
 (hl : (parts.toList.mapM fun p => (places[p.1]?).map fun q => (q.1, q.2, p.2)) = some l) (hf : fill tm (zs.map ofVal) l = some cs) : QOK P o tm st nid (.agg cs) [] := by
 refine QOK.pure (fun w0 N tm' st' a w at_ FP hx hst hh => ?_)
 obtain ⟨z, hr, rfl⟩ := zero_run hz w
 have hc : Cells ⟨w0, w, at_, st'⟩ (z.cells.toList.map ofVal) z.cells := ⟨by simp, fun i x hx => by
  rw [List.getElem?_map, Option.map_eq_some_iff] at hx
  obtain ⟨u, hu, rfl⟩ := hx
  exact ⟨u, by simpa using hu, ofVal_loc _ u⟩⟩
 obtain ⟨m1, m2⟩ := mapM_get hl
 obtain ⟨us, hfill, hcells⟩ := fill_rel (tm := tm) hh (fun i => places.toArray[i]?) parts.toList l _ cs z.cells
  (fun p hp => hx p.2 (by
    simp only [ho, Op.operands, List.mem_map]
    exact ⟨p, hp, rfl⟩)) m1 (fun i p m hp hm => by
    have := m2 i p m hp hm
    rw [Option.map_eq_some_iff] at this
    obtain ⟨q, hq, rfl⟩ := this
    exact ⟨by simpa using hq, rfl⟩) hc hf
 have hmap : (fs.mapM fun f => (do pure (f.offset, ← sizeOf f.type) : Sem (Nat × Nat))).run P w = .ok places.toArray w := by
  rw [Array.mapM_eq_mapM_toList]
  have := list_mapM_run (P := P) (w := w) (f := fun f => (do pure (f.offset, ← sizeOf f.type) : Sem (Nat × Nat))) (g := fun fd : Field => (sizeOf? P fd.type).map fun n => (fd.offset, n)) (fun x y hxy => by
   rw [Option.map_eq_some_iff] at hxy
   obtain ⟨n, hn, rfl⟩ := hxy
   simp [sizeOf_run hn]) hp
  simp only [Sem.run_map, this, Result.andThen_ok]
 have hfill' : Instr.fill (fun i => places.toArray[i]?) z.cells (parts.map fun p => (p.1, a.eval p.2)).toList = some us := by
  rw [Array.toList_map]; exact hfill
 refine ⟨.agg us, ?_, .agg hcells.1 (fun i x hx => ?_)⟩
 ·simp only [execOp, ho, Instr.build, Sem.run_bind, hr, Result.andThen_ok, run_underlying hu, hmap]
  rw [hfill']
  rfl
 ·obtain ⟨u, hu, hl⟩ := hcells.2 i x hx
  rw [Array.getD_eq_getD_getElem?, hu]
  exact hl
theorem q_blda {t e : TypeId} {len n : Nat} {parts : Array (Nat × Operand)} {zs : List Value} {cs : List AV} (ho : o.op = .build t parts) (hu : P.underlying t = some (.array len e)) (hz : zero? P t = some zs) (hn : sizeOf? P e = some n)
 (hf : fill tm (zs.map ofVal) (parts.toList.map fun p => (p.1 * n, n, p.2)) = some cs) : QOK P o tm st nid (.agg cs) [] := by
 refine QOK.pure (fun w0 N tm' st' a w at_ FP hx hst hh => ?_)
 obtain ⟨z, hr, rfl⟩ := zero_run hz w
 have hc : Cells ⟨w0, w, at_, st'⟩ (z.cells.toList.map ofVal) z.cells := ⟨by simp, fun i x hx => by
  rw [List.getElem?_map, Option.map_eq_some_iff] at hx
  obtain ⟨u, hu, rfl⟩ := hx
  exact ⟨u, by simpa using hu, ofVal_loc _ u⟩⟩
 obtain ⟨us, hfill, hcells⟩ := fill_rel (tm := tm) hh (fun i => some (i * n, n)) parts.toList (parts.toList.map fun p => (p.1 * n, n, p.2)) _ cs z.cells
  (fun p hp => hx p.2 (by
    simp only [ho, Op.operands, List.mem_map]
    exact ⟨p, hp, rfl⟩)) (by simp) (fun i p m hp hm => by
    rw [List.getElem?_map, hp] at hm
    simp only [Option.map_some, Option.some.injEq] at hm
    subst hm
    exact ⟨rfl, rfl⟩) hc hf
 have hfill' : Instr.fill (fun i => some (i * n, n)) z.cells (parts.map fun p => (p.1, a.eval p.2)).toList = some us := by
  rw [Array.toList_map]; exact hfill
 refine ⟨.agg us, ?_, .agg hcells.1 (fun i x hx => ?_)⟩
 ·simp only [execOp, ho, Instr.build, Sem.run_bind, hr, Result.andThen_ok, run_underlying hu, sizeOf_run hn]
  rw [hfill']
  rfl
 ·obtain ⟨u, hu, hl⟩ := hcells.2 i x hx
  rw [Array.getD_eq_getD_getElem?, hu]
  exact hl
end
end Go.V
namespace Go.V
open Go Go.RowKit
theorem flat_rep {α : Type _} (l : List α) : ∀ (len i : Nat), i < len * l.length → ((List.replicate len l).flatten)[i]? = l[i % l.length]?
 | 0, i, h => by simp at h
 | len + 1, i, h => by
   rw [List.replicate_succ, List.flatten_cons]
   by_cases hi : i < l.length
   ·rw [List.getElem?_append_left hi, Nat.mod_eq_of_lt hi]
   ·rw [List.getElem?_append_right (by omega), flat_rep l len (i - l.length) (by rw [Nat.add_mul] at h; omega), ← Nat.mod_eq_sub_mod (show i ≥ l.length by omega)]
theorem flat_rep_length {α : Type _} (l : List α) (len : Nat) : ((List.replicate len l).flatten).length = len * l.length := by
 simp
theorem allInt_spec {k : IntKind} : ∀ {cs : List AV} {l : Unit → List Int}, allInt k cs = some l → (l ()).length = cs.length ∧ ∀ (i : Nat) (x : AV), cs[i]? = some x → ∃ n, x = .int k n ∧ (l ())[i]? = some (n ())
 | [], l, h => by
   simp only [allInt, Option.some.injEq] at h
   subst h
   exact ⟨rfl, fun i x hx => by simp at hx⟩
 | x :: r, l, h => by
   cases x <;> simp only [allInt] at h <;> first | (cases h; done) | skip
   rename_i q n
   cases hk : kindEq q k with
   | false => rw [hk] at h; cases h
   | true =>
     rw [hk, cond_true] at h
     have e := kindEq_eq hk
     subst e
     cases hr : allInt q r with
     | none => rw [hr] at h; cases h
     | some l' =>
       rw [hr] at h
       simp only [Option.some.injEq] at h
       subst h
       obtain ⟨h1, h2⟩ := allInt_spec hr
       refine ⟨by simp [h1], fun i x hx => ?_⟩
       cases i with
       | zero =>
         simp only [List.getElem?_cons_zero, Option.some.injEq] at hx
         exact ⟨n, hx.symm, rfl⟩
       | succ i => exact h2 i x (by simpa using hx)
theorem allStr_spec : ∀ {cs : List AV} {l : Unit → List ByteArray}, allStr cs = some l → (l ()).length = cs.length ∧ ∀ (i : Nat) (x : AV), cs[i]? = some x → ∃ s, x = .str s ∧ (l ())[i]? = some (s ())
 | [], l, h => by
   simp only [allStr, Option.some.injEq] at h
   subst h
   exact ⟨rfl, fun i x hx => by simp at hx⟩
 | x :: r, l, h => by
   cases x <;> simp only [allStr] at h <;> first | (cases h; done) | skip
   rename_i s
   cases hr : allStr r with
   | none => rw [hr] at h; cases h
   | some l' =>
     rw [hr] at h
     simp only [Option.some.injEq] at h
     subst h
     obtain ⟨h1, h2⟩ := allStr_spec hr
     refine ⟨by simp [h1], fun i x hx => ?_⟩
     cases i with
     | zero =>
       simp only [List.getElem?_cons_zero, Option.some.injEq] at hx
       exact ⟨s, hx.symm, rfl⟩
     | succ i => exact h2 i x (by simpa using hx)
theorem isAgg_run {P : Program} {t : TypeId} {g : Bool} (hg : agg? P t = some g) (w : World) : (isAgg t).run P w = .ok g w := by
 unfold agg? at hg
 split at hg
 ·rename_i hu; simp at hg; subst hg; simp [isAgg, run_underlying hu]
 ·rename_i hu; simp at hg; subst hg; simp [isAgg, run_underlying hu]
 ·rename_i k h1 h2 hu
  simp at hg
  subst hg
  simp only [isAgg, Sem.run_bind, run_underlying hu, Result.andThen_ok]
  first
   | rfl
   | (split
      ·rename_i fs _; exact absurd rfl (h1 fs)
      ·rename_i n e _; exact absurd rfl (h2 n e)
      ·rfl)
 ·cases hg
theorem q_aidx {P : Program} {tm : List (Nat × AV)} {st : List (Nat × Blk)} {nid : Nat} {o : Oper} {t e : TypeId} {x y : Operand} {len : Nat} {cs : List AV} {l : Unit → List ByteArray} {k : IntKind} {m : Unit → Int} {s : ByteArray} (ho : o.op = .index t x y) (hu : P.underlying t = some (.array len e)) (hn : sizeOf? P e = some 1) (hg : agg? P e = some false)
 (hx0 : ev tm x = .agg cs) (hl : allStr cs = some l) (hy0 : ev tm y = .int k m) (h0 : 0 ≤ m ()) (h1 : m () < len) (hs : (l ())[(m ()).toNat]? = some s) : QOK P o tm st nid (.str (fun _ => s)) [] := by
 refine QOK.pure (fun w0 N tm' st' a w at_ FP hx hst hh => ⟨.string s, ?_, .str _⟩)
 have h2 := hh.ev x
 rw [hx x (by simp [ho, Op.operands]), hx0] at h2
 have h3 := hh.ev y
 rw [hx y (by simp [ho, Op.operands]), hy0] at h3
 obtain ⟨us, he, hsz, hd⟩ := h2.agg_inv
 obtain ⟨a1, a2⟩ := allStr_spec hl
 have hlt : (m ()).toNat < cs.length := by have := lt_of_get hs; omega
 obtain ⟨s', e1, e2⟩ := a2 _ _ (List.getElem?_eq_getElem hlt)
 rw [hs] at e2
 have h4 := hd _ _ (List.getElem?_eq_getElem hlt)
 rw [e1] at h4
 have h5 := h4.str_inv
 have hus : us[(m ()).toNat]? = some (.string s) := by
  have hlt2 : (m ()).toNat < us.size := by omega
  rw [Array.getElem?_eq_getElem hlt2]
  rw [Array.getD, dif_pos hlt2] at h5
  have h5 : us[(m ()).toNat] = .string (s' ()) := h5
  rw [h5, ← Option.some.inj e2]
 have hpart : (part e us ((m ()).toNat * 1)).run P w = .ok (.string s) w := by
  simp only [part, Sem.run_bind, isAgg_run hg, Result.andThen_ok, Nat.mul_one, hus]
  rfl
 simp only [execOp, ho, Sem.run_bind, Instr.index, he, h3.int_inv, asIntOf, Sem.run_pure, Result.andThen_ok, run_underlying hu]
 rw [if_pos ⟨h0, h1⟩]
 simp only [Sem.run_bind, sizeOf_run hn, Result.andThen_ok, hpart, Sem.run_pure]
inductive LitIs (sz : Nat) (cs : List AV) : Blk → Prop
 | lit : LitIs sz cs (.lit sz cs)
 | int (k : IntKind) (l : Unit → List Int) (h1 : sz = 1) (h2 : (l ()).length = cs.length) (h3 : ∀ (i : Nat) (x : AV), cs[i]? = some x → ∃ n, x = .int k n ∧ (l ())[i]? = some (n ())) : LitIs sz cs (.row 1 (encI k) l false)
 | str (l : Unit → List ByteArray) (h1 : sz = 1) (h2 : (l ()).length = cs.length) (h3 : ∀ (i : Nat) (x : AV), cs[i]? = some x → ∃ s, x = .str s ∧ (l ())[i]? = some (s ())) : LitIs sz cs (.row 1 encS l false)
theorem litBlk_is (sz : Nat) (cs : List AV) : LitIs sz cs (litBlk sz cs) := by
 unfold litBlk
 split
 ·rename_i k n r
  cases h : allInt k r with
  | none => exact .lit
  | some l =>
    obtain ⟨h1, h2⟩ := allInt_spec h
    refine .int k _ rfl (by simp [h1]) (fun i x hx => ?_)
    cases i with
    | zero =>
      simp only [List.getElem?_cons_zero, Option.some.injEq] at hx
      exact ⟨n, hx.symm, rfl⟩
    | succ i => exact h2 i x (by simpa using hx)
 ·rename_i s r
  cases h : allStr r with
  | none => exact .lit
  | some l =>
    obtain ⟨h1, h2⟩ := allStr_spec h
    refine .str _ rfl (by simp [h1]) (fun i x hx => ?_)
    cases i with
    | zero =>
      simp only [List.getElem?_cons_zero, Option.some.injEq] at hx
      exact ⟨s, hx.symm, rfl⟩
    | succ i => exact h2 i x (by simpa using hx)
 ·exact .lit
theorem flat_nil {F : Nat → Nat → List Nat} {n sz : Nat} (h : ∀ i j, F i j = []) : ((List.range n).flatMap fun i => (List.range sz).flatMap (F i)) = [] := by
 rw [List.flatMap_eq_nil_iff]
 intro i _
 rw [List.flatMap_eq_nil_iff]
 intro j _
 exact h i j
theorem LitIs.rep {E : Env} {b sz g : Nat} {cs : List AV} {blk : Blk} {us : Array Value} {t : TypeId} (h : LitIs sz cs blk) (ha : E.at_ b = some (g, 0)) (hg : E.w.heap[g]? = some (.cells us t (0, 0))) (hc : Cells E cs us) : BlkRep E b blk [] := by
 cases h with
 | lit => exact .lit ha hg (fun j x hx => by rw [Nat.zero_add]; exact hc.2 j x hx)
 | int k l h1 h2 h3 =>
   have r := BlkRep.row (E := E) (b := b) (sz := 1) (enc := encI k) (xs := l) (fx := false) (fun _ _ => []) ha hg (by have := hc.1; omega) (fun i x hx j hj => by
    have hi : i < cs.length := by have := lt_of_get hx; omega
    obtain ⟨n, he, hn⟩ := h3 i _ (List.getElem?_eq_getElem hi)
    rw [hx] at hn
    simp only [Option.some.injEq] at hn
    obtain ⟨u, hu, hl⟩ := hc.2 i _ (List.getElem?_eq_getElem hi)
    rw [he] at hl
    have : j = 0 := by omega
    subst this
    refine ⟨u, by simpa using hu, ?_⟩
    rw [hl.int_inv, ← hn]
    exact .int k (fun _ => x))
   rw [flat_nil (fun _ _ => rfl)] at r
   exact r
 | str l h1 h2 h3 =>
   have r := BlkRep.row (E := E) (b := b) (sz := 1) (enc := encS) (xs := l) (fx := false) (fun _ _ => []) ha hg (by have := hc.1; omega) (fun i x hx j hj => by
    have hi : i < cs.length := by have := lt_of_get hx; omega
    obtain ⟨n, he, hn⟩ := h3 i _ (List.getElem?_eq_getElem hi)
    rw [hx] at hn
    simp only [Option.some.injEq] at hn
    obtain ⟨u, hu, hl⟩ := hc.2 i _ (List.getElem?_eq_getElem hi)
    rw [he] at hl
    have : j = 0 := by omega
    subst this
    refine ⟨u, by simpa using hu, ?_⟩
    rw [hl.str_inv, ← hn]
    exact .str (fun _ => x))
   rw [flat_nil (fun _ _ => rfl)] at r
   exact r
theorem LitIs.ref {E : Env} {b sz g len : Nat} {cs : List AV} {blk : Blk} {us : Array Value} {t : TypeId} (h : LitIs sz cs blk) (hb : E.st b = some blk) (ha : E.at_ b = some (g, 0)) (hg : E.w.heap[g]? = some (.cells us t (0, 0))) (hs : us.size = len * sz) (hl : cs.length = len * sz) (h0 : 0 < sz) :
 Loc E (.ref b (fun _ => 0) (fun _ => len)) (.slice (some ⟨g, 0, none⟩) len len) := by
 have key : ∀ n s, s = sz → n = len → RefAt E b 0 len n s (.slice (some ⟨g, 0, none⟩) len len) := fun n s h1 h2 => by
  subst h1 h2
  refine ⟨by omega, ?_⟩
  rw [ha]
  exact ⟨_, n, us, t, rfl, Nat.le_refl _, hg, .inr ⟨by simp, by rw [hs]; simp⟩⟩
 cases h with
 | lit => exact .refl hb (key _ _ rfl (by rw [hl, Nat.mul_div_cancel _ h0]))
 | int k l h1 h2 h3 => exact .ref hb (key _ _ h1.symm (by rw [h2, hl, h1, Nat.mul_one]))
 | str l h1 h2 h3 => exact .ref hb (key _ _ h1.symm (by rw [h2, hl, h1, Nat.mul_one]))
theorem fill_length {tm : List (Nat × AV)} : ∀ {ps : List (Nat × Nat × Operand)} {cs cs' : List AV}, fill tm cs ps = some cs' → cs'.length = cs.length
 | [], cs, cs', h => by
   simp only [fill, Option.some.injEq] at h
   rw [h]
 | (off, n, x) :: r, cs, cs', h => by
   simp only [fill] at h
   cases hb : (Nat.beq (cellsOf (ev tm x)).length n && Nat.ble (off + n) cs.length && (cellsOf (ev tm x)).all cellOk) with
   | false => rw [hb] at h; cases h
   | true =>
     rw [hb, cond_true] at h
     simp only [Bool.and_eq_true] at hb
     have hb1 := Nat.eq_of_beq_eq_true hb.1.1
     have hb2 := Nat.le_of_ble_eq_true hb.1.2
     rw [fill_length h, fillC_length (by omega)]
section
variable {P : Program} {Q : AV → Prop} {As : List (St → Prop)} {mu : Nat → Bool} {tm : List (Nat × AV)} {st : List (Nat × Blk)} {nid : Nat} {K : AV → List (Nat × Blk) → Tree} {o : Oper}
theorem elem_slice {t e : TypeId} (h : elem? P t = some e) : P.underlying t = some (.slice e) := by
 unfold elem? at h
 split at h
 ·rename_i hu; cases h; exact hu
 ·cases h
theorem fresh_cells {len n : Nat} {z : Array Value} (hz : z.size = n) (h0 : 0 < n) : ((Array.range (len * n)).map fun i => z[i % z.size]!).size = len * n ∧
 ∀ i, i < len * n → ((Array.range (len * n)).map fun i => z[i % z.size]!)[i]? = z[i % n]? := by
 refine ⟨by simp, fun i hi => ?_⟩
 have : i % n < z.size := by rw [hz]; exact Nat.mod_lt _ h0
 rw [Array.getElem?_eq_getElem this]
 simp [hi, hz, getElem!_pos z (i % n) this]
theorem q_bsl {t e : TypeId} {len n : Nat} {parts : Array (Nat × Operand)} {zs : List Value} {cs : List AV} (ho : o.op = .buildSlice t len parts) (he : elem? P t = some e) (hn : sizeOf? P e = some n) (hz : zero? P e = some zs) (hzl : zs.length = n) (h0 : 0 < n) (h99 : n < 99) (hbig : len * n ≤ 16777216)
 (hlen : 0 < len) (hf : fill tm ((List.replicate len (zs.map ofVal)).flatten) (parts.toList.map fun p => (p.1 * n, n, p.2)) = some cs) : QOK P o tm st nid (.ref nid (fun _ => 0) (fun _ => len)) [(nid, litBlk n cs)] := by
 refine ⟨fun p hp => (by simp at hp; subst hp; exact ⟨Nat.le_refl _, by omega⟩), fun w0 _ N tm' st' a w hx hst hf' ⟨at_, FP, hh⟩ => ?_⟩
 obtain ⟨z, hr, rfl⟩ := zero_run hz w
 have hzs : z.cells.size = n := by simpa using hzl
 obtain ⟨fs, fg⟩ := fresh_cells (len := len) hzs h0
 have hc : Cells ⟨w0, w, at_, st'⟩ ((List.replicate len (z.cells.toList.map ofVal)).flatten) ((Array.range (len * n)).map fun i => z.cells[i % z.cells.size]!) := by
  have hl : (z.cells.toList.map ofVal).length = n := by simp [hzs]
  refine ⟨by rw [fs, flat_rep_length, hl], fun i x hx => ?_⟩
  have hi : i < len * n := by have := lt_of_get hx; rw [flat_rep_length, hl] at this; exact this
  rw [flat_rep _ _ _ (by rw [hl]; exact hi), hl, List.getElem?_map, Option.map_eq_some_iff] at hx
  obtain ⟨u, hu, rfl⟩ := hx
  exact ⟨u, by rw [fg i hi]; simpa using hu, ofVal_loc _ u⟩
 obtain ⟨us, hfill, hcells⟩ := fill_rel (tm := tm) hh (fun i => some (i * n, n)) parts.toList _ _ cs _ (fun p hp => hx p.2 (by
  simp only [ho, Op.operands, List.mem_map]
  exact ⟨p, hp, rfl⟩)) (by simp) (fun i p m hp hm => by
  rw [List.getElem?_map, hp] at hm
  simp only [Option.map_some, Option.some.injEq] at hm
  subst hm
  exact ⟨rfl, rfl⟩) hc hf
 have hcl : cs.length = len * n := by rw [fill_length hf, flat_rep_length]; simp [hzs]
 have his := litBlk_is n cs
 obtain ⟨h1, mv⟩ := hh.fresh (hf' nid (Nat.le_refl _) (by omega)) us e (blk := litBlk n cs) (fp := [])
  (fun mv => his.rep (g := w.heap.size) (us := us) (t := e) (upd_self _ _ _) (grown_here w _) ⟨hcells.1, fun i x hx => by obtain ⟨u, hu, hl⟩ := hcells.2 i x hx; exact ⟨u, hu, mv x u hl⟩⟩)
  List.nodup_nil (fun g hg => by cases hg) (fun c k _ g hg => by cases hg) (notFx_lit n cs h99)
 refine .inl ⟨.slice (some ⟨w.heap.size, 0, none⟩) len len, w.alloc (.cells us e), .inl ?_, _, _, by rw [addAll_one]; exact h1, ?_⟩
 ·have hne : ¬ (len * n > 2 ^ 24) := by omega
  have hne2 : ¬ (len * n = 0) := by have := Nat.mul_pos hlen h0; omega
  have hfill' : Instr.fill (fun i => some (i * n, n)) ((Array.range (len * n)).map fun i => z.cells[i % z.cells.size]!) (parts.map fun p => (p.1, a.eval p.2)).toList = some us := by
   rw [Array.toList_map]; exact hfill
  simp only [execOp, ho, Instr.buildSlice, Sem.run_bind, run_underlying (elem_slice he), Result.andThen_ok, sizeOf_run hn, hne, hne2, if_false, hr, Sem.run_pure]
  rw [hfill']
  rfl
 ·rw [addAll_one]
  exact his.ref (upd_self _ _ _) (upd_self _ _ _) (grown_here w _) (by rw [hcells.1, hcl]) hcl h0
theorem q_bsl0 {t e : TypeId} {n : Nat} {parts : Array (Nat × Operand)} (ho : o.op = .buildSlice t 0 parts) (he : elem? P t = some e) (hn : sizeOf? P e = some n) (hp : parts.size = 0) : QOK P o tm st nid .emp [] := by
 refine ⟨fun p hp => (by cases hp), fun w0 _ N tm' st' a w hx hst hf ⟨at_, FP, hh⟩ => ?_⟩
 have hpe : parts = #[] := by simpa using hp
 subst hpe
 refine .inl ⟨.slice (some ⟨w.heap.size, 0, none⟩) 0 0, w.alloc (.cells #[] e), .inl ?_, at_, FP, hh.world (below_grown w _), .emp _⟩
 have e0 : ∀ f : Nat → Value, (Array.range 0).map f = #[] := fun f => Array.eq_empty_of_size_eq_zero (by simp)
 simp [execOp, ho, Instr.buildSlice, run_underlying (elem_slice he), sizeOf_run hn, Instr.fill, newRow, e0]
theorem ofVal_deep {w : World} {v : Value} (h : flat (ofVal v) = true) : Deep w (ofVal v) v [] := by
 cases v with
 | int k n => exact .int k _
 | bool b => exact .bo b
 | string s => exact .str _
 | slice a n c =>
   cases a with
   | some a => simp [ofVal, flat] at h
   | none =>
     cases n with
     | succ n => simp [ofVal, flat] at h
     | zero =>
       cases c with
       | zero => exact .nil
       | succ c => simp [ofVal, flat] at h
 | _ => simp [ofVal, flat] at h
theorem wrap_in {n : Int} (h0 : 0 ≤ n) (h1 : n < 9223372036854775808) : IntKind.i64.wrap n = n := IntWalk.i64_in _ (by omega)
theorem make_run {t e : TypeId} {i : TypeInfo} {z : Value} {k k' : IntKind} {n : Nat} {w : World} (he : elem? P t = some e) (hi : P.info? e = some i) (hz : (zeroValue e).run P w = .ok z w) (hzs : z.cells.size = i.size) (h0 : 0 < i.size) (hb : 0 < i.bytes) (hsz : n * i.bytes ≤ 140737488351232) :
 ∃ us : Array Value, us.size = n * i.size ∧ (∀ q, q < n * i.size → us[q]? = z.cells[q % i.size]?) ∧ (Instr.makeSlice t (.int k n) (.int k' n)).run P w = .ok (.slice (some ⟨w.heap.size, 0, none⟩) n n) (w.alloc (.cells us e)) := by
 have hle : n ≤ n * i.bytes := Nat.le_mul_of_pos_right _ hb
 have hw : IntKind.i64.wrap (n : Int) = n := wrap_in (by omega) (by omega)
 have hmul : ((i.bytes : Int) * (n : Int)) = ((n * i.bytes : Nat) : Int) := by rw [Int.natCast_mul, Int.mul_comm]
 have hlarge : ¬ ((i.bytes : Int) * (n : Int) > 2 ^ 48) := by rw [hmul]; omega
 have hlarge' : decide ((i.bytes : Int) * (n : Int) > 2 ^ 48) = false := decide_eq_false hlarge
 have hneg : ¬ ((n : Int) < 0) := by omega
 have hneg' : decide ((n : Int) < 0) = false := decide_eq_false hneg
 obtain ⟨fs, fg⟩ := fresh_cells (len := n) hzs h0
 by_cases hm : n * i.size = 0
 ·refine ⟨#[], by simp [hm], fun q hq => by omega, ?_⟩
  have e0 : ∀ f : Nat → Value, (Array.range 0).map f = #[] := fun f => Array.eq_empty_of_size_eq_zero (by simp)
  unfold Instr.makeSlice
  simp only [Sem.run_bind, run_underlying (elem_slice he), Result.andThen_ok, asInt, asIntOf, Sem.run_pure, typeInfo, run_program, hi, hw, hlarge', hneg', hneg, Bool.or_self, Bool.false_eq_true, Bool.or_false, false_or, if_false, gt_iff_lt, Int.lt_irrefl, decide_false, run_askRoom, sizeOf, Int.toNat_natCast, hm, if_true, newRow, run_newObj, e0]
  rfl
 ·refine ⟨_, fs, fg, ?_⟩
  unfold Instr.makeSlice
  simp only [Sem.run_bind, run_underlying (elem_slice he), Result.andThen_ok, asInt, asIntOf, Sem.run_pure, typeInfo, run_program, hi, hw, hlarge', hneg', hneg, Bool.or_self, Bool.false_eq_true, Bool.or_false, false_or, if_false, gt_iff_lt, Int.lt_irrefl, decide_false, run_askRoom, sizeOf, Int.toNat_natCast, hm, hz, newRow, run_newObj]
  rfl
theorem q_mks {t e : TypeId} {x y : Operand} {i : TypeInfo} {zs : List Value} {k k' : IntKind} {p q : Unit → Int} {α : Type} {enc : α → Nat → AV} {z : α} (ho : o.op = .makeSlice t x y) (he : elem? P t = some e) (hi : P.info? e = some i) (hz : zero? P e = some zs)
 (hzl : zs.length = i.size) (h0 : 0 < i.size) (hb : 0 < i.bytes) (hfl : (zs.map ofVal).all flat = true) (hx0 : ev tm x = .int k p) (hy0 : ev tm y = .int k' q) (hp : 0 ≤ p ()) (hpq : p () = q ()) (hsz : p () * i.bytes ≤ 140737488351232)
 (ht : ∀ (j : Nat) (x : AV), (zs.map ofVal)[j]? = some x → LeD x (enc z j)) :
 QOK P o tm st nid (.ref nid (fun _ => 0) (fun _ => (p ()).toNat)) [(nid, .row i.size enc (fun _ => List.replicate (p ()).toNat z) false)] := by
 refine ⟨fun p hp => (by simp at hp; subst hp; exact ⟨Nat.le_refl _, by omega⟩), fun w0 _ N tm' st' a w hx hst hf' ⟨at_, FP, hh⟩ => ?_⟩
 obtain ⟨zv, hr, rfl⟩ := zero_run hz w
 have hzs : zv.cells.size = i.size := by simpa using hzl
 have h1 := hh.ev x
 rw [hx x (by simp [ho, Op.operands]), hx0] at h1
 have h2 := hh.ev y
 rw [hx y (by simp [ho, Op.operands]), hy0] at h2
 generalize hn : (p ()).toNat = n
 have hpn : p () = (n : Int) := by omega
 have hsz' : n * i.bytes ≤ 140737488351232 := by
  have : ((n * i.bytes : Nat) : Int) = p () * i.bytes := by rw [hpn, Int.natCast_mul]
  omega
 obtain ⟨us, hus, hug, hrun⟩ := make_run (P := P) (k := k) (k' := k') (n := n) he hi hr hzs h0 hb hsz'
 have hkey : ∀ q (x : α), (List.replicate n z)[q]? = some x → ∀ j, j < i.size → ∃ u, us[0 + q * i.size + j]? = some u ∧ Deep (w.alloc (.cells us e)) (enc x j) u [] := fun q x hq j hj => by
  have hqn := lt_of_get hq
  rw [List.length_replicate] at hqn
  have : x = z := by
   rw [List.getElem?_replicate, if_pos hqn] at hq
   exact (Option.some.inj hq).symm
  subst this
  have hlt : q * i.size + j < n * i.size := by
   have : (q + 1) * i.size ≤ n * i.size := Nat.mul_le_mul_right _ (by omega)
   rw [Nat.add_mul] at this; omega
  have hmod : (q * i.size + j) % i.size = j := by rw [Nat.mul_comm, Nat.mul_add_mod]; exact Nat.mod_eq_of_lt hj
  have hjz : j < zv.cells.size := by omega
  refine ⟨zv.cells[j], ?_, ?_⟩
  ·rw [Nat.zero_add, hug _ hlt, hmod]
   exact Array.getElem?_eq_getElem hjz
  ·have hget : (zv.cells.toList.map ofVal)[j]? = some (ofVal zv.cells[j]) := by simp [hjz]
   refine (ht j _ hget).deep (ofVal_deep ?_)
   exact List.all_eq_true.1 hfl _ (List.mem_of_getElem? hget)
 obtain ⟨h3, mv⟩ := hh.fresh (hf' nid (Nat.le_refl _) (by omega)) us e (blk := .row i.size enc (fun _ => List.replicate n z) false) (fp := [])
  (fun mv => by
    have r := BlkRep.row (E := ⟨w0, w.alloc (.cells us e), upd at_ nid (some (w.heap.size, 0)), upd st' nid (some (.row i.size enc (fun _ => List.replicate n z) false))⟩) (b := nid) (sz := i.size) (enc := enc) (xs := fun _ => List.replicate n z) (fx := false) (fun _ _ => []) (upd_self _ _ _) (grown_here w _)
     (by simp [hus]) hkey
    rw [flat_nil (fun _ _ => rfl)] at r
    exact r) List.nodup_nil (fun g hg => by cases hg) (fun c k _ g hg => by cases hg)
 refine .inl ⟨.slice (some ⟨w.heap.size, 0, none⟩) n n, w.alloc (.cells us e), .inl ?_, _, _, by rw [addAll_one]; exact h3, ?_⟩
 ·simp only [execOp, ho, h1.int_inv, h2.int_inv, ← hpq, hpn, Sem.run_bind, hrun, Result.andThen_ok, Sem.run_pure]
 rw [addAll_one]
 refine .ref (upd_self _ _ _) ⟨by simp, ?_⟩
 show (match upd at_ nid (some (w.heap.size, 0)) nid with | none => _ | some (g, base) => _)
 rw [upd_self]
 exact ⟨_, n, us, e, rfl, Nat.le_refl _, grown_here w _, .inr ⟨by simp, by simp [hus]⟩⟩
end
end Go.V
namespace Go.V
open Go Go.RowKit
theorem equalIn_bool {P : Program} {t : TypeId} {p q : Bool} {w : World} (d : Nat) (hu : P.underlying t = some .bool) : (Op.equalIn (d + 1) t (.bool p) (.bool q)).run P w = .ok (p == q) w := by
 simp [Op.equalIn, run_underlying hu]
theorem equal_bool {P : Program} {t : TypeId} {p q : Bool} {w : World} (hu : P.underlying t = some .bool) : (Op.equal t (.bool p) (.bool q)).run P w = .ok (p == q) w := equalIn_bool 9999 hu
theorem equalIn_nil {P : Program} {t e : TypeId} {A : Option Addr} {n c : Nat} {w : World} (d : Nat) (hu : P.underlying t = some (.slice e)) : (Op.equalIn (d + 1) t (.slice A n c) (.slice none 0 0)).run P w = .ok A.isNone w := by
 cases A <;> simp [Op.equalIn, run_underlying hu]
theorem equal_nil {P : Program} {t e : TypeId} {A : Option Addr} {n c : Nat} {w : World} (hu : P.underlying t = some (.slice e)) : (Op.equal t (.slice A n c) (.slice none 0 0)).run P w = .ok A.isNone w := equalIn_nil 9999 hu
theorem ba_beq (a b : ByteArray) : (a.toList == b.toList) = decide (a = b) := by
 by_cases h : a = b
 ·subst h; simp
 ·have : a.toList ≠ b.toList := fun e => h (by
   rw [Go.Lib.toList_data, Go.Lib.toList_data] at e
   cases a; cases b
   congr
   exact Array.toList_inj.1 e)
  simp [h, this]
section
variable {P : Program} {Q : AV → Prop} {As : List (St → Prop)} {mu : Nat → Bool} {tm : List (Nat × AV)} {st : List (Nat × Blk)} {nid : Nat} {K : AV → List (Nat × Blk) → Tree} {o : Oper}
theorem q_beq {t t' : TypeId} {x y : Operand} {p q : Bool} (ho : o.op = .binOp .eql t x y t') (hu : P.underlying t = some .bool) (hx0 : ev tm x = .bo p) (hy0 : ev tm y = .bo q) : QOK P o tm st nid (.bo (p == q)) [] := by
 refine QOK.pure (fun w0 N tm' st' A w at_ FP hx hst hh => ⟨_, ?_, .bo _⟩)
 have h1 := hh.ev x
 rw [hx x (by simp [ho, Op.operands]), hx0] at h1
 have h2 := hh.ev y
 rw [hx y (by simp [ho, Op.operands]), hy0] at h2
 simp [execOp, ho, h1.bo_inv, h2.bo_inv, eqGuard, binOp, equal_bool hu]
theorem q_bne {t t' : TypeId} {x y : Operand} {p q : Bool} (ho : o.op = .binOp .neq t x y t') (hu : P.underlying t = some .bool) (hx0 : ev tm x = .bo p) (hy0 : ev tm y = .bo q) : QOK P o tm st nid (.bo (!(p == q))) [] := by
 refine QOK.pure (fun w0 N tm' st' A w at_ FP hx hst hh => ⟨_, ?_, .bo _⟩)
 have h1 := hh.ev x
 rw [hx x (by simp [ho, Op.operands]), hx0] at h1
 have h2 := hh.ev y
 rw [hx y (by simp [ho, Op.operands]), hy0] at h2
 simp [execOp, ho, h1.bo_inv, h2.bo_inv, eqGuard, binOp, equal_bool hu]
theorem q_seq {t t' : TypeId} {x y : Operand} {p q : Unit → ByteArray} (ho : o.op = .binOp .eql t x y t') (hx0 : ev tm x = .str p) (hy0 : ev tm y = .str q) : QOK P o tm st nid (.bo (decide (p () = q ()))) [] := by
 refine QOK.pure (fun w0 N tm' st' A w at_ FP hx hst hh => ⟨_, ?_, .bo _⟩)
 have h1 := hh.ev x
 rw [hx x (by simp [ho, Op.operands]), hx0] at h1
 have h2 := hh.ev y
 rw [hx y (by simp [ho, Op.operands]), hy0] at h2
 simp only [execOp, ho, h1.str_inv, h2.str_inv, eqGuard, binOp, Op.stringOp, ba_beq]
 rfl
theorem q_sne {t t' : TypeId} {x y : Operand} {p q : Unit → ByteArray} (ho : o.op = .binOp .neq t x y t') (hx0 : ev tm x = .str p) (hy0 : ev tm y = .str q) : QOK P o tm st nid (.bo (!(decide (p () = q ())))) [] := by
 refine QOK.pure (fun w0 N tm' st' A w at_ FP hx hst hh => ⟨_, ?_, .bo _⟩)
 have h1 := hh.ev x
 rw [hx x (by simp [ho, Op.operands]), hx0] at h1
 have h2 := hh.ev y
 rw [hx y (by simp [ho, Op.operands]), hy0] at h2
 simp only [execOp, ho, h1.str_inv, h2.str_inv, eqGuard, binOp, Op.stringOp, ba_beq]
 rfl
end
end Go.V
namespace Go.V
open Go Go.RowKit
def scEq : Value → Value → Bool
 | .int _ a, .int _ b => a == b
 | .bool a, .bool b => a == b
 | .string a, .string b => decide (a = b)
 | _, _ => false
def Fit : CK → Value → Value → Prop
 | .i, x, y => ∃ k a b, x = .int k a ∧ y = .int k b
 | .b, x, y => ∃ a b, x = .bool a ∧ y = .bool b
 | .s, x, y => ∃ a b, x = .string a ∧ y = .string b
def eqs : List CK → (Nat → Value) → (Nat → Value) → Nat → Bool
 | [], _, _, _ => true
 | _ :: ks, x, y, off => scEq (x off) (y off) && eqs ks x y (off + 1)
theorem eqs_congr : ∀ (ks : List CK) {x y x' y' : Nat → Value} {off off' : Nat}, (∀ i, i < ks.length → x (off + i) = x' (off' + i) ∧ y (off + i) = y' (off' + i)) → eqs ks x y off = eqs ks x' y' off'
 | [], _, _, _, _, _, _, _ => rfl
 | _ :: ks, x, y, x', y', off, off', h => by
   rw [eqs, eqs, eqs_congr ks (off := off + 1) (off' := off' + 1) (x' := x') (y' := y') (fun i hi => by
    have := h (i + 1) (by simpa using hi)
    rw [Nat.add_assoc, Nat.add_assoc, Nat.add_comm 1 i]
    exact this)]
   have := h 0 (by simp)
   simp only [Nat.add_zero] at this
   rw [this.1, this.2]
theorem eqs_append : ∀ (a b : List CK) {x y : Nat → Value} {off : Nat}, eqs (a ++ b) x y off = (eqs a x y off && eqs b x y (off + a.length))
 | [], b, x, y, off => by simp [eqs]
 | k :: a, b, x, y, off => by
   rw [List.cons_append, eqs, eqs, eqs_append a b, Bool.and_assoc, List.length_cons]
   congr 3
   omega
section
variable {P : Program}
def EqRun (P : Program) (d : Nat) (t : TypeId) (ks : List CK) : Prop := ∀ (w : World) (xs ys : Array Value) (off : Nat),
 (∀ i k, ks[i]? = some k → Fit k (xs.getD (off + i) undef) (ys.getD (off + i) undef)) → off + ks.length ≤ xs.size → off + ks.length ≤ ys.size →
 ∃ a b, (part t xs off).run P w = .ok a w ∧ (part t ys off).run P w = .ok b w ∧ (Op.equalIn d t a b).run P w = .ok (eqs ks (fun i => xs.getD i undef) (fun i => ys.getD i undef) off) w
theorem eqFields_run {d : Nat} {f : TypeId → Option (List CK)} (hf : ∀ t ks, f t = some ks → EqRun P d t ks) (w : World) (xs ys : Array Value) : ∀ (fs : List Field) (off : Nat) (ks : List CK), eqTile P f fs off = some ks →
 (∀ i k, ks[i]? = some k → Fit k (xs.getD (off + i) undef) (ys.getD (off + i) undef)) → off + ks.length ≤ xs.size → off + ks.length ≤ ys.size →
 (Op.eqFields d xs ys fs).run P w = .ok (eqs ks (fun i => xs.getD i undef) (fun i => ys.getD i undef) off) w
 | [], off, ks, h, _, _, _ => by
   simp only [eqTile, Option.some.injEq] at h
   subst h
   simp [Op.eqFields, eqs]
 | fd :: fs, off, ks, h, hfit, hx, hy => by
   rw [eqTile] at h
   split at h
   ·cases h
   ·rename_i hn
    have hnm : fd.name ≠ "_" := fun e => hn (.inl e)
    have hoff : fd.offset = off := by
     by_cases e : fd.offset = off
     ·exact e
     ·exact absurd (.inr e) hn
    rw [Option.bind_eq_some_iff] at h
    obtain ⟨k1, h1, h⟩ := h
    split at h
    ·rw [Option.map_eq_some_iff] at h
     obtain ⟨k2, h2, rfl⟩ := h
     rw [List.length_append] at hx hy
     obtain ⟨a, b, r1, r2, r3⟩ := hf _ _ h1 w xs ys off (fun i k hk => hfit i k (by rw [List.getElem?_append_left (lt_of_get hk)]; exact hk)) (by omega) (by omega)
     have ih := eqFields_run hf w xs ys fs (off + k1.length) k2 h2 (fun i k hk => by
      have := hfit (k1.length + i) k (by rw [List.getElem?_append_right (by omega)]; simpa using hk)
      rw [Nat.add_assoc]
      exact this) (by omega) (by omega)
     simp only [Op.eqFields, hnm, ne_eq, not_false_eq_true, if_true, Sem.run_bind, hoff, r1, r2, r3, Result.andThen_ok]
     rw [eqs_append]
     cases hb : eqs k1 (fun i => xs.getD i undef) (fun i => ys.getD i undef) off with
     | true => simpa using ih
     | false => simp
    ·cases h
def isScalar : TypeDesc → Bool
 | .int _ | .bool | .string => true
 | _ => false
theorem part_scalar {t : TypeId} {w : World} {xs : Array Value} {off : Nat} {v : Value} (hu : ∃ k, P.underlying t = some k ∧ isScalar k = true) (h : xs[off]? = some v) : (part t xs off).run P w = .ok v w := by
 obtain ⟨k, hu, hk⟩ := hu
 cases k <;> simp [isScalar] at hk <;> simp [part, isAgg, run_underlying hu, h]
theorem eqScalar_run {d : Nat} {t : TypeId} {k : CK} (hu : (k = .i ∧ ∃ q, P.underlying t = some (.int q)) ∨ (k = .b ∧ P.underlying t = some .bool) ∨ (k = .s ∧ P.underlying t = some .string)) : EqRun P (d + 1) t [k] := by
 intro w xs ys off hfit hx hy
 have hf := hfit 0 k rfl
 simp only [Nat.add_zero, List.length_singleton] at hf hx hy
 have ex : xs[off]? = some (xs.getD off undef) := by simp [Array.getD, show off < xs.size by omega]
 have ey : ys[off]? = some (ys.getD off undef) := by simp [Array.getD, show off < ys.size by omega]
 rcases hu with ⟨rfl, q, hu⟩ | ⟨rfl, hu⟩ | ⟨rfl, hu⟩
 ·obtain ⟨q', a, b, ea, eb⟩ := hf
  refine ⟨_, _, part_scalar (by rw [hu]; exact ⟨_, rfl, rfl⟩) ex, part_scalar (by rw [hu]; exact ⟨_, rfl, rfl⟩) ey, ?_⟩
  rw [ea, eb]
  simp [Op.equalIn, run_underlying hu, eqs, ea, eb, scEq]
 ·obtain ⟨a, b, ea, eb⟩ := hf
  refine ⟨_, _, part_scalar (by rw [hu]; exact ⟨_, rfl, rfl⟩) ex, part_scalar (by rw [hu]; exact ⟨_, rfl, rfl⟩) ey, ?_⟩
  rw [ea, eb]
  simp [Op.equalIn, run_underlying hu, eqs, ea, eb, scEq]
 ·obtain ⟨a, b, ea, eb⟩ := hf
  refine ⟨_, _, part_scalar (by rw [hu]; exact ⟨_, rfl, rfl⟩) ex, part_scalar (by rw [hu]; exact ⟨_, rfl, rfl⟩) ey, ?_⟩
  rw [ea, eb]
  simp only [Op.equalIn, Sem.run_bind, run_underlying hu, Result.andThen_ok, eqs, ea, eb, scEq, Bool.and_true]
  rw [beq_toListBytes, ba_beq]
  simp
theorem eqStruct_run {d : Nat} {t : TypeId} {fs : Array Field} {f : TypeId → Option (List CK)} {ks : List CK} (hf : ∀ t ks, f t = some ks → EqRun P d t ks) (hu : P.underlying t = some (.struct fs)) (hs : P.stoodInHeld t = false) (ht : eqTile P f fs.toList 0 = some ks)
 (w : World) (xs ys : Array Value) (hfit : ∀ i k, ks[i]? = some k → Fit k (xs.getD i undef) (ys.getD i undef)) (hx : ks.length ≤ xs.size) (hy : ks.length ≤ ys.size) :
 (Op.equalIn (d + 1) t (.agg xs) (.agg ys)).run P w = .ok (eqs ks (fun i => xs.getD i undef) (fun i => ys.getD i undef) 0) w := by
 have hfo : P.fieldsOf t = fs := by simp [Program.fieldsOf, hu]
 rw [run_equalIn_struct w d t xs ys (by rw [hfo]; exact hu) hs, hfo]
 exact eqFields_run hf w xs ys fs.toList 0 ks ht (fun i k hk => by rw [Nat.zero_add]; exact hfit i k hk) (by omega) (by omega)
theorem eqKinds_run : ∀ (d : Nat) (t : TypeId) (ks : List CK), eqKinds P d t = some ks → ∀ D, EqRun P (D + d) t ks
 | 0, t, ks, h, _ => by cases h
 | d + 1, t, ks, h, D => by
   rw [eqKinds] at h
   split at h
   ·rename_i q hu
    cases h
    exact eqScalar_run (.inl ⟨rfl, q, hu⟩)
   ·rename_i hu
    cases h
    exact eqScalar_run (.inr (.inl ⟨rfl, hu⟩))
   ·rename_i hu
    cases h
    exact eqScalar_run (.inr (.inr ⟨rfl, hu⟩))
   ·rename_i fs hu
    split at h
    ·cases h
    ·rename_i hs
     rw [Option.bind_eq_some_iff] at h
     obtain ⟨ks', ht, h⟩ := h
     split at h
     ·rename_i hsz
      cases h
      intro w xs ys off hfit hx hy
      have sz : ∀ (xs : Array Value), off + ks.length ≤ xs.size → (part t xs off).run P w = .ok (.agg (xs.extract off (off + ks.length))) w := fun xs hx => by
       simp [part, isAgg, run_underlying hu, sizeOf_run hsz]
      have gd : ∀ (xs : Array Value) (i : Nat), off + ks.length ≤ xs.size → i < ks.length → (xs.extract off (off + ks.length)).getD i undef = xs.getD (off + i) undef := fun xs i hx hi => by
       rw [Array.getD_eq_getD_getElem?, Array.getD_eq_getD_getElem?, Array.getElem?_extract, if_pos (by omega)]
      have hs' : P.stoodInHeld t = false := by
       cases e : P.stoodInHeld t with
       | false => rfl
       | true => exact absurd (.inl e) hs
      refine ⟨_, _, sz xs hx, sz ys hy, ?_⟩
      have r := eqStruct_run (d := D + d) (fun t ks h => eqKinds_run d t ks h D) hu hs' ht w (xs.extract off (off + ks.length)) (ys.extract off (off + ks.length)) (fun i k hk => by
       rw [gd xs i hx (lt_of_get hk), gd ys i hy (lt_of_get hk)]
       exact hfit i k hk) (by rw [Array.size_extract]; omega) (by rw [Array.size_extract]; omega)
      rw [show D + (d + 1) = D + d + 1 from rfl, r]
      congr 1
      exact eqs_congr ks (fun i hi => by
       simp only [Nat.zero_add]
       exact ⟨gd xs i hx hi, gd ys i hy hi⟩)
     ·cases h
   ·cases h
end
end Go.V
namespace Go.V
open Go Go.RowKit
section
variable {P : Program} {Q : AV → Prop} {As : List (St → Prop)} {mu : Nat → Bool} {tm : List (Nat × AV)} {st : List (Nat × Blk)} {nid : Nat} {K : AV → List (Nat × Blk) → Tree} {o : Oper}
theorem tail_loc {E : Env} {x : AV} {r : List AV} {u : Nat → Value} {off : Nat} (h : ∀ (i : Nat) (y : AV), (x :: r)[i]? = some y → Loc E y (u (off + i))) : Loc E x (u off) ∧ ∀ (i : Nat) (y : AV), r[i]? = some y → Loc E y (u (off + 1 + i)) :=
 ⟨h 0 x rfl, fun i y hy => by
  have := h (i + 1) y (by simpa using hy)
  rw [show off + 1 + i = off + (i + 1) by omega]
  exact this⟩
theorem fitB_fit {E : Env} : ∀ {ks : List CK} {A B : List AV} {u v : Nat → Value} {off : Nat}, fitB ks A B = true → (∀ (i : Nat) (y : AV), A[i]? = some y → Loc E y (u (off + i))) → (∀ (i : Nat) (y : AV), B[i]? = some y → Loc E y (v (off + i))) →
 ks.length ≤ A.length ∧ ks.length ≤ B.length ∧ ∀ i k, ks[i]? = some k → Fit k (u (off + i)) (v (off + i))
 | [], A, B, u, v, off, _, _, _ => ⟨by simp, by simp, fun i k hk => by simp at hk⟩
 | k :: ks, A, B, u, v, off, h, hu, hv => by
   have step : ∀ {x y : AV} {r r' : List AV}, A = x :: r → B = y :: r' → Fit k (u off) (v off) → fitB ks r r' = true → (k :: ks).length ≤ A.length ∧ (k :: ks).length ≤ B.length ∧ ∀ i k', (k :: ks)[i]? = some k' → Fit k' (u (off + i)) (v (off + i)) := by
    intro x y r r' ha hb hf hz
    subst ha hb
    obtain ⟨h1, h2, h3⟩ := fitB_fit (off := off + 1) hz (tail_loc hu).2 (tail_loc hv).2
    refine ⟨by simpa using h1, by simpa using h2, fun i k' hk => ?_⟩
    cases i with
    | zero => simp at hk; subst hk; exact hf
    | succ i =>
      have := h3 i k' (by simpa using hk)
      rw [show off + (i + 1) = off + 1 + i by omega]
      exact this
   unfold fitB at h
   split at h
   ·rename_i e1; cases e1
   ·rename_i e1
    cases e1
    rename_i p a r q b r'
    cases hk : kindEq p q with
    | false => rw [hk] at h; cases h
    | true =>
      rw [hk] at h
      have e := kindEq_eq hk
      subst e
      exact step rfl rfl ⟨_, _, _, (tail_loc hu).1.int_inv, (tail_loc hv).1.int_inv⟩ h
   ·rename_i e1
    cases e1
    exact step rfl rfl ⟨_, _, (tail_loc hu).1.bo_inv, (tail_loc hv).1.bo_inv⟩ h
   ·rename_i e1
    cases e1
    exact step rfl rfl ⟨_, _, (tail_loc hu).1.str_inv, (tail_loc hv).1.str_inv⟩ h
   ·cases h
theorem sat_eqT : ∀ {ks : List CK} {A B : List AV} {k : Bool → Tree}, Sat P Q As (eqT ks A B k) → ∃ r, Sat P Q As (k r) ∧ ∀ (E : Env) (u v : Nat → Value) (off : Nat), (∀ (i : Nat) (y : AV), A[i]? = some y → Loc E y (u (off + i))) → (∀ (i : Nat) (y : AV), B[i]? = some y → Loc E y (v (off + i))) → eqs ks u v off = r
 | [], A, B, k, h => ⟨true, h, fun _ _ _ _ _ _ => rfl⟩
 | c :: ks, A, B, k, h => by
   unfold eqT at h
   split at h
   ·rename_i e1; cases e1
   ·rename_i e1
    cases e1
    rename_i p a r q b r'
    cases hk : kindEq p q with
    | false => rw [hk] at h; cases h
    | true =>
      rw [hk, cond_true] at h
      rcases sat_cmp h with ⟨hc, h⟩ | ⟨hc, h⟩
      ·obtain ⟨t, h1, h2⟩ := sat_eqT h
       refine ⟨t, h1, fun E u v off hu hv => ?_⟩
       have := h2 E u v (off + 1) (tail_loc hu).2 (tail_loc hv).2
       rw [eqs, (tail_loc hu).1.int_inv, (tail_loc hv).1.int_inv, scEq, this, show a () = b () from hc]
       simp
      ·refine ⟨false, h, fun E u v off hu hv => ?_⟩
       rw [eqs, (tail_loc hu).1.int_inv, (tail_loc hv).1.int_inv, scEq, show (a () == b ()) = false from by simpa [Cmp.holds] using hc]
       rfl
   ·rename_i e1
    cases e1
    rename_i a r b r'
    cases hk : (bif a then b else (bif b then false else true)) with
    | true =>
      rw [hk, cond_true] at h
      obtain ⟨t, h1, h2⟩ := sat_eqT h
      refine ⟨t, h1, fun E u v off hu hv => ?_⟩
      have := h2 E u v (off + 1) (tail_loc hu).2 (tail_loc hv).2
      rw [eqs, (tail_loc hu).1.bo_inv, (tail_loc hv).1.bo_inv, scEq, this]
      cases a <;> cases b <;> simp at hk <;> simp
    | false =>
      rw [hk, cond_false] at h
      refine ⟨false, h, fun E u v off hu hv => ?_⟩
      rw [eqs, (tail_loc hu).1.bo_inv, (tail_loc hv).1.bo_inv, scEq]
      cases a <;> cases b <;> simp at hk <;> simp
   ·rename_i e1
    cases e1
    rename_i a r b r'
    cases h with
    | test h1 h2 =>
      by_cases hc : a () = b ()
      ·obtain ⟨t, h1, h2⟩ := sat_eqT (h1 (by simpa using hc))
       refine ⟨t, h1, fun E u v off hu hv => ?_⟩
       have := h2 E u v (off + 1) (tail_loc hu).2 (tail_loc hv).2
       rw [eqs, (tail_loc hu).1.str_inv, (tail_loc hv).1.str_inv, scEq, this, hc]
       simp
      ·refine ⟨false, h2 (by simpa using hc), fun E u v off hu hv => ?_⟩
       rw [eqs, (tail_loc hu).1.str_inv, (tail_loc hv).1.str_inv, scEq]
       simp [hc]
   ·cases h
theorem eqKinds_struct {d : Nat} {t : TypeId} {fs : Array Field} {ks : List CK} (hu : P.underlying t = some (.struct fs)) (h : eqKinds P (d + 1) t = some ks) : P.stoodInHeld t = false ∧ P.eqGuardType P.depth t = false ∧ eqTile P (eqKinds P d) fs.toList 0 = some ks := by
 rw [eqKinds, hu] at h
 simp only at h
 split at h
 ·cases h
 ·rename_i hs
  rw [Option.bind_eq_some_iff] at h
  obtain ⟨ks', ht, h⟩ := h
  split at h
  ·cases h
   refine ⟨?_, ?_, ht⟩
   ·cases e : P.stoodInHeld t with
    | false => rfl
    | true => exact absurd (.inl e) hs
   ·cases e : P.eqGuardType P.depth t with
    | false => rfl
    | true => exact absurd (.inr e) hs
  ·cases h
theorem equalDeep {t : TypeId} {fs : Array Field} {ks : List CK} {w : World} {us vs : Array Value} (d : Nat) (hu : P.underlying t = some (.struct fs)) (hk : eqKinds P 8 t = some ks)
 (hfit : ∀ i k, ks[i]? = some k → Fit k (us.getD i undef) (vs.getD i undef)) (hx : ks.length ≤ us.size) (hy : ks.length ≤ vs.size) :
 (Op.equalIn (d + 8) t (.agg us) (.agg vs)).run P w = .ok (eqs ks (fun i => us.getD i undef) (fun i => vs.getD i undef) 0) w := by
 obtain ⟨h1, _, h3⟩ := eqKinds_struct hu hk
 exact eqStruct_run (d := d + 7) (fun t ks h => eqKinds_run 7 t ks h d) hu h1 h3 w us vs hfit hx hy
theorem q_aeq {op : BinOp} {neg r : Bool} {t t' : TypeId} {fs : Array Field} {ks : List CK} {x y : Operand} {A B : List AV} (ho : o.op = .binOp op t x y t') (hop : op = if neg then .neq else .eql) (hu : P.underlying t = some (.struct fs)) (hk : eqKinds P 8 t = some ks)
 (hx0 : ev tm x = .agg A) (hy0 : ev tm y = .agg B) (hf : fitB ks A B = true)
 (hr : ∀ (E : Env) (u v : Nat → Value) (off : Nat), (∀ (i : Nat) (y : AV), A[i]? = some y → Loc E y (u (off + i))) → (∀ (i : Nat) (y : AV), B[i]? = some y → Loc E y (v (off + i))) → eqs ks u v off = r) :
 QOK P o tm st nid (.bo (bif neg then (bif r then false else true) else r)) [] := by
 refine QOK.pure (fun w0 N tm' st' a w at_ FP hx hst hh => ?_)
 have h1 := hh.ev x
 rw [hx x (by simp [ho, Op.operands]), hx0] at h1
 have h2 := hh.ev y
 rw [hx y (by simp [ho, Op.operands]), hy0] at h2
 obtain ⟨us, e1, l1, d1⟩ := h1.agg_inv
 obtain ⟨vs, e2, l2, d2⟩ := h2.agg_inv
 have f := fitB_fit (u := fun i => us.getD i undef) (v := fun i => vs.getD i undef) (off := 0) hf (fun i y hy => by rw [Nat.zero_add]; exact d1 i y hy) (fun i y hy => by rw [Nat.zero_add]; exact d2 i y hy)
 obtain ⟨f1, f2, f3⟩ := f
 have q := equalDeep (P := P) (w := w) (us := us) (vs := vs) 9992 hu hk (fun i k hk => by have := f3 i k hk; simpa using this) (by omega) (by omega)
 rw [hr ⟨w0, w, at_, st'⟩ _ _ 0 (fun i y hy => by rw [Nat.zero_add]; exact d1 i y hy) (fun i y hy => by rw [Nat.zero_add]; exact d2 i y hy)] at q
 obtain ⟨_, hg, _⟩ := eqKinds_struct hu hk
 refine ⟨.bool (bif neg then (bif r then false else true) else r), ?_, .bo _⟩
 have hgd := run_eqGuard_agg w op t x y us vs hg
 rw [hop] at hgd
 have q' : (Op.equalIn 10000 t (.agg us) (.agg vs)).run P w = .ok r w := q
 simp only [execOp, ho, e1, e2, Sem.run_bind, hop, hgd, Result.andThen_ok]
 cases neg with
 | false =>
   simp only [Bool.false_eq_true, if_false] at hgd
   simp only [Bool.false_eq_true, if_false, run_eql_struct, hgd, Result.andThen_ok]
   rw [q']
   rfl
 | true =>
   simp only [if_true] at hgd
   simp only [if_true, run_neq_struct, hgd, Result.andThen_ok]
   rw [q']
   cases r <;> rfl
end
end Go.V
namespace Go.V
open Go Go.RowKit
theorem pick_fp {n : Nat} {R : Nat → List Nat → Prop} (h : ∀ i, i < n → ∃ fp, R i fp) : ∃ F : Nat → List Nat, ∀ i, i < n → R i (F i) := by
 have : ∀ i, ∃ fp, i < n → R i fp := fun i => by
  by_cases hi : i < n
  ·obtain ⟨fp, h⟩ := h i hi; exact ⟨fp, fun _ => h⟩
  ·exact ⟨[], fun h => absurd h hi⟩
 obtain ⟨F, hF⟩ := Classical.axiomOfChoice this
 exact ⟨F, hF⟩
theorem ref_deep {E : Env} {FP : Nat → List Nat} {b sz : Nat} {off n : Unit → Nat} {α : Type} {enc : α → Nat → AV} {xs : Unit → List α} {fx : Bool} {v : Value} (hG : Good E FP) (hb0 : E.st b = some (.row sz enc xs fx)) (h : Loc E (.ref b off n) v) :
 ∃ fp, Deep E.w (.sl sz enc (fun _ => ((xs ()).drop (off ())).take (n ()))) v fp ∧ ∀ g ∈ fp, g ∈ E.own FP b := by
 cases h with
 | refl hb hr => rw [hb0] at hb; cases hb
 | ref hb hr =>
   rw [hb0] at hb
   cases hb
   obtain ⟨hle, hr⟩ := hr
   have r := hG.rep b _ hb0
   have ho : E.own FP b = ownOf (E.at_ b) (FP b) := rfl
   rw [ho]
   generalize FP b = fp at r
   cases r with
   | row0 ha hx =>
     rw [ha] at hr
     obtain ⟨A, rfl⟩ := hr
     exact ⟨[], .sl0 A (by rw [hx]; simp), fun g hg => by cases hg⟩
   | @row _ _ _ _ _ g base cells t F ha hg hrr hc =>
     rw [ha] at hr
     obtain ⟨A, cap, cs, t', rfl, hn, hg', hcap⟩ := hr
     rw [hg] at hg'
     cases hg'
     have hlen : (((xs ()).drop (off ())).take (n ())).length = n () := by rw [List.length_take, List.length_drop]; omega
     rcases hcap with rfl | ⟨rfl, hsz⟩
     ·have : n () = 0 := by omega
      refine ⟨[], ?_, fun g hg => by cases hg⟩
      rw [this]
      exact .sl0 A (by simp)
     ·have d := Deep.sl (w := E.w) (sz := sz) (enc := enc) (xs := fun _ => ((xs ()).drop (off ())).take (n ())) (g := g) (off := base + off () * sz) (cap := cap) (cs := cells) (t := t) (fr := (0, 0))
       (fun i j => cells.getD (base + off () * sz + i * sz + j) undef) (fun i j => F (off () + i) j) (by simp only [hlen]; exact hn) hg (by rw [Nat.add_mul] at hsz; omega)
       (fun i x hx j hj => by
         have hi : i < n () := by have := lt_of_get hx; simp only [hlen] at this; exact this
         rw [List.getElem?_take, if_pos hi, List.getElem?_drop] at hx
         obtain ⟨u, hu, _⟩ := hc _ x hx j hj
         rw [Nat.add_mul] at hu
         have hu' : cells[base + off () * sz + i * sz + j]? = some u := by rw [show base + off () * sz + i * sz + j = base + (off () * sz + i * sz) + j by omega]; exact hu
         rw [Array.getD_eq_getD_getElem?, hu']
         rfl)
       (fun i x hx j hj => by
         have hi : i < n () := by have := lt_of_get hx; simp only [hlen] at this; exact this
         rw [List.getElem?_take, if_pos hi, List.getElem?_drop] at hx
         obtain ⟨u, hu, hd⟩ := hc _ x hx j hj
         rw [Nat.add_mul] at hu
         have hu' : cells[base + off () * sz + i * sz + j]? = some u := by rw [show base + off () * sz + i * sz + j = base + (off () * sz + i * sz) + j by omega]; exact hu
         rw [Array.getD_eq_getD_getElem?, hu']
         exact hd)
      simp only [hlen] at d
      refine ⟨_, d, fun q hq => ?_⟩
      rw [ha]
      rcases List.mem_cons.1 hq with rfl | hq
      ·exact List.mem_cons_self ..
      ·refine List.mem_cons_of_mem _ ?_
       obtain ⟨i, hi, hq⟩ := List.mem_flatMap.1 hq
       have := List.mem_range.1 hi
       exact mem_flat (F := fun i => (List.range sz).flatMap (F i)) (i := off () + i) (by omega) hq
theorem lit_whole {st : List (Nat × Blk)} {d sz : Nat} {off n : Unit → Nat} {cs : List AV} {y : AV} (h : (bif Nat.beq sz 1 && Nat.beq (off ()) 0 && Nat.beq (n ()) cs.length && Nat.blt 0 cs.length then (cs.mapM (mat st d)).map AV.lsl else none) = some y) :
 ∃ ds, cs.mapM (mat st d) = some ds ∧ sz = 1 ∧ off () = 0 ∧ n () = cs.length ∧ 0 < cs.length ∧ y = .lsl ds := by
 cases e : (Nat.beq sz 1 && Nat.beq (off ()) 0 && Nat.beq (n ()) cs.length && Nat.blt 0 cs.length) with
 | false => rw [e] at h; cases h
 | true =>
   rw [e, cond_true, Option.map_eq_some_iff] at h
   obtain ⟨ds, hm, rfl⟩ := h
   rw [Bool.and_eq_true, Bool.and_eq_true, Bool.and_eq_true, Nat.blt_eq] at e
   exact ⟨ds, hm, Nat.eq_of_beq_eq_true e.1.1.1, Nat.eq_of_beq_eq_true e.1.1.2, Nat.eq_of_beq_eq_true e.1.2, e.2, rfl⟩
theorem lit_cells {E : Env} {FP : Nat → List Nat} {b : Nat} {off n : Unit → Nat} {cs : List AV} {v : Value} (hG : Good E FP) (hb0 : E.st b = some (.lit 1 cs)) (h : Loc E (.ref b off n) v) (h0 : off () = 0) (hn : n () = cs.length) (hp : 0 < cs.length) :
 ∃ g cap cells t base, v = .slice (some ⟨g, base, none⟩) cs.length cap ∧ cs.length ≤ cap ∧ E.w.heap[g]? = some (.cells cells t (0, 0)) ∧ base + cap ≤ cells.size ∧ (∀ i x, cs[i]? = some x → ∃ u, cells[base + i]? = some u ∧ Loc E x u) ∧ g ∈ E.own FP b := by
 cases h with
 | ref hb hr => rw [hb0] at hb; cases hb
 | refl hb hr =>
   rw [hb0] at hb
   cases hb
   obtain ⟨hle, hr⟩ := hr
   have r := hG.rep _ _ hb0
   generalize FP b = fp at r
   cases r with
   | lit ha hg hc =>
     rename_i g base cells t
     rw [ha] at hr
     obtain ⟨A, cap, cs', t', rfl, hcap, hg', hA⟩ := hr
     rw [hg] at hg'
     cases hg'
     rcases hA with hA | ⟨rfl, hA⟩
     ·omega
     ·rw [h0] at hA
      refine ⟨g, cap, cells, t, base + off () * 1, by rw [hn], by omega, hg, by omega, fun i x hx => ?_, by show g ∈ ownOf (E.at_ b) (FP b); rw [ha]; exact List.mem_cons_self ..⟩
      obtain ⟨u, hu, hl⟩ := hc i x hx
      exact ⟨u, by rw [h0, Nat.zero_mul, Nat.add_zero]; exact hu, hl⟩
theorem mat_ok {E : Env} {FP : Nat → List Nat} (hG : Good E FP) {st : List (Nat × Blk)} (hst : ∀ b k, look b st = some k → E.st b = some k) :
 ∀ (d : Nat) (x y : AV), mat st d x = some y → ∀ v, Loc E x v → ∃ fp, Deep E.w y v fp
 | 0, x, y, h, v, hv => by cases h
 | d + 1, x, y, h, v, hv => by
   have parts : ∀ {cs ds : List AV} (f : Nat → Value), cs.mapM (mat st d) = some ds → (∀ i x, cs[i]? = some x → Loc E x (f i)) → ds.length = cs.length ∧ ∃ F : Nat → List Nat, ∀ i y, ds[i]? = some y → Deep E.w y (f i) (F i) := by
    intro cs ds f hm hl
    obtain ⟨h1, h2⟩ := mapM_get hm
    obtain ⟨F, hF⟩ := pick_fp (n := ds.length) (R := fun i fp => ∀ y, ds[i]? = some y → Deep E.w y (f i) fp) (fun i hi => by
     have hx := List.getElem?_eq_getElem (show i < cs.length by omega)
     have hy := List.getElem?_eq_getElem hi
     obtain ⟨fp, hd⟩ := mat_ok hG hst d _ _ (h2 i _ _ hx hy) _ (hl i _ hx)
     exact ⟨fp, fun y hy' => by rw [hy] at hy'; cases hy'; exact hd⟩)
    exact ⟨h1, F, fun i y hy => hF i (lt_of_get hy) y hy⟩
   cases x with
   | any => cases h
   | undef => cases h
   | own => cases h
   | eptr => cases h
   | int k n => cases h; rw [hv.int_inv]; exact ⟨_, .int k n⟩
   | bo b => cases h; rw [hv.bo_inv]; exact ⟨_, .bo b⟩
   | str s => cases h; rw [hv.str_inv]; exact ⟨_, .str s⟩
   | nil => cases h; rw [hv.nil_inv]; exact ⟨_, .nil⟩
   | emp => cases h; obtain ⟨A, rfl⟩ := hv.emp_inv; exact ⟨_, .emp A⟩
   | sl sz enc xs => cases h; cases hv with | sl hd => exact ⟨_, hd.under hG.below⟩
   | lsl es => cases h; cases hv with | lsl hd => exact ⟨_, hd.under hG.below⟩
   | rptr cs => cases h; cases hv with | rptr hd => exact ⟨_, hd.under hG.below⟩
   | ref b off n =>
     simp only [mat] at h
     split at h
     ·rename_i sz enc xs fx hb
      cases h
      obtain ⟨fp, hd, _⟩ := ref_deep hG (hst _ _ hb) hv
      exact ⟨fp, hd⟩
     ·rename_i sz cs hb
      obtain ⟨ds, hm, rfl, h0, hn, hp, rfl⟩ := lit_whole h
      obtain ⟨g, cap, cells, t, A, rfl, hcap, hg, hr, key, _⟩ := lit_cells hG (hst _ _ hb) hv h0 hn hp
      obtain ⟨hl, F, hF⟩ := parts (fun i => cells.getD (A + i) undef) hm (fun i x hx => by
       obtain ⟨u, hu, hl⟩ := key i x hx
       rw [Array.getD_eq_getD_getElem?, hu]
       exact hl)
      have d := Deep.lsl (w := E.w) (es := ds) (g := g) (off := A) (cap := cap) (fr := (0, 0)) (fun i => cells.getD (A + i) undef) F (by omega) hg hr (fun i y hy => by
       obtain ⟨x, hx⟩ := get_of_len hl hy
       obtain ⟨u, hu, _⟩ := key i x hx
       rw [Array.getD_eq_getD_getElem?, hu]
       rfl) hF
      rw [hl] at d
      exact ⟨_, d⟩
     ·cases h
   | ptr b j =>
     simp only [mat] at h
     split at h
     ·rename_i sz cs hb
      rw [Option.map_eq_some_iff] at h
      obtain ⟨ds, hm, rfl⟩ := h
      obtain ⟨sz', cs', g, base, hb', ha, rfl⟩ := hv.ptr_inv
      rw [hst _ _ hb] at hb'
      cases hb'
      have r := hG.rep b _ (hst _ _ hb)
      generalize FP b = fp at r
      cases r with
      | lit ha' hg hc =>
        rename_i cells t
        rw [ha] at ha'
        cases ha'
        have key : ∀ i x, (cs.drop j)[i]? = some x → ∃ u, cells[base + j + i]? = some u ∧ Loc E x u := fun i x hx => by
         rw [List.getElem?_drop] at hx
         obtain ⟨u, hu, hl⟩ := hc _ x hx
         exact ⟨u, by rw [Nat.add_assoc]; exact hu, hl⟩
        obtain ⟨hl, F, hF⟩ := parts (fun i => cells.getD (base + j + i) undef) hm (fun i x hx => by
         obtain ⟨u, hu, hl⟩ := key i x hx
         rw [Array.getD_eq_getD_getElem?, hu]
         exact hl)
        exact ⟨_, .rptr (fun i => cells.getD (base + j + i) undef) F hg (fun i y hy => by
         obtain ⟨x, hx⟩ := get_of_len hl hy
         obtain ⟨u, hu, _⟩ := key i x hx
         rw [Array.getD_eq_getD_getElem?, hu]
         rfl) hF⟩
     ·cases h
   | agg cs =>
     simp only [mat] at h
     rw [Option.map_eq_some_iff] at h
     obtain ⟨ds, hm, rfl⟩ := h
     obtain ⟨us, rfl, hs, hd⟩ := hv.agg_inv
     obtain ⟨hl, F, hF⟩ := parts (fun i => us.getD i undef) hm hd
     exact ⟨_, .agg F (by omega) hF⟩
   | tup cs =>
     simp only [mat] at h
     rw [Option.map_eq_some_iff] at h
     obtain ⟨ds, hm, rfl⟩ := h
     obtain ⟨us, rfl, hs, hd⟩ := hv.tup_inv
     obtain ⟨hl, F, hF⟩ := parts (fun i => us.getD i undef) hm hd
     exact ⟨_, .tup F (by omega) hF⟩
   | clo f cs =>
     simp only [mat] at h
     rw [Option.map_eq_some_iff] at h
     obtain ⟨ds, hm, rfl⟩ := h
     obtain ⟨us, rfl, hs, hd⟩ := hv.clo_inv
     obtain ⟨hl, F, hF⟩ := parts (fun i => us.getD i undef) hm hd
     exact ⟨_, .clo F (by omega) hF⟩
end Go.V
namespace Go.V
open Go Go.RowKit
theorem RefAt.ofNone {E : Env} {b off n len sz : Nat} {A : Option Addr} (ha : E.at_ b = none) (h : off + n ≤ len) : RefAt E b off n len sz (.slice A 0 0) := by
 refine ⟨h, ?_⟩
 rw [ha]
 exact ⟨A, rfl⟩
theorem RefAt.ofSome {E : Env} {b off n len sz g base cap : Nat} {A : Option Addr} {cs : Array Value} {t : TypeId} (ha : E.at_ b = some (g, base)) (h : off + n ≤ len) (hc : n ≤ cap) (hg : E.w.heap[g]? = some (.cells cs t (0, 0)))
 (hA : cap = 0 ∨ (A = some ⟨g, base + off * sz, none⟩ ∧ base + (off + cap) * sz ≤ cs.size)) : RefAt E b off n len sz (.slice A n cap) := by
 refine ⟨h, ?_⟩
 rw [ha]
 exact ⟨A, cap, cs, t, rfl, hc, hg, hA⟩
structure Imp (w0 : Base) (N : Nat) (tm : List (Nat × AV)) (st st1 : Nat → Option Blk) (a : Act) (w : World) (at_ : Nat → Option (Nat × Nat)) (FP : Nat → List Nat) (i j : Nat) (fp : List Nat) (R : Env → Prop) : Prop where
 ok : ∃ at1 FP1, Here w0 N tm st1 a w at1 FP1 ∧ R ⟨w0, w, at1, st1⟩ ∧ (∀ y u, Loc ⟨w0, w, at_, st⟩ y u → Loc ⟨w0, w, at1, st1⟩ y u) ∧
  (∀ c, c < i ∨ j ≤ c → st1 c = st c ∧ (⟨w0, w, at1, st1⟩ : Env).own FP1 c = (⟨w0, w, at_, st⟩ : Env).own FP c) ∧
  (∀ c, i ≤ c → c < j → ∀ g ∈ (⟨w0, w, at1, st1⟩ : Env).own FP1 c, g ∈ fp)
theorem addAll_nil {st : Nat → Option Blk} : addAll [] st = st := rfl
theorem addAll_app {l r : List (Nat × Blk)} {st : Nat → Option Blk} (h : ∀ b, look b l ≠ none → look b r = none) : addAll (l ++ r) st = addAll r (addAll l st) := by
 funext b
 show (match look b (l ++ r) with | some k => some k | none => st b) = (match look b r with | some k => some k | none => match look b l with | some k => some k | none => st b)
 rw [look_append]
 cases h1 : look b l with
 | none => rfl
 | some k => rw [h b (by rw [h1]; exact fun c => by cases c)]
theorem look_mem {b : Nat} {k : Blk} : ∀ {l : List (Nat × Blk)}, look b l = some k → (b, k) ∈ l
 | [], h => by cases h
 | p :: r, h => by
   rw [look] at h
   cases e : Nat.beq p.1 b with
   | true =>
     rw [e] at h
     have e := Nat.eq_of_beq_eq_true e
     cases h
     subst e
     exact List.mem_cons_self ..
   | false => rw [e] at h; exact List.mem_cons_of_mem _ (look_mem h)
section
variable {w0 : Base} {w : World} {N : Nat} {tm : List (Nat × AV)} {a : Act} {d : Nat}
def ImpIds (imp : AV → Nat → AV × List (Nat × Blk) × Nat) : Prop := ∀ x i, i ≤ (imp x i).2.2 ∧ ∀ p ∈ (imp x i).2.1, i ≤ p.1 ∧ p.1 < (imp x i).2.2
theorem impL_ids {imp : AV → Nat → AV × List (Nat × Blk) × Nat} (h : ImpIds imp) : ∀ (l : List AV) (i : Nat), i ≤ (impL imp l i).2.2 ∧ ∀ p ∈ (impL imp l i).2.1, i ≤ p.1 ∧ p.1 < (impL imp l i).2.2
 | [], i => ⟨Nat.le_refl _, fun p hp => by cases hp⟩
 | x :: r, i => by
   obtain ⟨h1, h2⟩ := h x i
   obtain ⟨h3, h4⟩ := impL_ids h r (imp x i).2.2
   refine ⟨Nat.le_trans h1 h3, fun p hp => ?_⟩
   rcases List.mem_append.1 hp with hp | hp
   ·obtain ⟨ha, hb⟩ := h2 p hp
    exact ⟨ha, Nat.lt_of_lt_of_le hb h3⟩
   ·obtain ⟨ha, hb⟩ := h4 p hp
    exact ⟨Nat.le_trans h1 ha, hb⟩
theorem imp_ids : ∀ d, ImpIds (imp d) := by
 intro d
 induction d with
 | zero =>
   intro x i
   cases x <;> first
    | exact ⟨Nat.le_refl _, fun p hp => by cases hp⟩
    | exact ⟨Nat.le_succ _, fun p hp => by simp only [imp, List.mem_singleton] at hp; subst hp; exact ⟨Nat.le_refl _, Nat.lt_succ_self _⟩⟩
 | succ d ih =>
   intro x i
   cases x <;> first
    | exact ⟨Nat.le_refl _, fun p hp => by cases hp⟩
    | exact ⟨Nat.le_succ _, fun p hp => by simp only [imp, List.mem_singleton] at hp; subst hp; exact ⟨Nat.le_refl _, Nat.lt_succ_self _⟩⟩
    | exact impL_ids ih _ i
def ImpOk (imp : AV → Nat → AV × List (Nat × Blk) × Nat) : Prop := ∀ (x : AV) (i : Nat) (w0 : Base) (w : World) (N : Nat) (tm : List (Nat × AV)) (a : Act) (st : Nat → Option Blk) (at_ : Nat → Option (Nat × Nat)) (FP : Nat → List Nat) (v : Value) (fp : List Nat),
 Here w0 N tm st a w at_ FP → Deep w x v fp → fp.Nodup → (∀ g ∈ fp, w0.hot g ∧ Fresh w g) → (∀ c k, st c = some k → ∀ g ∈ fp, g ∉ (⟨w0, w, at_, st⟩ : Env).own FP c) → (∀ b, i ≤ b → b < (imp x i).2.2 → st b = none) →
 Imp w0 N tm st (addAll (imp x i).2.1 st) a w at_ FP i (imp x i).2.2 fp (fun E => Loc E (imp x i).1 v)
theorem imp_plain {st : Nat → Option Blk} {at_ : Nat → Option (Nat × Nat)} {FP : Nat → List Nat} {i : Nat} {fp : List Nat} {y : AV} {v : Value} (h : Here w0 N tm st a w at_ FP) (hy : Loc ⟨w0, w, at_, st⟩ y v) :
 Imp w0 N tm st (addAll [] st) a w at_ FP i i fp (fun E => Loc E y v) :=
 ⟨at_, FP, h, hy, fun _ _ h => h, fun c _ => ⟨rfl, rfl⟩, fun c h1 h2 => absurd h2 (by omega)⟩
theorem imp_sl {α : Type} {sz : Nat} {enc : α → Nat → AV} {xs : Unit → List α} {i : Nat} {st : Nat → Option Blk} {at_ : Nat → Option (Nat × Nat)} {FP : Nat → List Nat} {v : Value} {fp : List Nat}
 (h : Here w0 N tm st a w at_ FP) (hd : Deep w (.sl sz enc xs) v fp) (hn : fp.Nodup) (hf : ∀ g ∈ fp, w0.hot g ∧ Fresh w g) (hap : ∀ c k, st c = some k → ∀ g ∈ fp, g ∉ (⟨w0, w, at_, st⟩ : Env).own FP c) (hi : st i = none) :
 Imp w0 N tm st (addAll [(i, .row sz enc xs false)] st) a w at_ FP i (i + 1) fp (fun E => Loc E (.ref i (fun _ => 0) (fun _ => (xs ()).length)) v) := by
 rw [addAll_one]
 have fin : ∀ (p : Option (Nat × Nat)) (fp' : List Nat), (∀ g ∈ ownOf p fp', g ∈ fp) → (BlkRep ⟨w0, w, upd at_ i p, upd st i (some (.row sz enc xs false))⟩ i (.row sz enc xs false) fp') → (ownOf p fp').Nodup →
  RefAt ⟨w0, w, upd at_ i p, upd st i (some (.row sz enc xs false))⟩ i 0 (xs ()).length (xs ()).length sz v →
  Imp w0 N tm st (upd st i (some (.row sz enc xs false))) a w at_ FP i (i + 1) fp (fun E => Loc E (.ref i (fun _ => 0) (fun _ => (xs ()).length)) v) := by
  intro p fp' hsub hrep hnd href
  obtain ⟨h1, mv⟩ := h.new hi (p := p) hrep hnd (fun g hg => (hf g (hsub g hg)).1.free) (fun c k hc g hg => hap c k hc g (hsub g hg)) (fun g hg => (hf g (hsub g hg)).2) (fun g base e => (hf g (hsub g (by rw [e]; exact List.mem_cons_self ..))).1)
  refine ⟨_, _, h1, .ref (upd_self _ _ _) href, mv, fun c hc => ?_, fun c hc1 hc2 g hg => ?_⟩
  ·have : c ≠ i := by omega
   refine ⟨upd_ne _ _ this, ?_⟩
   show ownOf (upd at_ i p c) (upd FP i fp' c) = ownOf (at_ c) (FP c)
   rw [upd_ne _ _ this, upd_ne _ _ this]
  ·have : c = i := by omega
   subst this
   have hg' : g ∈ ownOf (upd at_ c p c) (upd FP c fp' c) := hg
   rw [upd_self, upd_self] at hg'
   exact hsub g hg'
 cases hd with
 | sl0 A he =>
   refine fin none [] (fun g hg => by cases hg) (.row0 (upd_self _ _ _) he) List.nodup_nil ?_
   rw [he]
   exact .ofNone (upd_self _ _ _) (by simp)
 | @sl _ _ _ _ g off cap cs t fr u F hc hg hr hu hdd =>
   obtain ⟨_, cs', t', hg'⟩ := hf g (List.mem_cons_self ..)
   rw [hg] at hg'
   cases hg'
   refine fin (some (g, off)) ((List.range (xs ()).length).flatMap fun i => (List.range sz).flatMap (F i)) (fun q hq => hq) ?_ hn ?_
   ·exact .row F (upd_self _ _ _) hg (by have := Nat.mul_le_mul_right sz hc; show off + (xs ()).length * sz ≤ cs.size; omega) (fun i x hx j hj => ⟨u i j, hu i x hx j hj, hdd i x hx j hj⟩)
   ·exact .ofSome (upd_self _ _ _) (by omega) hc hg (.inr ⟨by simp, by rw [Nat.zero_add]; exact hr⟩)
theorem nodup_flat {F : Nat → List Nat} : ∀ {n : Nat}, ((List.range n).flatMap F).Nodup → (∀ i, i < n → (F i).Nodup) ∧ ∀ i j, i < n → j < n → i ≠ j → ∀ g ∈ F i, g ∉ F j := by
 intro n
 induction n with
 | zero => intro _; exact ⟨fun i hi => absurd hi (by omega), fun i j hi => absurd hi (by omega)⟩
 | succ n ih =>
   intro h
   rw [List.range_succ, List.flatMap_append, List.nodup_append] at h
   obtain ⟨h1, h2, h3⟩ := h
   obtain ⟨ih1, ih2⟩ := ih h1
   simp only [List.flatMap_cons, List.flatMap_nil, List.append_nil] at h2 h3
   refine ⟨fun i hi => ?_, fun i j hi hj hij g hgi hgj => ?_⟩
   ·by_cases e : i = n
    ·subst e; exact h2
    ·exact ih1 i (by omega)
   ·by_cases e : i = n
    ·subst e
     exact h3 g (mem_flat (i := j) (by omega) hgj) g hgi rfl
    ·by_cases e' : j = n
     ·subst e'
      exact h3 g (mem_flat (i := i) (by omega) hgi) g hgj rfl
     ·exact ih2 i j (by omega) (by omega) hij g hgi hgj
theorem impL_ok {imp : AV → Nat → AV × List (Nat × Blk) × Nat} (hids : ImpIds imp) (h : ImpOk imp) : ∀ (l : List AV) (i k : Nat) (st : Nat → Option Blk) (at_ : Nat → Option (Nat × Nat)) (FP : Nat → List Nat) (f : Nat → Value) (F : Nat → List Nat) (fp : List Nat),
 Here w0 N tm st a w at_ FP → (∀ j x, l[j]? = some x → Deep w x (f (k + j)) (F (k + j))) → (∀ j, j < l.length → (F (k + j)).Nodup) → (∀ j j', j < l.length → j' < l.length → j ≠ j' → ∀ g ∈ F (k + j), g ∉ F (k + j')) → (∀ j, j < l.length → ∀ g ∈ F (k + j), g ∈ fp) →
 (∀ g ∈ fp, w0.hot g ∧ Fresh w g) → (∀ c q, st c = some q → ∀ j, j < l.length → ∀ g ∈ F (k + j), g ∉ (⟨w0, w, at_, st⟩ : Env).own FP c) → (∀ b, i ≤ b → b < (impL imp l i).2.2 → st b = none) →
 Imp w0 N tm st (addAll (impL imp l i).2.1 st) a w at_ FP i (impL imp l i).2.2 fp (fun E => (impL imp l i).1.length = l.length ∧ ∀ j y, (impL imp l i).1[j]? = some y → Loc E y (f (k + j)))
 | [], i, k, st, at_, FP, f, F, fp, hh, _, _, _, _, _, _, _ => ⟨at_, FP, hh, ⟨rfl, fun j y hy => by simp [impL] at hy⟩, fun _ _ h => h, fun c _ => ⟨rfl, rfl⟩, fun c h1 h2 => absurd h2 (by simp [impL]; omega)⟩
 | x :: r, i, k, st, at_, FP, f, F, fp, hh, hd, hn, hx, hsub, hf, hap, hb => by
   obtain ⟨i1, i2⟩ := hids x i
   obtain ⟨i3, i4⟩ := impL_ids hids r (imp x i).2.2
   have h0 : 0 < (x :: r).length := by simp
   obtain ⟨at1, FP1, hh1, hl1, mv1, old1, new1⟩ := (h x i w0 w N tm a st at_ FP (f k) (F k) hh (hd 0 x rfl) (hn 0 h0) (fun g hg => hf g (hsub 0 h0 g hg)) (fun c q hc g hg => hap c q hc 0 h0 g hg) (fun b hb1 hb2 => hb b hb1 (Nat.lt_of_lt_of_le hb2 i3))).ok
   have dis : ∀ b, look b (imp x i).2.1 ≠ none → look b (impL imp r (imp x i).2.2).2.1 = none := fun b hb => by
    cases e1 : look b (imp x i).2.1 with
    | none => exact absurd e1 hb
    | some q =>
      cases e2 : look b (impL imp r (imp x i).2.2).2.1 with
      | none => rfl
      | some q' =>
        have := (i2 _ (look_mem e1)).2
        have := (i4 _ (look_mem e2)).1
        exact absurd this (by simp only at *; omega)
   obtain ⟨at2, FP2, hh2, ⟨hl2, hl2'⟩, mv2, old2, new2⟩ := (impL_ok hids h r (imp x i).2.2 (k + 1) (addAll (imp x i).2.1 st) at1 FP1 f F fp hh1 (fun j y hy => by
    have := hd (j + 1) y (by simpa using hy)
    rw [show k + 1 + j = k + (j + 1) by omega]; exact this)
    (fun j hj => by rw [show k + 1 + j = k + (j + 1) by omega]; exact hn (j + 1) (by simpa using hj))
    (fun j j' hj hj' hjj => by rw [show k + 1 + j = k + (j + 1) by omega, show k + 1 + j' = k + (j' + 1) by omega]; exact hx (j + 1) (j' + 1) (by simpa using hj) (by simpa using hj') (by omega))
    (fun j hj => by rw [show k + 1 + j = k + (j + 1) by omega]; exact hsub (j + 1) (by simpa using hj)) hf
    (fun c q hc j hj g hg => by
      rw [show k + 1 + j = k + (j + 1) by omega] at hg
      by_cases hc1 : c < i ∨ (imp x i).2.2 ≤ c
      ·rw [(old1 c hc1).2]
       exact hap c q ((old1 c hc1).1 ▸ hc) (j + 1) (by simpa using hj) g hg
      ·intro hg'
       have := new1 c (by omega) (by omega) g hg'
       exact hx 0 (j + 1) h0 (by simpa using hj) (by omega) g this hg)
    (fun b hb1 hb2 => by
      rw [(old1 b (.inr hb1)).1]
      exact hb b (Nat.le_trans i1 hb1) hb2)).ok
   have e : addAll (impL imp (x :: r) i).2.1 st = addAll (impL imp r (imp x i).2.2).2.1 (addAll (imp x i).2.1 st) := addAll_app dis
   rw [e]
   refine ⟨at2, FP2, hh2, ⟨by simp [impL, hl2], fun j y hy => ?_⟩, fun y u hy => mv2 y u (mv1 y u hy), fun c hc => ?_, fun c hc1 hc2 g hg => ?_⟩
   ·cases j with
    | zero =>
      simp only [impL, List.getElem?_cons_zero, Option.some.injEq] at hy
      subst hy
      exact mv2 _ _ hl1
    | succ j =>
      have := hl2' j y (by simpa [impL] using hy)
      rw [show k + (j + 1) = k + 1 + j by omega]
      exact this
   ·have hc' : c < (imp x i).2.2 ∨ (impL imp r (imp x i).2.2).2.2 ≤ c := by
     rcases hc with hc | hc
     ·exact .inl (by omega)
     ·exact .inr hc
    have hc'' : c < i ∨ (imp x i).2.2 ≤ c := by
     rcases hc with hc | hc
     ·exact .inl hc
     ·exact .inr (Nat.le_trans i3 hc)
    exact ⟨(old2 c hc').1.trans (old1 c hc'').1, (old2 c hc').2.trans (old1 c hc'').2⟩
   ·by_cases hlt : c < (imp x i).2.2
    ·rw [(old2 c (.inl hlt)).2] at hg
     exact hsub 0 h0 g (new1 c hc1 hlt g hg)
    ·exact new2 c (by omega) hc2 g hg
theorem imp_ok : ∀ d, ImpOk (imp d) := by
 intro d
 induction d with
 | zero =>
   intro x i w0 w N tm a st at_ FP v fp hh hd hn hf hap hb
   cases x <;> first
    | exact imp_plain hh (.any _)
    | exact imp_sl hh hd hn hf hap (hb i (Nat.le_refl _) (Nat.lt_succ_self _))
    | (cases hd; first | exact imp_plain hh (.int _ _) | exact imp_plain hh (.bo _) | exact imp_plain hh (.str _) | exact imp_plain hh .nil | exact imp_plain hh (.emp _))
 | succ d ih =>
   intro x i w0 w N tm a st at_ FP v fp hh hd hn hf hap hb
   cases x with
   | agg cs =>
     cases hd with
     | agg F hl hdd =>
       rename_i us
       obtain ⟨n1, n2⟩ := nodup_flat hn
       have := impL_ok (imp_ids d) ih cs i 0 st at_ FP (fun j => us.getD j undef) F _ hh (fun j x hx => by rw [Nat.zero_add]; exact hdd j x hx) (fun j hj => by rw [Nat.zero_add]; exact n1 j hj)
        (fun j j' hj hj' hne => by rw [Nat.zero_add, Nat.zero_add]; exact n2 j j' hj hj' hne) (fun j hj g hg => by rw [Nat.zero_add] at hg; exact mem_flat hj hg) hf
        (fun c q hc j hj g hg => by rw [Nat.zero_add] at hg; exact hap c q hc g (mem_flat hj hg)) hb
       obtain ⟨at1, FP1, h1, ⟨h2, h3⟩, h4⟩ := this.ok
       exact ⟨at1, FP1, h1, .agg (by rw [hl]; exact h2.symm) (fun j y hy => by have := h3 j y hy; rw [Nat.zero_add] at this; exact this), h4⟩
   | tup cs =>
     cases hd with
     | tup F hl hdd =>
       rename_i us
       obtain ⟨n1, n2⟩ := nodup_flat hn
       have := impL_ok (imp_ids d) ih cs i 0 st at_ FP (fun j => us.getD j undef) F _ hh (fun j x hx => by rw [Nat.zero_add]; exact hdd j x hx) (fun j hj => by rw [Nat.zero_add]; exact n1 j hj)
        (fun j j' hj hj' hne => by rw [Nat.zero_add, Nat.zero_add]; exact n2 j j' hj hj' hne) (fun j hj g hg => by rw [Nat.zero_add] at hg; exact mem_flat hj hg) hf
        (fun c q hc j hj g hg => by rw [Nat.zero_add] at hg; exact hap c q hc g (mem_flat hj hg)) hb
       obtain ⟨at1, FP1, h1, ⟨h2, h3⟩, h4⟩ := this.ok
       exact ⟨at1, FP1, h1, .tup (by rw [hl]; exact h2.symm) (fun j y hy => by have := h3 j y hy; rw [Nat.zero_add] at this; exact this), h4⟩
   | _ => first
     | exact imp_plain hh (.any _)
     | exact imp_sl hh hd hn hf hap (hb i (Nat.le_refl _) (Nat.lt_succ_self _))
     | (cases hd; first | exact imp_plain hh (.int _ _) | exact imp_plain hh (.bo _) | exact imp_plain hh (.str _) | exact imp_plain hh .nil | exact imp_plain hh (.emp _))
end
end Go.V
namespace Go.V
open Go Go.RowKit
section
variable {P : Program} {Q : AV → Prop} {As : List (St → Prop)} {mu : Nat → Bool} {tm : List (Nat × AV)} {st : List (Nat × Blk)} {nid : Nat} {K : AV → List (Nat × Blk) → Tree} {o : Oper}
theorem call_enter {f : Nat} (hc : Callable P f) (args : Array Value) (w : World) : (callFunc f args).run P w = .ok (.enter f args) w := by
 obtain ⟨fn, hf, hn, hb⟩ := hc
 have hb' : fn.body ≠ none := by intro h; simp [h] at hb
 simp [callFunc, hf, hn, hb']
theorem call_does {f : Nat} {vals : Array Value} {vs cargs : List AV} {r : AV} {w0 : Base} [TbOk P w0] {w : World} {N : Nat} {tm' : List (Nat × AV)} {st' : Nat → Option Blk} {a : Act} {at_ : Nat → Option (Nat × Nat)} {FP : Nat → List Nat}
 (hrun : (execOp a.eval o).run P w = .ok (.enter f vals) w) (hh : Here w0 N tm' st' a w at_ FP) (hF : Fn P f cargs r) (hl : cargs.length = vs.length) (ha : ∀ (i : Nat) (x y : AV), vs[i]? = some x → cargs[i]? = some y → LeD x y)
 (hsz : vals.size = vs.length) (hd : ∀ (i : Nat) (y : AV), vs[i]? = some y → ∃ fp, Deep w y (vals.getD i undef) fp) (hi : (imp 3 r nid).2.2 ≤ nid + 16) (hf : ∀ b, nid ≤ b → b < nid + 16 → st' b = none) :
 Does P o a w (fun u w' => ∃ at_ FP, Here w0 N tm' (addAll (imp 3 r nid).2.1 st') a w' at_ FP ∧ Loc ⟨w0, w', at_, addAll (imp 3 r nid).2.1 st'⟩ (imp 3 r nid).1 u) := by
 obtain ⟨F, hFp⟩ := pick_fp (n := vs.length) (R := fun i fp => ∀ y, vs[i]? = some y → Deep w y (vals.getD i undef) fp) (fun i hi => by
  have hy := List.getElem?_eq_getElem hi
  obtain ⟨fp, h⟩ := hd i _ hy
  exact ⟨fp, fun y hy' => by rw [hy] at hy'; cases hy'; exact h⟩)
 refine .inr ⟨f, vals, w, hrun, (hF.2 w vals F (TbOk.ok w hh.good.below) (by omega) (fun i y hy => ?_)).mono (fun e w' hr => ?_)⟩
 ·obtain ⟨x, hx⟩ := get_of_len hl hy
  exact (ha i x y hx hy).deep (hFp i (lt_of_get hx) x hx)
 ·obtain ⟨v, fp, rfl, hdeep, hn, hfr, hb⟩ := hr
  refine ⟨v, rfl, ?_⟩
  have h2 := hh.world hb
  obtain ⟨at1, FP1, h3, h4, _⟩ := (imp_ok 3 r nid w0 w' N tm' a st' at_ FP v fp h2 hdeep hn (fun g hg => ⟨hh.good.below.hot (hfr g hg).1, (hfr g hg).2⟩)
   (fun c k hc g hg hg' => by
     have := hh.good.bound hc g hg'
     have h' : g < w.heap.size := this
     exact absurd (hfr g hg).1 (by omega))
   (fun b hb1 hb2 => hf b hb1 (Nat.lt_of_lt_of_le hb2 hi))).ok
  exact ⟨at1, FP1, h3, h4⟩
theorem map_getD {f : Operand → Value} {xs : Array Operand} {i : Nat} {x : Operand} (h : xs.toList[i]? = some x) : (xs.map f).getD i undef = f x := by
 have h' : xs[i]? = some x := by simpa using h
 rw [Array.getD_eq_getD_getElem?, Array.getElem?_map, h']
 rfl
theorem q_call {c : Go.Call} {f : Nat} {vs cargs : List AV} {r : AV} (ho : o.op = .call c) (hc : c.callee = .value (.func f)) (hm : (c.args.toList.map (ev tm)).mapM (mat st 4) = some vs) (hF : Fn P f cargs r) (hl : cargs.length = vs.length)
 (ha : ∀ (i : Nat) (x y : AV), vs[i]? = some x → cargs[i]? = some y → LeD x y) (hi : (imp 3 r nid).2.2 ≤ nid + 16) : QOK P o tm st nid (imp 3 r nid).1 (imp 3 r nid).2.1 := by
 obtain ⟨m1, m2⟩ := mapM_get hm
 refine ⟨fun p hp => ?_, fun w0 _ N tm' st' a w hx hst hf ⟨at_, FP, hh⟩ => ?_⟩
 ·have := (imp_ids 3 r nid).2 p hp
  exact ⟨this.1, Nat.lt_of_lt_of_le this.2 hi⟩
 ·refine call_does (vals := c.args.map a.eval) ?_ hh hF hl ha (by simp [m1]) (fun i y hy => ?_) hi hf
  ·simp only [execOp, ho, resolve, hc, Act.eval, Deferred.ofValue, Sem.run_bind, Sem.run_pure, Result.andThen_ok, invoke, call_enter hF.1]
   simp
  ·obtain ⟨x, hx'⟩ := get_of_len m1 hy
   have hx2 := hx'
   rw [List.getElem?_map, Option.map_eq_some_iff] at hx2
   obtain ⟨z, hz, rfl⟩ := hx2
   rw [map_getD hz]
   have h1 := hh.ev z
   rw [hx z (by
    have : z ∈ c.args.toList := List.mem_of_getElem? hz
    simp [ho, Op.operands, Call.operands, hc]
    exact .inr (by simpa using this))] at h1
   exact mat_ok hh.good (fun b k hb => hst b k hb) 4 _ _ (m2 i _ _ hx' hy) _ h1
theorem q_callv {c : Go.Call} {f t : Nat} {caps vs cargs : List AV} {r : AV} (ho : o.op = .call c) (hc : c.callee = .value (.tmp t)) (ht : ev tm (.tmp t) = .clo f caps) (hm : (c.args.toList.map (ev tm) ++ caps).mapM (mat st 4) = some vs) (hF : Fn P f cargs r) (hl : cargs.length = vs.length)
 (ha : ∀ (i : Nat) (x y : AV), vs[i]? = some x → cargs[i]? = some y → LeD x y) (hi : (imp 3 r nid).2.2 ≤ nid + 16) : QOK P o tm st nid (imp 3 r nid).1 (imp 3 r nid).2.1 := by
 obtain ⟨m1, m2⟩ := mapM_get hm
 refine ⟨fun p hp => ?_, fun w0 _ N tm' st' a w hx hst hf ⟨at_, FP, hh⟩ => ?_⟩
 ·have := (imp_ids 3 r nid).2 p hp
  exact ⟨this.1, Nat.lt_of_lt_of_le this.2 hi⟩
 ·have h0 := hh.ev (.tmp t)
  rw [hx _ (by simp [ho, Op.operands, Call.operands, hc]), ht] at h0
  obtain ⟨us, he, hs, hd⟩ := h0.clo_inv
  refine call_does (vals := c.args.map a.eval ++ us) ?_ hh hF hl ha (by simp [m1, hs]) (fun i y hy => ?_) hi hf
  ·simp only [execOp, ho, resolve, hc, he, Deferred.ofValue, Sem.run_bind, Sem.run_pure, Result.andThen_ok, invoke, call_enter hF.1]
   simp
  ·obtain ⟨x, hx'⟩ := get_of_len m1 hy
   by_cases hlt : i < c.args.toList.length
   ·have hx2 := hx'
    rw [List.getElem?_append_left (by simpa using hlt), List.getElem?_map, Option.map_eq_some_iff] at hx2
    obtain ⟨z, hz, rfl⟩ := hx2
    have e : (c.args.map a.eval ++ us).getD i undef = a.eval z := by
     rw [Array.getD_eq_getD_getElem?, Array.getElem?_append_left (by simpa using hlt), ← Array.getD_eq_getD_getElem?, map_getD hz]
    rw [e]
    have h1 := hh.ev z
    rw [hx z (by
     have : z ∈ c.args.toList := List.mem_of_getElem? hz
     simp [ho, Op.operands, Call.operands, hc]
     exact .inr (by simpa using this))] at h1
    exact mat_ok hh.good (fun b k hb => hst b k hb) 4 _ _ (m2 i _ _ hx' hy) _ h1
   ·have hx2 := hx'
    rw [List.getElem?_append_right (by simpa using hlt)] at hx2
    have e : (c.args.map a.eval ++ us).getD i undef = us.getD (i - (c.args.toList.map (ev tm)).length) undef := by
     rw [Array.getD_eq_getD_getElem?, Array.getElem?_append_right (by simpa using hlt), Array.getD_eq_getD_getElem?]
     simp
    rw [e]
    exact mat_ok hh.good (fun b k hb => hst b k hb) 4 _ _ (m2 i _ _ hx' hy) _ (hd _ x hx2)
def nilP : AV → Option (Unit → Prop)
 | .sl _ _ xs => some (fun _ => xs () = [])
 | .emp => some (fun _ => True)
 | .ref _ _ n => some (fun _ => n () = 0)
 | _ => none
theorem nil_loc {E : Env} {FP : Nat → List Nat} {x : AV} {v : Value} {p : Unit → Prop} (hG : Good E FP) (hp : nilP x = some p) (h : Loc E x v) : ∃ A n c, v = .slice A n c ∧ (A.isNone = true → p ()) := by
 cases x <;> simp only [nilP, Option.some.injEq] at hp <;> first | (subst hp) | (cases hp; done)
 ·obtain ⟨A, rfl⟩ := h.emp_inv
  exact ⟨A, 0, 0, rfl, fun _ => trivial⟩
 ·cases h with
  | sl h => cases h.deep with
    | sl0 A he => exact ⟨A, 0, 0, rfl, fun _ => he⟩
    | sl u F hn hg hr hu hd => exact ⟨_, _, _, rfl, fun h => by cases h⟩
 ·have key : ∀ {b off n len sz}, RefAt E b off n len sz v → (E.at_ b = none → len = 0) → ∃ A k c, v = .slice A k c ∧ (A.isNone = true → n = 0) := by
   intro b off n len sz hr h0
   obtain ⟨hle, hr⟩ := hr
   cases ha : E.at_ b with
   | none =>
     rw [ha] at hr
     obtain ⟨A, rfl⟩ := hr
     have := h0 ha
     exact ⟨A, 0, 0, rfl, fun _ => by omega⟩
   | some q =>
     rw [ha] at hr
     obtain ⟨A, cap, cs, t, rfl, hn, hg, hA⟩ := hr
     refine ⟨_, _, _, rfl, fun h => ?_⟩
     rcases hA with rfl | ⟨rfl, _⟩
     ·omega
     ·cases h
  cases h with
  | ref hb hr =>
    refine key hr (fun ha => ?_)
    have r := hG.rep _ _ hb
    generalize FP _ = fp at r
    cases r with
    | row0 _ hx => rw [hx]; rfl
    | row F ha' _ _ _ => rw [ha] at ha'; cases ha'
  | refl hb hr =>
    refine key hr (fun ha => ?_)
    have r := hG.rep _ _ hb
    generalize FP _ = fp at r
    cases r with
    | lit ha' _ _ => rw [ha] at ha'; cases ha'
theorem nbin_run {op : BinOp} {t t' e : TypeId} {x y : Operand} {x' : AV} {p : Unit → Prop} {w0 : Base} {w : World} {N : Nat} {tm' : List (Nat × AV)} {st' : Nat → Option Blk} {a : Act} {at_ : Nat → Option (Nat × Nat)} {FP : Nat → List Nat} (ho : o.op = .binOp op t x y t') (hop : op = .eql ∨ op = .neq) (hu : P.underlying t = some (.slice e))
 (hh : Here w0 N tm' st' a w at_ FP) (hx : Loc ⟨w0, w, at_, st'⟩ x' (a.eval x)) (hp : nilP x' = some p) (hy : a.eval y = .slice none 0 0) :
 ∃ r : Bool, (r = true → p ()) ∧ (execOp a.eval o).run P w = .ok (.value (.bool (if op = .eql then r else !r))) w := by
 obtain ⟨A, n, c, hv, hA⟩ := nil_loc hh.good hp hx
 refine ⟨A.isNone, hA, ?_⟩
 rcases hop with rfl | rfl <;> simp [execOp, ho, hv, hy, eqGuard, binOp, equal_nil hu]
end
end Go.V
namespace Go.V
open Go Go.RowKit
section
variable {P : Program} {Q : AV → Prop} {As : List (St → Prop)} {mu : Nat → Bool} {tm : List (Nat × AV)} {st : List (Nat × Blk)} {nid : Nat} {K : AV → List (Nat × Blk) → Tree} {o : Oper}
def QD (P : Program) (Q : AV → Prop) (As : List (St → Prop)) (o : Oper) (tm : List (Nat × AV)) (st : List (Nat × Blk)) (nid : Nat) (K : AV → List (Nat × Blk) → Tree) : Prop :=
 ∃ v new, QOK P o tm st nid v new ∧ Sat P Q As (K v new)
theorem bif_true {c : Bool} {a b : Tree} (h : Sat P Q As (bif c then a else b)) {n : Nat} (hb : b = .bad n) : c = true ∧ Sat P Q As a := by
 cases c with
 | true => exact ⟨rfl, h⟩
 | false => rw [hb] at h; cases h
theorem no_bad {n : Nat} (h : Sat P Q As (.bad n)) : False := by cases h
theorem d_pick {c x y : Operand} (ho : o.op = .pick c x y) (h : Sat P Q As (qop (.pick c x y) tm st nid K)) : QD P Q As o tm st nid K := by
 simp only [qop] at h
 split at h
 ·rename_i t ht
  exact ⟨_, _, q_pick ho ht, h⟩
 ·exact (no_bad h).elim
theorem d_not {t : TypeId} {x : Operand} (ho : o.op = .unOp .not t x) (h : Sat P Q As (qop (.not x) tm st nid K)) : QD P Q As o tm st nid K := by
 simp only [qop] at h
 split at h
 ·rename_i t ht
  exact ⟨_, _, q_not ho ht, h⟩
 ·exact (no_bad h).elim
theorem sat_ari {k : IntKind} {v : Unit → Int} {c : (Unit → Int) → Tree} (h : Sat P Q As (.ari k v c)) : ∃ r : Unit → Int, k.wrap (v ()) = r () ∧ Sat P Q As (c r) := by
 cases h with
 | ari h hc => exact ⟨v, h, hc⟩
 | ariw hc => exact ⟨_, rfl, hc⟩
theorem d_bin {op : BinOp} {t t' : TypeId} {x y : Operand} (ho : o.op = .binOp op t x y t') (h : Sat P Q As (qop (.bin op x y) tm st nid K)) : QD P Q As o tm st nid K := by
 simp only [qop] at h
 split at h
 ·rename_i k a q b hx hy
  have hk := (bif_true h rfl).1
  replace h := (bif_true h rfl).2
  have := kindEq_eq hk
  subst this
  split at h
  ·obtain ⟨r, hr, h⟩ := sat_ari h
   exact ⟨_, _, q_arith ho hx hy (.inl ⟨rfl, rfl⟩) hr, h⟩
  ·obtain ⟨r, hr, h⟩ := sat_ari h
   exact ⟨_, _, q_arith ho hx hy (.inr (.inl ⟨rfl, rfl⟩)) hr, h⟩
  ·obtain ⟨r, hr, h⟩ := sat_ari h
   exact ⟨_, _, q_arith ho hx hy (.inr (.inr ⟨rfl, rfl⟩)) hr, h⟩
  ·cases h with
   | need hp h => exact ⟨_, _, q_rem ho hx hy hp, h⟩
  ·cases h with
   | need hp h =>
     obtain ⟨r, hr, h⟩ := sat_ari h
     exact ⟨_, _, q_quo ho hx hy hp hr, h⟩
  ·obtain ⟨r, hr, h⟩ := sat_cmpT h
   exact ⟨_, _, q_cmp ho hx hy hr, h⟩
 ·rename_i a b hx hy
  split at h
  ·cases h with
   | test h1 h2 =>
     cases e : decide (a () = b ()) with
     | true => exact ⟨_, _, by have := q_seq (P := P) (st := st) (nid := nid) ho hx hy; rw [e] at this; exact this, h1 e⟩
     | false => exact ⟨_, _, by have := q_seq (P := P) (st := st) (nid := nid) ho hx hy; rw [e] at this; exact this, h2 e⟩
  ·cases h with
   | test h1 h2 =>
     cases e : decide (a () = b ()) with
     | true => exact ⟨_, _, by have := q_sne (P := P) (st := st) (nid := nid) ho hx hy; rw [e] at this; exact this, h1 e⟩
     | false => exact ⟨_, _, by have := q_sne (P := P) (st := st) (nid := nid) ho hx hy; rw [e] at this; exact this, h2 e⟩
  ·cases h with
   | need hp h => exact ⟨_, _, q_sadd ho hx hy hp, h⟩
  ·exact (no_bad h).elim
 ·exact (no_bad h).elim
theorem d_bit {op : BinOp} {t t' : TypeId} {x y : Operand} (ho : o.op = .binOp op t x y t') (h : Sat P Q As (qop (.bit op x y) tm st nid K)) : QD P Q As o tm st nid K := by
 simp only [qop] at h
 split at h
 ·rename_i k a q b hx hy
  cases hs : isSh op with
  | true =>
    rw [hs, cond_true] at h
    cases h with
    | need hp h => exact ⟨_, _, q_sh ho hx hy (by cases op <;> first | exact .inl rfl | exact .inr rfl | cases hs) hp, h⟩
  | false =>
    rw [hs, cond_false] at h
    have hk := (bif_true h rfl).1
    replace h := (bif_true h rfl).2
    rw [Bool.and_eq_true] at hk
    have := kindEq_eq hk.1
    subst this
    exact ⟨_, _, q_bit ho hx hy (by cases op <;> first | exact .inl rfl | exact .inr (.inl rfl) | exact .inr (.inr (.inl rfl)) | exact .inr (.inr (.inr rfl)) | (cases hs; done) | (have := hk.2; cases this)), h⟩
 ·exact (no_bad h).elim
theorem d_bbin {op : BinOp} {t t' : TypeId} {x y : Operand} (ho : o.op = .binOp op t x y t') (hu : P.underlying t = some .bool) (h : Sat P Q As (qop (.bbin op x y) tm st nid K)) : QD P Q As o tm st nid K := by
 simp only [qop] at h
 split at h
 ·rename_i a b hx hy
  split at h
  ·refine ⟨_, _, ?_, h⟩
   have := q_beq (P := P) (st := st) (nid := nid) ho hu hx hy
   cases a <;> cases b <;> exact this
  ·refine ⟨_, _, ?_, h⟩
   have := q_bne (P := P) (st := st) (nid := nid) ho hu hx hy
   cases a <;> cases b <;> exact this
  ·exact (no_bad h).elim
 ·exact (no_bad h).elim
theorem d_aeq {op : BinOp} {neg : Bool} {t t' : TypeId} {fs : Array Field} {ks : List CK} {x y : Operand} (ho : o.op = .binOp op t x y t') (hop : op = if neg then .neq else .eql) (hu : P.underlying t = some (.struct fs)) (hk : eqKinds P 8 t = some ks)
 (h : Sat P Q As (qop (.aeq neg ks x y) tm st nid K)) : QD P Q As o tm st nid K := by
 simp only [qop] at h
 split at h
 ·rename_i a b hx hy
  obtain ⟨hf, h⟩ := bif_true h rfl
  obtain ⟨r, h, hr⟩ := sat_eqT h
  exact ⟨_, _, q_aeq ho hop hu hk hx hy hf hr, h⟩
 ·exact (no_bad h).elim
theorem d_box {t : TypeId} {x : Operand} (ho : o.op = .box t x) (h : Sat P Q As (qop (.box x) tm st nid K)) : QD P Q As o tm st nid K := by
 simp only [qop] at h
 obtain ⟨hc, h⟩ := bif_true h rfl
 exact ⟨_, _, q_box ho hc, h⟩
theorem d_alloc {t : TypeId} {zs : List Value} (ho : o.op = .alloc t) (hz : zero? P t = some zs) (h : Sat P Q As (qop (.alloc zs) tm st nid K)) : QD P Q As o tm st nid K := by
 simp only [qop] at h
 obtain ⟨hc, h⟩ := bif_true h rfl
 exact ⟨_, _, q_alloc ho hz, h⟩
theorem d_fa {s : TypeId} {x : Operand} {j : Nat} {fd : Field} (ho : o.op = .fieldAddr s x j) (hf : field? P s j = some fd) (hz : ¬ (sizeOf? P fd.type = some 0 ∨ sizeOf? P fd.type = none)) (h : Sat P Q As (qop (.fa x fd.offset) tm st nid K)) : QD P Q As o tm st nid K := by
 simp only [qop] at h
 split at h
 ·rename_i b j hx
  exact ⟨_, _, q_fa ho hf hz hx (fun E u _ hl => fa_ptr hl), h⟩
 ·rename_i b i j hx
  split at h
  ·rename_i sz enc xs fx hb
   obtain ⟨hc, h⟩ := bif_true h rfl
   exact ⟨_, _, q_fa ho hf hz hx (fun E u hst hl => fa_eptr hl (hst _ _ hb) (Nat.le_of_ble_eq_true hc)), h⟩
  ·exact (no_bad h).elim
 ·rename_i cs hx
  exact ⟨_, _, q_fa ho hf hz hx (fun E u _ hl => fa_rptr hl), h⟩
 ·exact (no_bad h).elim
theorem sat_idxT {m : Unit → Int} {K : Nat → Tree} : ∀ {f a : Nat}, Sat P Q As (idxT m K f a) → ∃ c, a ≤ c ∧ c < a + f ∧ m () = c ∧ Sat P Q As (K c)
 | 0, a, h => (no_bad h).elim
 | f + 1, a, h => by
   rw [idxT] at h
   cases h with
   | cmp h1 h2 =>
     by_cases e : m () = (a : Int)
     ·exact ⟨a, Nat.le_refl _, by omega, e, h1 e⟩
     ·obtain ⟨c, c1, c2, c3, c4⟩ := sat_idxT (h2 e)
      exact ⟨c, by omega, by omega, c3, c4⟩
theorem d_iaa {t e : TypeId} {x y : Operand} {n len : Nat} (ho : o.op = .indexAddr t x y) (hu : P.underlying t = some (.array len e)) (hn : sizeOf? P e = some n) (h : Sat P Q As (qop (.iaa x y len n) tm st nid K)) : QD P Q As o tm st nid K := by
 simp only [qop] at h
 split at h
 ·rename_i b j k m hx hy
  obtain ⟨c, c1, c2, c3, c4⟩ := sat_idxT h
  exact ⟨_, _, q_iaa ho hu hn hx hy c3 (by omega), c4⟩
 ·exact (no_bad h).elim
theorem d_ia {t e : TypeId} {x y : Operand} {n : Nat} (ho : o.op = .indexAddr t x y) (he : elem? P t = some e) (hn : sizeOf? P e = some n) (h : Sat P Q As (qop (.ia x y n) tm st nid K)) : QD P Q As o tm st nid K := by
 simp only [qop] at h
 split at h
 ·rename_i z enc xs k m hx hy
  obtain ⟨hc, h1⟩ := bif_true h rfl
  clear h
  have := Nat.eq_of_beq_eq_true hc
  subst this
  cases h1 with
  | need hp h =>
    cases h with
    | idx hlt0 h =>
      have hlt : (m ()).toNat < (xs ()).length := by have := hp.1; have := hp.2; omega
      exact ⟨_, _, q_ia ho he hn hx hy (fun E FP u _ _ hl => ia_sl hp.1 hp.2 (List.getElem?_eq_getElem hlt) hl), h _ (List.getElem?_eq_getElem hlt)⟩
 ·rename_i b off k q m hx hy
  split at h
  ·rename_i z enc xs fx hb
   obtain ⟨hc, h1⟩ := bif_true h rfl
   clear h
   have := Nat.eq_of_beq_eq_true hc
   subst this
   cases h1 with
   | need hp h => exact ⟨_, _, q_ia ho he hn hx hy (fun E FP u hG hst hl => ia_ref hG (hst _ _ hb) hp.1 hp.2 hl), h⟩
  ·exact (no_bad h).elim
 ·exact (no_bad h).elim
theorem res_sat {l : List AV} {g : Bool} {n : Nat} (h : Sat P Q As (bif g then K (.agg l) [] else match l with | [c] => K c [] | _ => .bad n)) : ∃ r, resAV g l = some r ∧ Sat P Q As (K r []) := by
 cases g with
 | true => exact ⟨_, rfl, h⟩
 | false =>
   rw [cond_false] at h
   split at h
   ·exact ⟨_, rfl, h⟩
   ·exact (no_bad h).elim
theorem d_ld {t : TypeId} {x : Operand} {n : Nat} {g : Bool} (ho : o.op = .load t x) (hn : sizeOf? P t = some n) (hg : agg? P t = some g) (h1 : g = false → n = 1) (h : Sat P Q As (qop (.ld x n g) tm st nid K)) : QD P Q As o tm st nid K := by
 simp only [qop] at h
 split at h
 ·rename_i b j hx
  split at h
  ·rename_i sz cs hb
   obtain ⟨hc, h⟩ := bif_true h rfl
   have hl := Nat.eq_of_beq_eq_true hc
   obtain ⟨r, hr, h⟩ := res_sat h
   exact ⟨_, _, q_ld ho hn hg h1 hx hl hr (fun E FP u hG hst hu => ld_ptr hG (hst _ _ hb) hl hu), h⟩
  ·exact (no_bad h).elim
 ·rename_i b i j hx
  split at h
  ·rename_i sz enc xs fx hb
   obtain ⟨hc, h⟩ := bif_true h rfl
   cases h with
   | idx hlt h =>
     obtain ⟨r, hr, h⟩ := res_sat (h _ (List.getElem?_eq_getElem hlt))
     exact ⟨_, _, q_ld ho hn hg h1 hx (by simp) hr (fun E FP u hG hst hu => ld_eptr hG (hst _ _ hb) (Nat.le_of_ble_eq_true hc) (List.getElem?_eq_getElem hlt) hu), h⟩
  ·exact (no_bad h).elim
 ·rename_i cs hx
  obtain ⟨hc, h⟩ := bif_true h rfl
  have hl := Nat.eq_of_beq_eq_true hc
  obtain ⟨r, hr, h⟩ := res_sat h
  exact ⟨_, _, q_ld ho hn hg h1 hx hl hr (fun E FP u hG hst hu => ld_rptr hG hl hu), h⟩
 ·exact (no_bad h).elim
theorem row_at {E : Env} {FP : Nat → List Nat} {b : Nat} {off n : Unit → Nat} {v : Value} (hG : Good E FP) (h : Loc E (.ref b off n) v) : ∃ A cap, v = .slice A (n ()) cap := by
 have key : ∀ {len sz}, RefAt E b (off ()) (n ()) len sz v → (E.at_ b = none → len = 0) → ∃ A cap, v = .slice A (n ()) cap := by
  intro len sz hr h0
  obtain ⟨hle, hr⟩ := hr
  cases ha : E.at_ b with
  | none =>
    rw [ha] at hr
    obtain ⟨A, rfl⟩ := hr
    have := h0 ha
    have e : n () = 0 := by omega
    rw [e]
    exact ⟨A, 0, rfl⟩
  | some q =>
    rw [ha] at hr
    obtain ⟨A, cap, cs, t, rfl, hn, hg, hA⟩ := hr
    exact ⟨_, _, rfl⟩
 cases h with
 | ref hb hr =>
   refine key hr (fun ha => ?_)
   have r := hG.rep _ _ hb
   generalize FP _ = fp at r
   cases r with
   | row0 _ hx => rw [hx]; rfl
   | row F ha' _ _ _ => rw [ha] at ha'; cases ha'
 | refl hb hr =>
   refine key hr (fun ha => ?_)
   have r := hG.rep _ _ hb
   generalize FP _ = fp at r
   cases r with
   | lit ha' _ _ => rw [ha] at ha'; cases ha'
theorem d_slc {t e : TypeId} {x : Operand} {lo hi mx : Option Operand} {n : Nat} (ho : o.op = .slice t x lo hi mx) (hu : P.underlying t = some (.slice e)) (hn : sizeOf? P e = some n) (h : Sat P Q As (qop (.slc false x lo hi mx n) tm st nid K)) : QD P Q As o tm st nid K := by
 simp only [qop] at h
 split at h
 ·rename_i l r hlo hhi
  split at h
  ·rename_i z enc xs _ hx
   have hc := (bif_true h rfl).1
   replace h := (bif_true h rfl).2
   have := Nat.eq_of_beq_eq_true hc
   subst this
   obtain ⟨p, q, e1, e2, b1, b2, h⟩ := sat_cutT h
   exact ⟨_, _, q_slc ho hx hlo hhi e1 e2 (fun E FP u lv hv hG hst hl c1 c2 => slc_sl hu hn hl b1 b2 c1 c2), h⟩
  ·rename_i b off k _ hx
   split at h
   ·rename_i z enc xs fx hb
    have hc := (bif_true h rfl).1
    replace h := (bif_true h rfl).2
    have := Nat.eq_of_beq_eq_true hc
    subst this
    obtain ⟨p, q, e1, e2, b1, b2, h⟩ := sat_cutT h
    exact ⟨_, _, q_slc ho hx hlo hhi e1 e2 (fun E FP u lv hv hG hst hl c1 c2 => slc_ref hG hu hn (hst _ _ hb) hl b1 b2 c1 c2), h⟩
   ·exact (no_bad h).elim
  ·rename_i h1 _; cases h1
  ·rename_i _ hx
   obtain ⟨p, q, e1, e2, b1, b2, h⟩ := sat_cutT h
   exact ⟨_, _, q_slc ho hx hlo hhi e1 e2 (fun E FP u lv hv hG hst hl c1 c2 => slc_nil hu hn hl b1 b2 c1 c2), h⟩
  ·rename_i _ hx
   obtain ⟨p, q, e1, e2, b1, b2, h⟩ := sat_cutT h
   exact ⟨_, _, q_slc ho hx hlo hhi e1 e2 (fun E FP u lv hv hG hst hl c1 c2 => slc_emp hu hn hl b1 b2 c1 c2), h⟩
  ·exact (no_bad h).elim
 ·rename_i mx _ _ _ _
  cases e : (isLit0 hi && isLit0 mx && (bif isNone lo then true else isLit0 lo)) with
  | false => rw [e, cond_false] at h; exact (no_bad h).elim
  | true =>
    rw [e, cond_true] at h
    rw [Bool.and_eq_true, Bool.and_eq_true] at e
    have go : ∀ v, ev tm x = v → (∀ (E : Env) (FP : Nat → List Nat) (u : Value), Good E FP → Loc E v u → ∃ A l c, u = .slice A l c) → QOK P o tm st nid .emp [] := fun v hx hp => q_slc0 ho hu hn hx e.1.1 e.1.2 e.2 hp
    split at h
    ·rename_i sz enc xs _ hx
     exact ⟨_, _, go _ hx (fun E FP u hG hl => by
      cases hl with
      | sl hd => cases hd.deep with
        | sl0 A he => exact ⟨_, _, _, rfl⟩
        | sl u F hn hg hr hu' hd => exact ⟨_, _, _, rfl⟩), h⟩
    ·rename_i b off k _ hx
     exact ⟨_, _, go _ hx (fun E FP u hG hl => by
      obtain ⟨A, cap, rfl⟩ := row_at hG hl
      exact ⟨_, _, _, rfl⟩), h⟩
    ·rename_i _ hx
     exact ⟨_, _, go _ hx (fun E FP u hG hl => ⟨_, _, _, hl.nil_inv⟩), h⟩
    ·rename_i _ hx
     exact ⟨_, _, go _ hx (fun E FP u hG hl => by obtain ⟨A, rfl⟩ := hl.emp_inv; exact ⟨_, _, _, rfl⟩), h⟩
    ·exact (no_bad h).elim
theorem d_sslc {t : TypeId} {x : Operand} {lo hi mx : Option Operand} {n : Nat} (ho : o.op = .slice t x lo hi mx) (hu : P.underlying t = some .string) (h : Sat P Q As (qop (.slc true x lo hi mx n) tm st nid K)) : QD P Q As o tm st nid K := by
 simp only [qop] at h
 split at h
 ·rename_i l r hlo hhi
  split at h
  ·rename_i h1 _; cases h1
  ·rename_i h1 _; cases h1
  ·rename_i s _ hx
   obtain ⟨p, q, e1, e2, b1, b2, h⟩ := sat_cutT h
   exact ⟨_, _, q_slc ho hx hlo hhi e1 e2 (fun E FP u lv hv hG hst hl c1 c2 => slc_str hu hl b1 b2 c1 c2), h⟩
  ·rename_i h1 _; cases h1
  ·rename_i h1 _; cases h1
  ·exact (no_bad h).elim
 ·rename_i mx _ _ _ _
  cases e : (isLit0 hi && isLit0 mx && (bif isNone lo then true else isLit0 lo)) with
  | false => rw [e, cond_false] at h; exact (no_bad h).elim
  | true =>
    rw [e, cond_true] at h
    exact (no_bad h).elim
theorem d_len {c : Go.Call} {t e : TypeId} {x : Operand} (ho : o.op = .call c) (hc : c.callee = .builtin .len) (ht : c.argTypes[0]? = some t) (ha : c.args.toList = [x]) (hu : P.underlying t = some (.slice e)) (h : Sat P Q As (qop (.len false x) tm st nid K)) : QD P Q As o tm st nid K := by
 simp only [qop] at h
 split at h
 ·rename_i sz enc xs _ hx
  refine ⟨_, _, q_len ho hc ht ha hx (fun E FP u hG hst hl => .inl ?_), h⟩
  cases hl with
  | sl hd => cases hd.deep with
    | sl0 A he => exact ⟨e, A, 0, 0, hu, rfl, by rw [he]; rfl⟩
    | sl u F hn hg hr hu' hd => exact ⟨e, _, _, _, hu, rfl, rfl⟩
 ·rename_i b off n _ hx
  refine ⟨_, _, q_len ho hc ht ha hx (fun E FP u hG hst hl => .inl ?_), h⟩
  obtain ⟨A, cap, rfl⟩ := row_at hG hl
  exact ⟨e, _, _, _, hu, rfl, rfl⟩
 ·rename_i _ hx
  refine ⟨_, _, q_len ho hc ht ha hx (fun E FP u hG hst hl => .inl ?_), h⟩
  exact ⟨e, _, _, _, hu, hl.nil_inv, rfl⟩
 ·rename_i _ hx
  refine ⟨_, _, q_len ho hc ht ha hx (fun E FP u hG hst hl => .inl ?_), h⟩
  obtain ⟨A, rfl⟩ := hl.emp_inv
  exact ⟨e, _, _, _, hu, rfl, rfl⟩
 ·rename_i h1 _; cases h1
 ·exact (no_bad h).elim
theorem d_slen {c : Go.Call} {t : TypeId} {x : Operand} (ho : o.op = .call c) (hc : c.callee = .builtin .len) (ht : c.argTypes[0]? = some t) (ha : c.args.toList = [x]) (hu : P.underlying t = some .string) (h : Sat P Q As (qop (.len true x) tm st nid K)) : QD P Q As o tm st nid K := by
 simp only [qop] at h
 split at h
 ·rename_i h1 _; cases h1
 ·rename_i h1 _; cases h1
 ·rename_i h1 _; cases h1
 ·rename_i h1 _; cases h1
 ·rename_i s _ hx
  exact ⟨_, _, q_len ho hc ht ha hx (fun E FP u hG hst hl => .inr ⟨_, hu, hl.str_inv, rfl⟩), h⟩
 ·exact (no_bad h).elim
theorem d_sidx {t : TypeId} {x y : Operand} (ho : o.op = .index t x y) (hu : P.underlying t = some .string) (h : Sat P Q As (qop (.sidx x y) tm st nid K)) : QD P Q As o tm st nid K := by
 simp only [qop] at h
 split at h
 ·rename_i s k m hx hy
  cases h with
  | need hp h => exact ⟨_, _, q_sidx ho hu hx hy hp.1 hp.2, h⟩
 ·exact (no_bad h).elim
theorem d_mx {c : Go.Call} {m : Bool} {x y : Operand} (ho : o.op = .call c) (hc : c.callee = .builtin (if m then .max else .min)) (ha : c.args.toList = [x, y]) (h : Sat P Q As (qop (.mx m x y) tm st nid K)) : QD P Q As o tm st nid K := by
 simp only [qop] at h
 split at h
 ·rename_i k a q b hx hy
  have hk := (bif_true h rfl).1
  replace h := (bif_true h rfl).2
  have := kindEq_eq hk
  subst this
  exact ⟨_, _, q_mx ho hc ha hx hy (by cases m <;> rfl), h⟩
 ·exact (no_bad h).elim
theorem d_bld {t : TypeId} {parts : Array (Nat × Operand)} {fs : Array Field} {zs : List Value} {places : List (Nat × Nat)} {l : List (Nat × Nat × Operand)} (ho : o.op = .build t parts) (hu : P.underlying t = some (.struct fs)) (hz : zero? P t = some zs)
 (hp : (fs.toList.mapM fun fd => (sizeOf? P fd.type).map fun n => (fd.offset, n)) = some places) (hl : (parts.toList.mapM fun p => (places[p.1]?).map fun q => (q.1, q.2, p.2)) = some l) (h : Sat P Q As (qop (.bld zs l) tm st nid K)) : QD P Q As o tm st nid K := by
 simp only [qop] at h
 split at h
 ·rename_i cs hf
  exact ⟨_, _, q_bld ho hu hz hp hl hf, h⟩
 ·exact (no_bad h).elim
theorem d_blda {t e : TypeId} {len n : Nat} {parts : Array (Nat × Operand)} {zs : List Value} (ho : o.op = .build t parts) (hu : P.underlying t = some (.array len e)) (hz : zero? P t = some zs) (hn : sizeOf? P e = some n)
 (h : Sat P Q As (qop (.bld zs (parts.toList.map fun p => (p.1 * n, n, p.2))) tm st nid K)) : QD P Q As o tm st nid K := by
 simp only [qop] at h
 split at h
 ·rename_i cs hf
  exact ⟨_, _, q_blda ho hu hz hn hf, h⟩
 ·exact (no_bad h).elim
theorem d_cap {c : Go.Call} {t e : TypeId} {x : Operand} (ho : o.op = .call c) (hc : c.callee = .builtin .cap) (ht : c.argTypes[0]? = some t) (ha : c.args.toList = [x]) (hu : P.underlying t = some (.slice e)) (h : Sat P Q As (qop (.cap x) tm st nid K)) : QD P Q As o tm st nid K := by
 simp only [qop] at h
 split at h
 ·rename_i hx
  exact ⟨_, _, q_cap ho hc ht ha hu hx (.inl rfl), h⟩
 ·rename_i hx
  exact ⟨_, _, q_cap ho hc ht ha hu hx (.inr rfl), h⟩
 ·exact (no_bad h).elim
theorem d_aidx {t e : TypeId} {len : Nat} {x y : Operand} (ho : o.op = .index t x y) (hu : P.underlying t = some (.array len e)) (hn : sizeOf? P e = some 1) (hg : agg? P e = some false) (h : Sat P Q As (qop (.aidx x y len) tm st nid K)) : QD P Q As o tm st nid K := by
 simp only [qop] at h
 split at h
 ·rename_i cs k m hx hy
  split at h
  ·rename_i l hl
   cases h with
   | need hp h =>
     cases h with
     | idx hlt h =>
       have e := List.getElem?_eq_getElem hlt
       exact ⟨_, _, q_aidx ho hu hn hg hx hl hy hp.1 hp.2 e, h _ e⟩
  ·exact (no_bad h).elim
 ·exact (no_bad h).elim
theorem d_bsl {t e : TypeId} {len n : Nat} {parts : Array (Nat × Operand)} {zs : List Value} (ho : o.op = .buildSlice t len parts) (he : elem? P t = some e) (hn : sizeOf? P e = some n) (hz : zero? P e = some zs) (hzl : zs.length = n) (h0 : 0 < n) (h99 : n < 99) (hbig : len * n ≤ 16777216)
 (hpp : len = 0 → parts.size = 0) (h : Sat P Q As (qop (.bsl n len zs parts.toList) tm st nid K)) : QD P Q As o tm st nid K := by
 simp only [qop] at h
 cases hl : Nat.beq len 0 with
 | true =>
   rw [hl] at h
   have := Nat.eq_of_beq_eq_true hl
   subst this
   exact ⟨_, _, q_bsl0 ho he hn (hpp rfl), h⟩
 | false =>
   rw [hl, cond_false] at h
   have hlen : 0 < len := by
    rcases Nat.eq_zero_or_pos len with e | e
    ·subst e; cases hl
    ·exact e
   split at h
   ·rename_i cs hf
    exact ⟨_, _, q_bsl ho he hn hz hzl h0 h99 hbig hlen hf, h⟩
   ·exact (no_bad h).elim
theorem d_mks {t e : TypeId} {x y : Operand} {i : TypeInfo} {zs : List Value} (ho : o.op = .makeSlice t x y) (he : elem? P t = some e) (hi : P.info? e = some i) (hz : zero? P e = some zs) (hzl : zs.length = i.size) (h0 : 0 < i.size) (hb : 0 < i.bytes)
 (h : Sat P Q As (qop (.mks i.size i.bytes zs x y) tm st nid K)) : QD P Q As o tm st nid K := by
 simp only [qop] at h
 split at h
 ·rename_i k a q b hx hy
  cases hfl : (zs.map ofVal).all flat with
  | false => rw [hfl] at h; exact (no_bad h).elim
  | true =>
    rw [hfl] at h
    cases h with
    | need hp h =>
      cases h with
      | typ enc z ht h => exact ⟨_, _, q_mks ho he hi hz hzl h0 hb hfl hx hy hp.1 hp.2.1 hp.2.2 ht, h⟩
 ·exact (no_bad h).elim
theorem d_neg {t : TypeId} {x : Operand} (ho : o.op = .unOp .neg t x) (h : Sat P Q As (qop (.neg x) tm st nid K)) : QD P Q As o tm st nid K := by
 simp only [qop] at h
 split at h
 ·rename_i q n hx
  obtain ⟨r, hr, h⟩ := sat_ari h
  exact ⟨_, _, q_neg ho hx hr, h⟩
 ·exact (no_bad h).elim
theorem d_conv {src dst : TypeId} {x : Operand} {k k0 : IntKind} (ho : o.op = .convert src dst x) (hs : P.underlying src = some (.int k0)) (hd : P.underlying dst = some (.int k)) (h : Sat P Q As (qop (.conv k x) tm st nid K)) : QD P Q As o tm st nid K := by
 simp only [qop] at h
 split at h
 ·rename_i q n hx
  obtain ⟨r, hr, h⟩ := sat_ari h
  exact ⟨_, _, q_conv ho hs hd hx hr, h⟩
 ·exact (no_bad h).elim
theorem q_cst {src dst e : TypeId} {x : Operand} {xs : Unit → List Int} (ho : o.op = .convert src dst x) (hs : P.underlying src = some (.slice e)) (he : P.underlying e = some (.int .u8)) (hd : P.underlying dst = some .string) (hm : mat st 4 (ev tm x) = some (.sl 1 (encI .u8) xs)) :
 QOK P o tm st nid (.str (fun _ => strOfNums (xs ()))) [] := by
 refine QOK.pure (fun w0 N tm' st' a w at_ FP hx hst hh => ⟨.string (strOfNums (xs ())), ?_, .str _⟩)
 have h1 := hh.ev x
 rw [hx x (by simp [ho, Op.operands])] at h1
 obtain ⟨fp, hD⟩ := mat_ok hh.good (fun b k hb => hst b k hb) 4 _ _ hm _ h1
 have hD : Deep w (.sl 1 (encI .u8) xs) (a.eval x) fp := hD
 have key : (convert src dst (a.eval x)).run P w = .ok (.string (strOfNums (xs ()))) w := by
  generalize a.eval x = v at hD
  cases hD with
  | sl0 A h =>
    rw [h]
    cases A with
    | none => exact run_convert_bytes_nil w src e hs he 0 0 dst hd
    | some b =>
      have hl : (loadCells b 0).run P w = .ok (([] : List Int).map (Value.int .u8)).toArray w := by simpa using run_loadCells_list (P := P) w b [] (by simp)
      rw [run_convert_bytes_string w src dst e _ 0 0 hs he hd, run_bytesToString w _ 0 0 [] hl, foldl_push_bytes]
      simp [strOfNums, ByteArray.empty, ByteArray.emptyWithCapacity]
      rfl
  | @sl _ _ _ _ g off cap cs t fr u F hn hg hr hu hdd =>
    refine run_convert_bytes_arg w src e hs he g off _ cap (xs ()) rfl (fun i hi => ?_) dst hd
    have hxi := List.getElem?_eq_getElem hi
    have h2 : Deep w (.int .u8 (fun _ => (xs ())[i])) (u i 0) (F i 0) := hdd i _ hxi 0 (by omega)
    have h3 := hu i _ hxi 0 (by omega)
    have h4 : u i 0 = .int .u8 (xs ())[i] := by
     generalize u i 0 = q at h2
     generalize F i 0 = q2 at h2
     cases h2
     rfl
    rw [cell_of hg]
    rw [h4] at h3
    rw [show off + i = off + i * 1 + 0 by omega, h3]
    simp [List.getD_eq_getElem?_getD, hxi]
 simp [execOp, ho, key]
theorem d_cst {src dst e : TypeId} {x : Operand} (ho : o.op = .convert src dst x) (hs : P.underlying src = some (.slice e)) (he : P.underlying e = some (.int .u8)) (hd : P.underlying dst = some .string) (h : Sat P Q As (qop (.cst x) tm st nid K)) : QD P Q As o tm st nid K := by
 simp only [qop] at h
 split at h
 ·rename_i α sz enc xs hm
  cases hz : Nat.beq sz 1 with
  | false => rw [hz] at h; exact (no_bad h).elim
  | true =>
    rw [hz, cond_true] at h
    have := Nat.eq_of_beq_eq_true hz
    subst this
    cases h with
    | same hc => exact ⟨_, _, q_cst ho hs he hd hm, hc⟩
 ·exact (no_bad h).elim
theorem d_ext {x : Operand} {i : Nat} (ho : o.op = .extract x i) (h : Sat P Q As (qop (.ext x i) tm st nid K)) : QD P Q As o tm st nid K := by
 simp only [qop] at h
 split at h
 ·rename_i vs hx
  split at h
  ·rename_i v hv
   exact ⟨_, _, q_ext ho hx hv, h⟩
  ·exact (no_bad h).elim
 ·exact (no_bad h).elim
theorem d_nck {x : Operand} (ho : o.op = .nilCheck x) (h : Sat P Q As (qop (.nck x) tm st nid K)) : QD P Q As o tm st nid K := by
 simp only [qop] at h
 split at h
 ·rename_i b j hx
  exact ⟨_, _, q_nck ho hx (fun E u hl => by obtain ⟨_, _, _, _, _, _, rfl⟩ := hl.ptr_inv; exact ⟨_, rfl⟩), h⟩
 ·rename_i b i j hx
  exact ⟨_, _, q_nck ho hx (fun E u hl => by obtain ⟨_, _, _, _, _, _, _, _, _, _, _, rfl⟩ := hl.eptr_inv; exact ⟨_, rfl⟩), h⟩
 ·rename_i cs hx
  exact ⟨_, _, q_nck ho hx (fun E u hl => by cases hl with | rptr hd => cases hd.deep with | rptr => exact ⟨_, rfl⟩), h⟩
 ·exact (no_bad h).elim
theorem sat_call {f : Nat} {vs : List AV} {c : AV → Tree} (h : Sat P Q As (.call f vs c)) : ∃ cargs r, Fn P f cargs r ∧ cargs.length = vs.length ∧ (∀ (i : Nat) (x y : AV), vs[i]? = some x → cargs[i]? = some y → LeD x y) ∧ Sat P Q As (c r) := by
 cases h with
 | call hF hl ha hc => exact ⟨_, _, hF, hl, ha, hc⟩
 | @callb _ _ _ cargs b _ hF hl ha h1 h2 =>
   cases b with
   | true => exact ⟨_, _, hF, hl, ha, h1 rfl⟩
   | false => exact ⟨_, _, hF, hl, ha, h2 rfl⟩
theorem d_call {c : Go.Call} {f : Nat} (ho : o.op = .call c) (hc : c.callee = .value (.func f)) (h : Sat P Q As (qop (.call f c.args.toList) tm st nid K)) : QD P Q As o tm st nid K := by
 simp only [qop] at h
 split at h
 ·rename_i vs hm
  obtain ⟨cargs, r, hF, hl, ha, h⟩ := sat_call h
  obtain ⟨hi, h⟩ := bif_true h rfl
  exact ⟨_, _, q_call ho hc hm hF hl ha (Nat.le_of_ble_eq_true hi), h⟩
 ·exact (no_bad h).elim
theorem d_callv {c : Go.Call} {t : Nat} (ho : o.op = .call c) (hc : c.callee = .value (.tmp t)) (h : Sat P Q As (qop (.callv (.tmp t) c.args.toList) tm st nid K)) : QD P Q As o tm st nid K := by
 simp only [qop] at h
 split at h
 ·rename_i f caps ht
  split at h
  ·rename_i vs hm
   obtain ⟨cargs, r, hF, hl, ha, h⟩ := sat_call h
   obtain ⟨hi, h⟩ := bif_true h rfl
   exact ⟨_, _, q_callv ho hc ht hm hF hl ha (Nat.le_of_ble_eq_true hi), h⟩
  ·exact (no_bad h).elim
 ·exact (no_bad h).elim
end
end Go.V
namespace Go.V
open Go Go.RowKit
section
variable {P : Program} {Q : AV → Prop} {As : List (St → Prop)} {mu : Nat → Bool} {tm : List (Nat × AV)} {st : List (Nat × Blk)} {nid : Nat} {K : AV → List (Nat × Blk) → Tree} {o : Oper}
theorem comp_quiet0 {m : MOp} (hc : compOp0 P mu o.op = some m) (hm : isMut m = false) (hn : isNbin m = false) (hq : isLdc m = false) (h : Sat P Q As (qop m tm st nid K)) : QD P Q As o tm st nid K := by
 cases ho : o.op with
 | move x =>
   simp only [ho, compOp0, Option.some.injEq] at hc
   subst hc
   exact ⟨_, _, q_mv (.inl ho), h⟩
 | assign x =>
   simp only [ho, compOp0, Option.some.injEq] at hc
   subst hc
   exact ⟨_, _, q_mv (.inr ho), h⟩
 | pick c x y =>
   simp only [ho, compOp0, Option.some.injEq] at hc
   subst hc
   exact d_pick ho h
 | unOp u t x =>
   cases u <;> simp only [ho, compOp0, Option.some.injEq] at hc <;> first | (cases hc; done) | skip
   ·subst hc
    exact d_neg ho h
   ·subst hc
    exact d_not ho h
 | binOp op t x y t' =>
   simp only [ho, compOp0] at hc
   split at hc
   ·rename_i fs hu
    rw [Option.bind_eq_some_iff] at hc
    obtain ⟨ks, hk, hc⟩ := hc
    split at hc
    ·cases hc
     exact d_aeq (neg := false) ho rfl hu hk h
    ·cases hc
     exact d_aeq (neg := true) ho rfl hu hk h
    ·cases hc
   ·split at hc
    ·cases hc; exact d_bit ho h
    ·cases hc; exact d_bin ho h
   ·cases hc; exact d_bin ho h
   ·rename_i hu
    cases hc; exact d_bbin ho hu h
   ·cases hc; cases hn
   ·cases hc
 | box t x =>
   simp only [ho, compOp0, Option.some.injEq] at hc
   subst hc
   exact d_box ho h
 | alloc t =>
   simp only [ho, compOp0] at hc
   rw [Option.map_eq_some_iff] at hc
   obtain ⟨zs, hz, rfl⟩ := hc
   exact d_alloc ho hz h
 | fieldAddr s x f =>
   simp only [ho, compOp0] at hc
   rw [Option.bind_eq_some_iff] at hc
   obtain ⟨fd, hf, hc⟩ := hc
   split at hc
   ·cases hc
   ·rename_i hz
    cases hc
    exact d_fa ho hf hz h
 | indexAddr t x i =>
   simp only [ho, compOp0] at hc
   split at hc
   ·rename_i e he
    rw [Option.map_eq_some_iff] at hc
    obtain ⟨n, hn', rfl⟩ := hc
    exact d_ia ho he hn' h
   ·split at hc
    ·rename_i len e hu
     rw [Option.map_eq_some_iff] at hc
     obtain ⟨n, hn', rfl⟩ := hc
     exact d_iaa ho hu hn' h
    ·cases hc
 | index t x i =>
   simp only [ho, compOp0] at hc
   split at hc
   ·rename_i hu
    cases hc
    exact d_sidx ho hu h
   ·rename_i len e hu
    split at hc
    ·rename_i hh
     cases hc
     exact d_aidx ho hu hh.1 hh.2 h
    ·cases hc
   ·cases hc
 | load t x =>
   simp only [ho, compOp0] at hc
   rw [Option.bind_eq_some_iff] at hc
   obtain ⟨n, hn', hc⟩ := hc
   rw [Option.bind_eq_some_iff] at hc
   obtain ⟨g, hg, hc⟩ := hc
   split at hc
   ·cases hc
   ·rename_i h1
    split at hc
    ·cases hc; cases hq
    cases hc
    exact d_ld ho hn' hg (fun e => by
     by_cases hh : n = 1
     ·exact hh
     ·exact absurd ⟨e, hh⟩ h1) h
 | store t x y =>
   simp only [ho, compOp0] at hc
   rw [Option.bind_eq_some_iff] at hc
   obtain ⟨n, _, hc⟩ := hc
   split at hc
   ·cases hc
   ·split at hc
    ·cases hc; cases hm
    ·cases hc; cases hm
 | slice t x lo hi mx =>
   simp only [ho, compOp0] at hc
   split at hc
   ·rename_i e hu
    rw [Option.map_eq_some_iff] at hc
    obtain ⟨n, hn', rfl⟩ := hc
    exact d_slc ho hu hn' h
   ·rename_i hu
    cases hc
    exact d_sslc ho hu h
   ·cases hc
 | build t parts =>
   simp only [ho, compOp0] at hc
   split at hc
   ·rename_i fs hu
    rw [Option.bind_eq_some_iff] at hc
    obtain ⟨zs, hz, hc⟩ := hc
    rw [Option.bind_eq_some_iff] at hc
    obtain ⟨places, hp, hc⟩ := hc
    rw [Option.map_eq_some_iff] at hc
    obtain ⟨l, hl, rfl⟩ := hc
    exact d_bld ho hu hz hp hl h
   ·rename_i len e hu
    rw [Option.bind_eq_some_iff] at hc
    obtain ⟨zs, hz, hc⟩ := hc
    rw [Option.bind_eq_some_iff] at hc
    obtain ⟨n, hn', hc⟩ := hc
    cases hc
    exact d_blda ho hu hz hn' h
   ·cases hc
 | buildSlice t len parts =>
   simp only [ho, compOp0] at hc
   rw [Option.bind_eq_some_iff] at hc
   obtain ⟨e, he, hc⟩ := hc
   rw [Option.bind_eq_some_iff] at hc
   obtain ⟨n, hn', hc⟩ := hc
   rw [Option.bind_eq_some_iff] at hc
   obtain ⟨zs, hz, hc⟩ := hc
   split at hc
   ·rename_i hh
    cases hc
    exact d_bsl ho he hn' hz hh.1 hh.2.1 hh.2.2.1 hh.2.2.2.1 hh.2.2.2.2 h
   ·cases hc
 | makeSlice t l c =>
   simp only [ho, compOp0] at hc
   rw [Option.bind_eq_some_iff] at hc
   obtain ⟨e, he, hc⟩ := hc
   rw [Option.bind_eq_some_iff] at hc
   obtain ⟨i, hi, hc⟩ := hc
   rw [Option.bind_eq_some_iff] at hc
   obtain ⟨zs, hz, hc⟩ := hc
   split at hc
   ·rename_i hh
    cases hc
    exact d_mks ho he hi hz hh.1 hh.2.1 hh.2.2 h
   ·cases hc
 | convert src dst x =>
   simp only [ho, compOp0] at hc
   split at hc
   ·rename_i hs hd
    cases hc
    exact d_conv ho hs hd h
   ·rename_i e hs hd
    split at hc
    ·rename_i he
     cases hc
     exact d_cst ho hs he hd h
    ·cases hc
   ·cases hc
 | extract x i =>
   simp only [ho, compOp0, Option.some.injEq] at hc
   subst hc
   exact d_ext ho h
 | makeFunc f first caps =>
   cases f <;> simp only [ho, compOp0] at hc <;> first | (cases hc; done) | skip
   split at hc
   ·rename_i hf
    cases hc
    exact ⟨_, _, q_mkf ho hf, h⟩
   ·cases hc
 | nilCheck x =>
   simp only [ho, compOp0, Option.some.injEq] at hc
   subst hc
   exact d_nck ho h
 | call c =>
   simp only [ho, compOp0] at hc
   split at hc
   ·rename_i hcal
    split at hc
    ·rename_i t x ht ha
     split at hc
     ·rename_i e hu
      cases hc
      exact d_len ho hcal ht ha hu h
     ·rename_i hu
      cases hc
      exact d_slen ho hcal ht ha hu h
     ·cases hc
    ·cases hc
   ·rename_i hcal
    split at hc
    ·rename_i t x ht ha
     split at hc
     ·rename_i e hu
      cases hc
      exact d_cap ho hcal ht ha hu h
     ·cases hc
    ·cases hc
   ·rename_i hcal
    split at hc
    ·rename_i t x ht ha
     rw [Option.bind_eq_some_iff] at hc
     obtain ⟨e, he, hc⟩ := hc
     rw [Option.bind_eq_some_iff] at hc
     obtain ⟨zs, hz, hc⟩ := hc
     split at hc
     ·cases hc; cases hm
     ·cases hc
    ·cases hc
   ·rename_i hcal
    split at hc
    ·rename_i x y ha
     cases hc
     exact d_mx (m := true) ho hcal ha h
    ·cases hc
   ·rename_i hcal
    split at hc
    ·rename_i x y ha
     cases hc
     exact d_mx (m := false) ho hcal ha h
    ·cases hc
   ·rename_i hcal
    split at hc
    ·rename_i t u x y hat haa
     rw [Option.bind_eq_some_iff] at hc
     obtain ⟨e, he, hc⟩ := hc
     rw [Option.bind_eq_some_iff] at hc
     obtain ⟨i, hi, hc⟩ := hc
     rw [Option.bind_eq_some_iff] at hc
     obtain ⟨zs, hz, hc⟩ := hc
     split at hc
     ·split at hc
      ·cases hc; cases hm
      ·cases hc
     ·cases hc
    ·cases hc
   ·rename_i f hcal
    split at hc
    ·cases hc; cases hm
    split at hc
    ·split at hc
     ·cases hc; cases hm
     ·cases hc
    split at hc
    ·split at hc
     ·cases hc
     ·cases hc; cases hm
    split at hc
    ·split at hc
     ·cases hc; cases hm
     ·cases hc
    ·cases hc
     exact d_call ho hcal h
   ·rename_i t hcal
    cases hc
    exact d_callv ho hcal h
   ·cases hc
 | _ => simp only [ho, compOp0] at hc; cases hc
theorem compOp_of {op : Op} {m : MOp} (h : compOp P mu op = some m) : compOp0 P mu op = some m ∨ m = .no := by
 unfold compOp at h
 split at h
 ·rename_i m' e
  cases h
  exact .inl e
 ·split at h
  ·cases h; exact .inr rfl
  ·cases h
theorem comp_quiet {m : MOp} (hc : compOp P mu o.op = some m) (hm : isMut m = false) (hn : isNbin m = false) (hq : isLdc m = false) (h : Sat P Q As (qop m tm st nid K)) : QD P Q As o tm st nid K := by
 rcases compOp_of hc with hc | rfl
 ·exact comp_quiet0 hc hm hn hq h
 ·exact (no_bad h).elim
end
end Go.V
namespace Go.V
open Go Go.RowKit
theorem flat_nodup {F : Nat → List Nat} : ∀ {n : Nat}, (∀ i, i < n → (F i).Nodup) → (∀ i j, i < n → j < n → i ≠ j → ∀ g ∈ F i, g ∉ F j) → ((List.range n).flatMap F).Nodup := by
 intro n
 induction n with
 | zero => intro _ _; simp
 | succ n ih =>
   intro h1 h2
   rw [List.range_succ, List.flatMap_append, List.nodup_append]
   refine ⟨ih (fun i hi => h1 i (by omega)) (fun i j hi hj => h2 i j (by omega) (by omega)), by simpa using h1 n (by omega), fun a ha b hb e => ?_⟩
   obtain ⟨i, hi, ha⟩ := List.mem_flatMap.1 ha
   have hi := List.mem_range.1 hi
   simp only [List.flatMap_cons, List.flatMap_nil, List.append_nil] at hb
   exact h2 i n (by omega) (by omega) (by omega) a ha (e ▸ hb)
theorem ref_nodup {E : Env} {FP : Nat → List Nat} {b sz : Nat} {off n : Unit → Nat} {α : Type} {enc : α → Nat → AV} {xs : Unit → List α} {fx : Bool} {v : Value} (hG : Good E FP) (hb0 : E.st b = some (.row sz enc xs fx)) (h : Loc E (.ref b off n) v) :
 ∃ fp, Deep E.w (.sl sz enc (fun _ => ((xs ()).drop (off ())).take (n ()))) v fp ∧ fp.Nodup ∧ ∀ g ∈ fp, g ∈ E.own FP b := by
 cases h with
 | refl hb hr => rw [hb0] at hb; cases hb
 | ref hb hr =>
   rw [hb0] at hb
   cases hb
   obtain ⟨hle, hr⟩ := hr
   have r := hG.rep b _ hb0
   have hnd := hG.nodup b _ hb0
   have ho : E.own FP b = ownOf (E.at_ b) (FP b) := rfl
   rw [ho] at hnd ⊢
   generalize FP b = fp at r hnd
   cases r with
   | row0 ha hx =>
     rw [ha] at hr
     obtain ⟨A, rfl⟩ := hr
     exact ⟨[], .sl0 A (by rw [hx]; simp), List.nodup_nil, fun g hg => by cases hg⟩
   | @row _ _ _ _ _ g base cells t F ha hg hrr hc =>
     rw [ha] at hr hnd
     obtain ⟨A, cap, cs, t', rfl, hn, hg', hcap⟩ := hr
     rw [hg] at hg'
     cases hg'
     have hlen : (((xs ()).drop (off ())).take (n ())).length = n () := by rw [List.length_take, List.length_drop]; omega
     rcases hcap with rfl | ⟨rfl, hsz⟩
     ·have : n () = 0 := by omega
      refine ⟨[], ?_, List.nodup_nil, fun g hg => by cases hg⟩
      rw [this]
      exact .sl0 A (by simp)
     ·have at' : ∀ i x, (((xs ()).drop (off ())).take (n ()))[i]? = some x → ∀ j, j < sz → ∃ u, cells[base + off () * sz + i * sz + j]? = some u ∧ Deep E.w (enc x j) u (F (off () + i) j) := fun i x hx j hj => by
       have hi : i < n () := by have := lt_of_get hx; omega
       rw [List.getElem?_take, if_pos hi, List.getElem?_drop] at hx
       obtain ⟨u, hu, hd⟩ := hc _ x hx j hj
       rw [Nat.add_mul] at hu
       exact ⟨u, by rw [show base + off () * sz + i * sz + j = base + (off () * sz + i * sz) + j by omega]; exact hu, hd⟩
      have d := Deep.sl (w := E.w) (sz := sz) (enc := enc) (xs := fun _ => ((xs ()).drop (off ())).take (n ())) (g := g) (off := base + off () * sz) (cap := cap) (cs := cells) (t := t) (fr := (0, 0))
       (fun i j => cells.getD (base + off () * sz + i * sz + j) undef) (fun i j => F (off () + i) j) (by simp only [hlen]; exact hn) hg (by rw [Nat.add_mul] at hsz; omega)
       (fun i x hx j hj => by
         obtain ⟨u, hu, _⟩ := at' i x hx j hj
         rw [Array.getD_eq_getD_getElem?, hu]
         rfl)
       (fun i x hx j hj => by
         obtain ⟨u, hu, hd⟩ := at' i x hx j hj
         rw [Array.getD_eq_getD_getElem?, hu]
         exact hd)
      simp only [hlen] at d
      have sub : ∀ q, q ∈ ((List.range (n ())).flatMap fun i => (List.range sz).flatMap (F (off () + i))) → q ∈ (List.range (xs ()).length).flatMap fun i => (List.range sz).flatMap (F i) := fun q hq => by
       obtain ⟨i, hi, hq⟩ := List.mem_flatMap.1 hq
       have := List.mem_range.1 hi
       exact mem_flat (F := fun i => (List.range sz).flatMap (F i)) (i := off () + i) (by omega) hq
      obtain ⟨n1, n2⟩ := List.nodup_cons.1 hnd
      obtain ⟨n3, n4⟩ := nodup_flat n2
      refine ⟨_, d, List.nodup_cons.2 ⟨fun hm => n1 (sub g hm), flat_nodup (fun i hi => n3 (off () + i) (by omega)) (fun i j hi hj hne => n4 (off () + i) (off () + j) (by omega) (by omega) (by omega))⟩, fun q hq => ?_⟩
      rw [ha]
      rcases List.mem_cons.1 hq with rfl | hq
      ·exact List.mem_cons_self ..
      ·exact List.mem_cons_of_mem _ (sub q hq)
structure Out (E : Env) (FP : Nat → List Nat) (st st' : List (Nat × Blk)) (fp : List Nat) : Prop where
 nodup : fp.Nodup
 from_ : ∀ g ∈ fp, ∃ b, look b st ≠ none ∧ look b st' = none ∧ g ∈ E.own FP b
 sub : ∀ b k, look b st' = some k → look b st = some k
theorem Out.nil {E : Env} {FP : Nat → List Nat} {st : List (Nat × Blk)} : Out E FP st st [] := ⟨List.nodup_nil, fun g hg => (by cases hg), fun _ _ h => h⟩
def ExpOk (exp : List (Nat × Blk) → AV → Option (AV × List (Nat × Blk))) : Prop := ∀ (E : Env) (FP : Nat → List Nat) (st st' : List (Nat × Blk)) (x y : AV) (v : Value), Good E FP → (∀ b k, look b st = some k → E.st b = some k) → exp st x = some (y, st') → Loc E x v →
 ∃ fp, Deep E.w y v fp ∧ Out E FP st st' fp
theorem expL_ok {exp : List (Nat × Blk) → AV → Option (AV × List (Nat × Blk))} (hexp : ExpOk exp) {E : Env} {FP : Nat → List Nat} (hG : Good E FP) : ∀ (l ys : List AV) (st st' : List (Nat × Blk)) (f : Nat → Value), (∀ b k, look b st = some k → E.st b = some k) →
 expL exp st l = some (ys, st') → (∀ i x, l[i]? = some x → Loc E x (f i)) →
 ys.length = l.length ∧ ∃ F : Nat → List Nat, (∀ i y, ys[i]? = some y → Deep E.w y (f i) (F i)) ∧ (∀ i, i < l.length → (F i).Nodup) ∧ (∀ i j, i < l.length → j < l.length → i ≠ j → ∀ g ∈ F i, g ∉ F j) ∧
  (∀ i, i < l.length → ∀ g ∈ F i, ∃ b, look b st ≠ none ∧ look b st' = none ∧ g ∈ E.own FP b) ∧ ∀ b k, look b st' = some k → look b st = some k
 | [], ys, st, st', f, hst, h, _ => by
   simp only [expL, Option.some.injEq, Prod.mk.injEq] at h
   obtain ⟨rfl, rfl⟩ := h
   exact ⟨rfl, fun _ => [], fun i y hy => by simp at hy, fun i hi => by simp at hi, fun i j hi => by simp at hi, fun i hi => by simp at hi, fun _ _ h => h⟩
 | x :: l, ys, st, st', f, hst, h, hl => by
   rw [expL] at h
   split at h
   ·rename_i a ha
    split at h
    ·rename_i b hb
     simp only [Option.some.injEq, Prod.mk.injEq] at h
     obtain ⟨rfl, rfl⟩ := h
     obtain ⟨a1, a2⟩ := a
     obtain ⟨b1, b2⟩ := b
     obtain ⟨fp, hd, ho⟩ := hexp E FP st a2 x a1 (f 0) hG hst ha (hl 0 x rfl)
     obtain ⟨e1, F, e2, e3, e4, e5, e6⟩ := expL_ok hexp hG l b1 a2 b2 (fun i => f (i + 1)) (fun b k hb => hst b k (ho.sub b k hb)) hb (fun i x hx => hl (i + 1) x (by simpa using hx))
     have gone : ∀ g ∈ fp, ∀ i, i < l.length → g ∉ F i := fun g hg i hi hg' => by
      obtain ⟨c, c1, c2, c3⟩ := ho.from_ g hg
      obtain ⟨c', c1', c2', c3'⟩ := e5 i hi g hg'
      have hne : c ≠ c' := fun e => by subst e; exact c1' c2
      cases q : look c st with
      | none => exact c1 q
      | some k =>
        cases q' : look c' a2 with
        | none => exact c1' q'
        | some k' => exact hG.apart c c' k k' (hst c k q) (hst c' k' (ho.sub c' k' q')) hne g c3 c3'
     have b2none : ∀ b, look b a2 = none → look b b2 = none := fun b hb => by
      cases q : look b b2 with
      | none => rfl
      | some k => rw [e6 b k q] at hb; cases hb
     refine ⟨by simp [e1], fun i => match i with | 0 => fp | i + 1 => F i, fun i y hy => ?_, fun i hi => ?_, fun i j hi hj hne g hg => ?_, fun i hi g hg => ?_, fun b k hb => ho.sub b k (e6 b k hb)⟩
     ·cases i with
      | zero => simp at hy; subst hy; exact hd
      | succ i => exact e2 i y (by simpa using hy)
     ·cases i with
      | zero => exact ho.nodup
      | succ i => exact e3 i (by simpa using hi)
     ·cases i with
      | zero =>
        cases j with
        | zero => exact absurd rfl hne
        | succ j => exact gone g hg j (by simpa using hj)
      | succ i =>
        cases j with
        | zero => exact fun hg' => gone g hg' i (by simpa using hi) hg
        | succ j => exact e4 i j (by simpa using hi) (by simpa using hj) (by omega) g hg
     ·cases i with
      | zero =>
        obtain ⟨c, c1, c2, c3⟩ := ho.from_ g hg
        exact ⟨c, c1, b2none c c2, c3⟩
      | succ i =>
        obtain ⟨c, c1, c2, c3⟩ := e5 i (by simpa using hi) g hg
        refine ⟨c, fun hn => ?_, c2, c3⟩
        cases q : look c a2 with
        | none => exact c1 q
        | some k => rw [ho.sub c k q] at hn; cases hn
    ·cases h
   ·cases h
theorem exp_ok : ∀ d, ExpOk (exp d) := by
 have ref : ∀ (E : Env) (FP : Nat → List Nat) (st st' : List (Nat × Blk)) (b : Nat) (off n : Unit → Nat) (y : AV) (v : Value), Good E FP → (∀ b k, look b st = some k → E.st b = some k) →
  (match look b st with | some (.row sz enc xs false) => some (AV.sl sz enc (fun _ => ((xs ()).drop (off ())).take (n ())), drop_ b st) | _ => none) = some (y, st') → Loc E (.ref b off n) v → ∃ fp, Deep E.w y v fp ∧ Out E FP st st' fp := by
  intro E FP st st' b off n y v hG hst h hl
  split at h
  ·rename_i sz enc xs hb
   simp only [Option.some.injEq, Prod.mk.injEq] at h
   obtain ⟨rfl, rfl⟩ := h
   obtain ⟨fp, hd, hn, hs⟩ := ref_nodup hG (hst b _ hb) hl
   refine ⟨fp, hd, hn, fun g hg => ⟨b, (by rw [hb]; exact fun h => by cases h), (by rw [look_drop, beq_self]; rfl), hs g hg⟩, fun c k hc => ?_⟩
   rw [look_drop] at hc
   cases e : Nat.beq b c with
   | true => rw [e] at hc; cases hc
   | false => rw [e] at hc; exact hc
  ·cases h
 intro d
 induction d with
 | zero =>
   intro E FP st st' x y v hG hst h hl
   cases x <;> first
    | (simp only [exp, Option.some.injEq, Prod.mk.injEq] at h; obtain ⟨rfl, rfl⟩ := h; first
        | (rw [hl.int_inv]; exact ⟨_, .int _ _, .nil⟩)
        | (rw [hl.bo_inv]; exact ⟨_, .bo _, .nil⟩)
        | (rw [hl.str_inv]; exact ⟨_, .str _, .nil⟩)
        | (rw [hl.nil_inv]; exact ⟨_, .nil, .nil⟩)
        | (obtain ⟨A, rfl⟩ := hl.emp_inv; exact ⟨_, .emp A, .nil⟩))
    | exact ref E FP st st' _ _ _ y v hG hst h hl
    | (simp [exp] at h; done)
 | succ d ih =>
   intro E FP st st' x y v hG hst h hl
   cases x with
   | agg cs =>
     simp only [exp] at h
     split at h
     ·rename_i a ha
      simp only [Option.some.injEq, Prod.mk.injEq] at h
      obtain ⟨rfl, rfl⟩ := h
      obtain ⟨us, rfl, hs, hd⟩ := hl.agg_inv
      obtain ⟨e1, F, e2, e3, e4, e5, e6⟩ := expL_ok ih hG cs a.1 st a.2 (fun i => us.getD i undef) hst ha hd
      refine ⟨_, .agg F (by omega) e2, ?_, fun g hg => ?_, e6⟩
      ·rw [e1]; exact flat_nodup e3 e4
      ·obtain ⟨i, hi, hg⟩ := List.mem_flatMap.1 hg
       have := List.mem_range.1 hi
       exact e5 i (by omega) g hg
     ·cases h
   | tup cs =>
     simp only [exp] at h
     split at h
     ·rename_i a ha
      simp only [Option.some.injEq, Prod.mk.injEq] at h
      obtain ⟨rfl, rfl⟩ := h
      obtain ⟨us, rfl, hs, hd⟩ := hl.tup_inv
      obtain ⟨e1, F, e2, e3, e4, e5, e6⟩ := expL_ok ih hG cs a.1 st a.2 (fun i => us.getD i undef) hst ha hd
      refine ⟨_, .tup F (by omega) e2, ?_, fun g hg => ?_, e6⟩
      ·rw [e1]; exact flat_nodup e3 e4
      ·obtain ⟨i, hi, hg⟩ := List.mem_flatMap.1 hg
       have := List.mem_range.1 hi
       exact e5 i (by omega) g hg
     ·cases h
   | _ => first
     | (simp only [exp, Option.some.injEq, Prod.mk.injEq] at h; obtain ⟨rfl, rfl⟩ := h; first
         | (rw [hl.int_inv]; exact ⟨_, .int _ _, .nil⟩)
         | (rw [hl.bo_inv]; exact ⟨_, .bo _, .nil⟩)
         | (rw [hl.str_inv]; exact ⟨_, .str _, .nil⟩)
         | (rw [hl.nil_inv]; exact ⟨_, .nil, .nil⟩)
         | (obtain ⟨A, rfl⟩ := hl.emp_inv; exact ⟨_, .emp A, .nil⟩))
     | exact ref E FP st st' _ _ _ y v hG hst h hl
     | (simp [exp] at h; done)
end Go.V
namespace Go.V
open Go Go.RowKit
section
variable {P : Program} {Q : AV → Prop} {As : List (St → Prop)} {mu : Nat → Bool} {nid : Nat} {o : Oper}
def MD (P : Program) (Q : AV → Prop) (As : List (St → Prop)) (o : Oper) (s : St) (nid : Nat) (K : AV → St → Tree) (w0 : Base) (N : Nat) (a : Act) (w : World) : Prop :=
 Does P o a w (fun u w' => ∃ v s', Sat P Q As (K v s') ∧ s'.nx = s.nx ∧ (∀ b k, look b s'.st = some k → b < nid + 16) ∧
  ∃ at_ FP, Here w0 N s'.tm (fun b => look b s'.st) a w' at_ FP ∧ Loc ⟨w0, w', at_, fun b => look b s'.st⟩ v u)
theorem setCells_wrote (g : Nat) (t : TypeId) : ∀ (vs : List Value) (n : Nat) (w : World) (cells : Array Value), w.heap[g]? = some (.cells cells t (0, 0)) → n + vs.length ≤ cells.size →
 ∃ cells', Wrote w (w.setCells g n vs) g cells' t ∧ cells'.size = cells.size ∧ ∀ q, cells'[q]? = if n ≤ q ∧ q < n + vs.length then vs[q - n]? else cells[q]?
 | [], n, w, cells, hg, _ => ⟨cells, ⟨rfl, rfl, rfl, rfl, hg, fun _ _ => rfl⟩, rfl, fun q => by rw [if_neg (by simp only [List.length_nil]; omega)]⟩
 | v :: r, n, w, cells, hg, hn => by
   have hn' : n + (r.length + 1) ≤ cells.size := by simpa using hn
   obtain ⟨cells', hw, hs, hc⟩ := setCells_wrote g t r (n + 1) (w.setCell ⟨g, n, none⟩ v) (cells.setIfInBounds n v) (heap_setCell_same w g n cells t v hg) (by simp; omega)
   refine ⟨cells', ⟨hw.os, hw.tape, hw.output, ?_, hw.here, fun k hk => (hw.else_ k hk).trans (heap_setCell_other w _ k v hk)⟩, by simpa using hs, fun q => ?_⟩
   ·have := hw.size
    rw [show (w.setCells g n (v :: r)) = (w.setCell ⟨g, n, none⟩ v).setCells g (n + 1) r from rfl, this]
    simp [World.setCell]
   ·rw [hc, Array.getElem?_setIfInBounds]
    by_cases h1 : n + 1 ≤ q ∧ q < n + 1 + r.length
    ·rw [if_pos h1, if_pos (by simp; omega), show q - n = (q - (n + 1)) + 1 by omega]
     simp
    ·rw [if_neg h1]
     by_cases h2 : n = q
     ·subst h2
      rw [if_pos rfl, if_pos (by omega), if_pos (by simp)]
      simp
     ·rw [if_neg h2, if_neg (by simp; omega)]
theorem store_run {t : TypeId} {n : Nat} {v : Value} {g off : Nat} {cells : Array Value} {ty : TypeId} {w : World} (hn : sizeOf? P t = some n) (hv : v.cells.size = n) (h1 : ∀ u ∈ v.cells.toList, u.oneCell' = true) (hg : w.heap[g]? = some (.cells cells ty (0, 0))) (hr : off + n ≤ cells.size) :
 (Instr.storeAt t (.pointer (some ⟨g, off, none⟩)) v).run P w = .ok () (w.setCells g off v.cells.toList) := by
 have hc : ∀ j, j < v.cells.toList.length → (w.cell? ⟨g, off + 0 + j, none⟩).isSome = true := fun j hj => by
  have : off + j < cells.size := by simp at hj; omega
  rw [cell_of hg, Nat.add_zero]
  simp [this]
 have := run_storeCells_cells (P := P) g off v.cells.toList 0 w hc (fun j hj => frozen_of_row w g _ cells ty hg) h1
 simp only [Instr.storeAt, Instr.sureAddr, Sem.run_bind, Sem.run_pure, Result.andThen_ok, storeVar, sizeOf_run hn, hv, ne_eq, not_true_eq_false, if_false]
 exact this
theorem cellsOf_one {E : Env} {x : AV} {v : Value} (h : Loc E x v) (hc : (cellsOf x).all cellOk = true) : ∀ u ∈ v.cells.toList, u.oneCell' = true := by
 obtain ⟨hl, hd⟩ := h.cells hc
 intro u hu
 obtain ⟨i, hi⟩ := List.getElem?_of_mem hu
 have hi' : v.cells[i]? = some u := by simpa using hi
 have hlt := (Array.getElem?_eq_some_iff.1 hi').1
 obtain ⟨u', hu', _, h1⟩ := hd i _ (List.getElem?_eq_getElem (by omega))
 rw [hi'] at hu'
 cases hu'
 exact h1
theorem setB_look {b : Nat} {k k0 : Blk} {st : List (Nat × Blk)} (h : look b st = some k0) : (fun c => look c (setB b k st)) = upd (fun c => look c st) b (some k) := by
 funext c
 rw [look_setB]
 unfold upd
 cases e : Nat.beq b c with
 | true =>
   have := Nat.eq_of_beq_eq_true e
   subst this
   rw [if_pos rfl, h]
   rfl
 | false => rw [if_neg (fun h => by subst h; rw [Nat.beq_refl] at e; cases e)]; rfl
theorem flatS_loc {E : Env} {x : AV} {v : Value} {A : Option Addr} {n c : Nat} (hf : flatS x = true) (h : Loc E x v) : v ≠ .slice A n c := by
 cases h <;> first | (intro h; cases h; done) | (cases hf)
theorem m_sto_ptr {t : TypeId} {x y : Operand} {n b j sz : Nat} {cs : List AV} {s : St} {K : AV → St → Tree} {w0 : Base} {w : World} {N : Nat} {a : Act} (ho : o.op = .store t x y) (hn : sizeOf? P t = some n) (h0 : 0 < n) (hx : ev s.tm x = .ptr b j) (hb : look b s.st = some (.lit sz cs))
 (h1 : (cellsOf (ev s.tm y)).length = n) (h2 : j + n ≤ cs.length) (h3 : (cellsOf (ev s.tm y)).all cellOk = true) (h99 : sz = 99 → (cellsOf (ev s.tm y)).all flatS = true) (h : Sat P Q As (K .undef { s with st := setB b (.lit sz (fillC cs j (cellsOf (ev s.tm y)))) s.st }))
 (hr : Rel w0 N s.tm (fun b => look b s.st) a w) (hfr : ∀ b k, look b s.st = some k → b < nid) : MD P Q As o s nid K w0 N a w := by
 obtain ⟨at_, FP, hh⟩ := hr
 have hx1 := hh.ev x
 rw [hx] at hx1
 obtain ⟨sz', cs', g, base, hb', ha, he⟩ := hx1.ptr_inv
 rw [show (⟨w0, w, at_, fun b => look b s.st⟩ : Env).st b = _ from hb] at hb'
 cases hb'
 have ha' : at_ b = some (g, base) := ha
 have hy := hh.ev y
 obtain ⟨l1, l2⟩ := hy.cells h3
 have r := hh.good.rep b _ hb
 have hFP : FP b = [] := by
  generalize FP b = fp at r
  cases r; rfl
 rw [hFP] at r
 cases r with
 | @lit _ _ _ _ cells ty ha2 hg hc =>
   rw [ha] at ha2
   cases ha2
   have hlen : ∀ q z, cs[q]? = some z → base + q < cells.size := fun q z hq => by
    obtain ⟨u, hu, _⟩ := hc q z hq
    exact (Array.getElem?_eq_some_iff.1 hu).1
   have hsize : base + j + n ≤ cells.size := by
    have := hlen (j + n - 1) _ (List.getElem?_eq_getElem (by omega))
    omega
   have hgw : w.heap[g]? = some (.cells cells ty (0, 0)) := hg
   have hrun := store_run (P := P) (t := t) (n := n) (v := a.eval y) (off := base + j) hn (by omega) (cellsOf_one hy h3) hgw hsize
   obtain ⟨cells', hw, hs, hcells⟩ := setCells_wrote g ty (a.eval y).cells.toList (base + j) w cells hgw (by simp; omega)
   have hh2 := hh.write (blk' := .lit sz (fillC cs j (cellsOf (ev s.tm y)))) (fp := []) (cells' := cells') hb ha' hgw hw hs (.lit (by rw [fillC_length (by omega)])) (fun mv => by
    refine .lit (g := g) (base := base) (cells := cells') (t := ty) ha hw.here (fun q z hq => ?_)
    rw [fillC_get (by omega)] at hq
    rw [hcells]
    by_cases hin : j ≤ q ∧ q < j + (cellsOf (ev s.tm y)).length
    ·rw [if_pos hin] at hq
     obtain ⟨u, hu, hl, _⟩ := l2 _ z hq
     rw [if_pos (by simp; omega), show base + q - (base + j) = q - j by omega]
     exact ⟨u, by simpa using hu, mv z u hl⟩
    ·rw [if_neg hin] at hq
     obtain ⟨u, hu, hl⟩ := hc q z hq
     rw [if_neg (by simp; omega)]
     exact ⟨u, hu, mv z u hl⟩) (by simp) (fun q hq => by cases hq) (fun q hq => by cases hq) (fun c k _ _ q hq => by cases hq) (hh.nopin (fun α sz' enc xs h => by have h : look b s.st = _ := h; rw [hb] at h; cases h)) (fun q hq => by
    obtain ⟨_, _, cs9, h9⟩ := hh.good.rt.lits b q hq
    have h9 : look b s.st = some (.lit 99 cs9) := h9
    rw [hb] at h9
    cases h9
    have hfl := h99 rfl
    intro cs' t' hcs'
    rw [hw.here] at hcs'
    cases hcs'
    refine ⟨cells, hgw, fun k A n' c' hk => ?_⟩
    rw [hcells] at hk
    split at hk
    ·rename_i hin'
     exfalso
     have hq1 : k - (base + j) < (cellsOf (ev s.tm y)).length := by simp at hin'; omega
     obtain ⟨u, hu, hl, _⟩ := l2 _ _ (List.getElem?_eq_getElem hq1)
     have hk' : (a.eval y).cells[k - (base + j)]? = some (.slice A n' c') := by simpa using hk
     rw [hu] at hk'
     exact flatS_loc (List.all_eq_true.1 hfl _ (List.getElem_mem hq1)) hl (Option.some.inj hk')
    ·exact hk)
   refine .inl ⟨undef, w.setCells g (base + j) (a.eval y).cells.toList, .inr ⟨?_, rfl⟩, .undef, _, h, rfl, fun c k hc => ?_, at_, upd FP b [], ?_, .undef⟩
   ·simp only [execOp, ho, he]
    rw [Sem.run_bind, hrun]
    rfl
   ·have : look c (setB b (.lit sz (fillC cs j (cellsOf (ev s.tm y)))) s.st) = some k := hc
    rw [look_setB] at this
    cases e : Nat.beq b c with
    | true =>
      have hbc := Nat.eq_of_beq_eq_true e
      subst hbc
      have := hfr b _ hb
      omega
    | false => rw [e] at this; have := hfr c k this; omega
   ·show Here w0 N s.tm (fun c => look c (setB b (.lit sz (fillC cs j (cellsOf (ev s.tm y)))) s.st)) a _ at_ _
    rw [setB_look hb]
    exact hh2
end
end Go.V
