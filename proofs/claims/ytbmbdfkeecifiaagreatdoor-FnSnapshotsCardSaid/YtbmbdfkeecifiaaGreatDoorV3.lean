/- A theory of its own: Go code in short, evaluated, with proof that the machine does what the evaluation tells. Conditions: those that each theorem states. Part 3. -/
import Derived.Test.YtbmbdfkeecifiaaGreatDoorV2
import Derived.Deep.AppendSrc
import Derived.Laws.AppendOwn
set_option linter.unusedVariables false
set_option linter.unusedSimpArgs false
namespace Go.V
open Go Go.RowKit
def scrubK (k : Nat → Bool) : Blk → Blk
 | .lit sz cs => .lit sz (scrubL k cs)
 | .row sz enc xs fx => .row sz enc xs fx
theorem scrubB_eq {k : Nat → Bool} {p : Nat × Blk} : scrubB k p = (p.1, scrubK k p.2) := by
 obtain ⟨i, q⟩ := p
 cases q <;> rfl
theorem look_scrub {k : Nat → Bool} {b : Nat} : ∀ {l : List (Nat × Blk)}, look b (l.map (scrubB k)) = (look b l).map (scrubK k)
 | [] => rfl
 | p :: r => by
   rw [List.map_cons, scrubB_eq, look, look, look_scrub]
   cases Nat.beq p.1 b <;> rfl
theorem slot_scrub {k : Nat → Bool} {t : Nat} : ∀ {tm : List (Nat × AV)}, slot t (scrubT k tm) = scrub k (slot t tm)
 | [] => by simp [scrubT, slot, scrub]
 | p :: r => by
   rw [scrubT, slot, slot, slot_scrub]
   cases Nat.beq p.1 t <;> rfl
theorem scrub_alike {k : Nat → Bool} (q : Blk) : Alike q (scrubK k q) := by
 cases q with
 | lit sz cs => exact .lit (by rw [scrubL_map, List.length_map])
 | row => exact .row rfl
theorem Here.congr {w0 : Base} {N : Nat} {tm tm' : List (Nat × AV)} {st st' : Nat → Option Blk} {a : Act} {w : World} {at_ : Nat → Option (Nat × Nat)} {FP : Nat → List Nat} (h : Here w0 N tm st a w at_ FP) (ht : ∀ t, slot t tm = slot t tm') (hs : ∀ b, st b = st' b) : Here w0 N tm' st' a w at_ FP := by
 obtain rfl : st = st' := funext hs
 exact ⟨h.good, h.defers, h.size, fun t => by rw [← ht]; exact h.loc t⟩
theorem flatS_no {w : World} {x : AV} {v : Value} {fp : List Nat} {A : Option Addr} {n c : Nat} (hf : flatS x = true) (h : Deep w x v fp) : v ≠ .slice A n c := by
 cases h <;> first | (intro h; cases h; done) | (cases hf)
theorem Here.rebuild {w0 : Base} {w w' : World} {N : Nat} {tm : List (Nat × AV)} {st st' : Nat → Option Blk} {a : Act} {at_ at' : Nat → Option (Nat × Nat)} {FP : Nat → List Nat} {b : Nat} {blk' : Blk} {fp' : List Nat} {gone : Nat → Bool}
 (h : Here w0 N tm st a w at_ FP) (hbel : Mod w0 w w') (hst : ∀ c, c ≠ b → st' c = if gone c = true then none else (st c).map (scrubK gone)) (hb' : st' b = some blk') (hat : ∀ c, c ≠ b → at' c = at_ c)
 (hstay : gone b = false → ∀ blk, st b = some blk → Stays ⟨w0, w, at_, st⟩ ⟨w0, w', at', st'⟩ b blk)
 (hkeep : ∀ c k, c ≠ b → gone c = false → st c = some k → ∀ g ∈ (⟨w0, w, at_, st⟩ : Env).own FP c, w'.heap[g]? = w.heap[g]?)
 (hrep : (∀ x v, Loc ⟨w0, w, at_, st⟩ x v → Loc ⟨w0, w', at', st'⟩ (scrub gone x) v) → BlkRep ⟨w0, w', at', st'⟩ b blk' fp') (hnd : (ownOf (at' b) fp').Nodup)
 (hown : ∀ q ∈ ownOf (at' b) fp', w0.free q ∧ Fresh w' q ∧ ∀ c k, c ≠ b → gone c = false → st c = some k → q ∉ (⟨w0, w, at_, st⟩ : Env).own FP c)
 (hpin : ∀ c p, w0.pin c = some p → (c ≠ b ∧ gone c = false) ∨ (c = b ∧ at' b = at_ b ∧ fp' = FP b ∧ (∀ g base, at_ b = some (g, base) → Heads w w' g) ∧ ∃ (α : Type) (enc : α → Nat → AV) (xs : Unit → List α), blk' = .row p.sz enc xs true ∧ (xs ()).length = p.len)) (hhot : ∀ g base, at' b = some (g, base) → w0.hot g) (hlit : ∀ c cs, st c = some (.lit 99 cs) → c ≠ b ∧ gone c = false) (hfxp : notFx blk' = true ∨ (∃ p, w0.pin b = some p) ∧ (∀ cs, blk' ≠ .lit 99 cs) := by exact .inl rfl) :
 Here w0 N (scrubT gone tm) st' a w' at' (upd FP b fp') ∧ ∀ x v, Loc ⟨w0, w, at_, st⟩ x v → Loc ⟨w0, w', at', st'⟩ (scrub gone x) v := by
 have split : ∀ c k, st' c = some k → (c = b ∧ k = blk') ∨ (c ≠ b ∧ gone c = false ∧ ∃ k0, st c = some k0 ∧ k = scrubK gone k0) := fun c k hc => by
  by_cases e : c = b
  ·subst e
   rw [hb'] at hc
   exact .inl ⟨rfl, (Option.some.inj hc).symm⟩
  ·rw [hst c e] at hc
   split at hc
   ·cases hc
   ·rename_i hg
    rw [Option.map_eq_some_iff] at hc
    obtain ⟨k0, h0, rfl⟩ := hc
    exact .inr ⟨e, by simpa using hg, k0, h0, rfl⟩
 have hs : ∀ c k, gone c = false → (⟨w0, w, at_, st⟩ : Env).st c = some k → Stays ⟨w0, w, at_, st⟩ ⟨w0, w', at', st'⟩ c k := fun c k hg hc => by
  have hc' : st c = some k := hc
  by_cases e : c = b
  ·subst e; exact hstay hg k hc'
  ·refine ⟨⟨scrubK gone k, ?_, scrub_alike k⟩, hat c e, fun g base cs t ha hgg => ⟨cs, ?_, rfl⟩⟩
   ·show st' c = _
    rw [hst c e, if_neg (by rw [hg]; exact fun h => by cases h), hc']
    rfl
   ·have ha' : at_ c = some (g, base) := ha
    rw [hkeep c k e hg hc' g (by show g ∈ ownOf (at_ c) (FP c); rw [ha']; exact List.mem_cons_self ..)]
    exact hgg
 have mv : ∀ x v, Loc ⟨w0, w, at_, st⟩ x v → Loc ⟨w0, w', at', st'⟩ (scrub gone x) v := fun x v hx => hx.scrubbed rfl hs
 have own_b : (⟨w0, w', at', st'⟩ : Env).own (upd FP b fp') b = ownOf (at' b) fp' := by
  show ownOf (at' b) (upd FP b fp' b) = _
  rw [upd_self]
 have own_c : ∀ c, c ≠ b → (⟨w0, w', at', st'⟩ : Env).own (upd FP b fp') c = (⟨w0, w, at_, st⟩ : Env).own FP c := fun c hc => by
  show ownOf (at' c) (upd FP b fp' c) = ownOf (at_ c) (FP c)
  rw [upd_ne _ _ hc, hat c hc]
 refine ⟨⟨⟨h.good.below.mod hbel, fun c k hc => ?_, fun c k hc => ?_, fun c k hc => ?_, fun c c' k k' hc hc' hne => ?_, fun c k hc => ?_, fun c p hp => ?_, fun c β sz' enc' xs' hc => ?_, ⟨fun c k hc g base hg => ?_, fun c q hq => ?_, fun c cs hc => ?_⟩⟩, h.defers, h.size, fun t => ?_⟩, mv⟩
 ·rcases split c k hc with ⟨rfl, rfl⟩ | ⟨e, hg, k0, h0, rfl⟩
  ·rw [upd_self]; exact hrep mv
  ·rw [upd_ne _ _ e]
   have r := h.good.rep c k0 h0
   have keep : ∀ g base, at_ c = some (g, base) → w'.heap[g]? = w.heap[g]? := fun g base ha => hkeep c k0 e hg h0 g (by show g ∈ ownOf (at_ c) (FP c); rw [ha]; exact List.mem_cons_self ..)
   have keepF : ∀ g base, at_ c = some (g, base) → ∀ q ∈ FP c, w'.heap[q]? = w.heap[q]? := fun g base ha q hq => hkeep c k0 e hg h0 q (by show q ∈ ownOf (at_ c) (FP c); rw [ha]; exact List.mem_cons_of_mem _ hq)
   generalize FP c = fp at r keepF
   cases r with
   | lit ha hgg hcc =>
     refine .lit ((hat c e).trans ha) ((keep _ _ ha).trans hgg) (fun j x hx => ?_)
     rw [scrubL_map, List.getElem?_map, Option.map_eq_some_iff] at hx
     obtain ⟨y, hy, rfl⟩ := hx
     obtain ⟨u, hu, hl⟩ := hcc j y hy
     exact ⟨u, hu, mv y u hl⟩
   | row0 ha hx => exact .row0 ((hat c e).trans ha) hx
   | row F ha hgg hr hcc =>
     refine .row F ((hat c e).trans ha) ((keep _ _ ha).trans hgg) hr (fun i x hx j hj => ?_)
     obtain ⟨u, hu, hd⟩ := hcc i x hx j hj
     exact ⟨u, hu, hd.keep (fun q hq => keepF _ _ ha q (mem_flat (lt_of_get hx) (mem_flat hj hq)))⟩
 ·rcases split c k hc with ⟨rfl, rfl⟩ | ⟨e, hg, k0, h0, rfl⟩
  ·rw [own_b]; exact hnd
  ·rw [own_c c e]; exact h.good.nodup c k0 h0
 ·rcases split c k hc with ⟨rfl, rfl⟩ | ⟨e, hg, k0, h0, rfl⟩
  ·rw [own_b]; exact fun q hq => (hown q hq).1
  ·rw [own_c c e]; exact h.good.base c k0 h0
 ·rcases split c k hc with ⟨e, rfl⟩ | ⟨e, hg, k0, h0, rfl⟩
  ·rcases split c' k' hc' with ⟨e', rfl⟩ | ⟨e', hg', k0', h0', rfl⟩
   ·exact absurd (e.trans e'.symm) hne
   ·rw [e, own_b, own_c c' e']
    exact fun q hq => (hown q hq).2.2 c' k0' e' hg' h0'
  ·rcases split c' k' hc' with ⟨e', rfl⟩ | ⟨e', hg', k0', h0', rfl⟩
   ·rw [e', own_b, own_c c e]
    exact fun q hq hq' => (hown q hq').2.2 c k0 e hg h0 hq
   ·rw [own_c c e, own_c c' e']; exact h.good.apart c c' k0 k0' h0 h0' hne
 ·rcases split c k hc with ⟨rfl, rfl⟩ | ⟨e, hg, k0, h0, rfl⟩
  ·rw [own_b]; exact fun q hq => (hown q hq).2.1
  ·rw [own_c c e]
   intro q hq
   obtain ⟨cs, t, hcs⟩ := h.good.fresh c k0 h0 q hq
   exact ⟨cs, t, (hkeep c k0 e hg h0 q hq).trans hcs⟩
 ·obtain ⟨p1, p2, ph, α, enc, xs, p3, p4⟩ := h.good.pins c p hp
  rcases hpin c p hp with ⟨e, hg⟩ | ⟨rfl, h1, h2, hh, β, enc', ys, h3, h4⟩
  ·refine ⟨(hat c e).trans p1, (upd_ne _ _ e).trans p2, fun hl g base e2 => (ph hl g base e2).on ?_, α, enc, xs, ?_, p4⟩
   ·have p3 : st c = _ := p3
    have p1 : at_ c = p.place := p1
    exact hkeep c _ e hg p3 g (by show g ∈ ownOf (at_ c) (FP c); rw [p1, e2]; exact List.mem_cons_self ..)
   ·show st' c = _
    have p3 : st c = _ := p3
    rw [hst c e, if_neg (by rw [hg]; exact fun h => by cases h), p3]
    rfl
  ·exact ⟨h1.trans p1, (upd_self _ _ _).trans (h2.trans p2), fun hl g base e2 => (ph hl g base e2).trans (hh g base (p1.trans e2)), β, enc', ys, hb'.trans (by rw [h3]), h4⟩
 ·rcases split c _ hc with ⟨rfl, e⟩ | ⟨e, hg, k0, h0, h1⟩
  ·rcases hfxp with h | h
   ·rw [← e] at h; cases h
   ·exact h.1
  ·cases k0 with
   | lit => cases h1
   | row s1 e1 x1 f1 =>
     cases h1
     exact h.good.fxp c _ _ _ _ h0
 ·have hg2 : at' c = some (g, base) := hg
  rcases split c k hc with ⟨e, _⟩ | ⟨e, hg', k0, h0, _⟩
  ·exact hhot g base (e ▸ hg2)
  ·exact h.good.rt.hot c k0 h0 g base ((hat c e).symm.trans hg2)
 ·obtain ⟨h1, h2, cs, h3⟩ := h.good.rt.lits c q hq
  have h1 : at_ c = some q := h1
  have h3 : st c = _ := h3
  obtain ⟨e, hg⟩ := hlit c cs h3
  refine ⟨(hat c e).trans h1, h2.on (hkeep c _ e hg h3 q.1 (by show q.1 ∈ ownOf (at_ c) (FP c); rw [h1]; exact List.mem_cons_self ..)), scrubL gone cs, ?_⟩
  show st' c = _
  rw [hst c e, if_neg (by rw [hg]; exact fun h => by cases h), h3]
  rfl
 ·rcases split c _ hc with ⟨rfl, e⟩ | ⟨e, hg, k0, h0, h1⟩
  ·rcases hfxp with h | h
   ·rw [← e] at h; cases h
   ·exact absurd e.symm (h.2 cs)
  ·cases k0 with
   | lit s1 c1 =>
     cases h1
     exact h.good.rt.lfx c _ h0
   | row => cases h1
 ·rw [slot_scrub]
  exact mv _ _ (h.loc t)
def Pinned (st : List (Nat × Blk)) (c : Nat) : Prop := ∃ k, look c st = some k ∧ notFx k = false
theorem Pinned.row {st : List (Nat × Blk)} {c : Nat} {α : Type} {sz : Nat} {enc : α → Nat → AV} {xs : Unit → List α} (h : look c st = some (.row sz enc xs true)) : Pinned st c := ⟨_, h, rfl⟩
def ExpFx (exp : List (Nat × Blk) → AV → Option (AV × List (Nat × Blk))) : Prop := ∀ st x y st', exp st x = some (y, st') → ∀ c, Pinned st c → look c st' = look c st
theorem expL_fx {exp : List (Nat × Blk) → AV → Option (AV × List (Nat × Blk))} (h : ExpFx exp) : ∀ (l : List AV) (st : List (Nat × Blk)) (ys : List AV) (st' : List (Nat × Blk)), expL exp st l = some (ys, st') → ∀ c, Pinned st c → look c st' = look c st
 | [], st, ys, st', he, c, _ => by
   simp only [expL, Option.some.injEq, Prod.mk.injEq] at he
   rw [he.2]
 | x :: l, st, ys, st', he, c, hp => by
   rw [expL] at he
   split at he
   ·rename_i a ha
    split at he
    ·rename_i b hb
     simp only [Option.some.injEq, Prod.mk.injEq] at he
     obtain ⟨_, rfl⟩ := he
     have h1 := h st x a.1 a.2 ha c hp
     obtain ⟨k, hq, hk⟩ := hp
     rw [expL_fx h l a.2 b.1 b.2 hb c ⟨k, h1.trans hq, hk⟩, h1]
    ·cases he
   ·cases he
theorem drop_fx {st : List (Nat × Blk)} {b c : Nat} {α : Type} {sz : Nat} {enc : α → Nat → AV} {xs : Unit → List α} (hb : look b st = some (.row sz enc xs false)) (hp : Pinned st c) : look c (drop_ b st) = look c st := by
 obtain ⟨k, hq, hk⟩ := hp
 rw [look_drop]
 cases e : Nat.beq b c with
 | true =>
   have := Nat.eq_of_beq_eq_true e
   subst this
   rw [hb] at hq
   cases hq
   cases hk
 | false => rfl
theorem exp_fx : ∀ d, ExpFx (exp d) := by
 intro d
 induction d with
 | zero =>
   intro st x y st' he c hp
   cases x <;> simp only [exp, Option.some.injEq, Prod.mk.injEq, reduceCtorEq] at he <;> first | (rw [← he.2]; done) | skip
   split at he
   ·rename_i hb
    simp only [Option.some.injEq, Prod.mk.injEq] at he
    rw [← he.2]
    exact drop_fx hb hp
   ·cases he
 | succ d ih =>
   intro st x y st' he c hp
   cases x <;> simp only [exp, Option.some.injEq, Prod.mk.injEq, reduceCtorEq] at he <;> first | (rw [← he.2]; done) | skip
   ·split at he
    ·rename_i hb
     simp only [Option.some.injEq, Prod.mk.injEq] at he
     rw [← he.2]
     exact drop_fx hb hp
    ·cases he
   ·split at he
    ·rename_i a ha
     simp only [Option.some.injEq, Prod.mk.injEq] at he
     rw [← he.2]
     exact expL_fx ih _ _ _ _ ha c hp
    ·cases he
   ·split at he
    ·rename_i a ha
     simp only [Option.some.injEq, Prod.mk.injEq] at he
     rw [← he.2]
     exact expL_fx ih _ _ _ _ ha c hp
    ·cases he
theorem flatMap_same {α β : Type _} {f g : α → List β} : ∀ {l : List α}, (∀ x ∈ l, f x = g x) → l.flatMap f = l.flatMap g
 | [], _ => rfl
 | x :: r, h => by rw [List.flatMap_cons, List.flatMap_cons, h x (List.mem_cons_self ..), flatMap_same (fun y hy => h y (List.mem_cons_of_mem _ hy))]
theorem flat_fp {w : World} {x : AV} {v : Value} {fp : List Nat} (h : Deep w x v fp) (hf : flat x = true) : fp = [] := by
 cases h <;> first | rfl | (simp [flat] at hf)
theorem cells_loc {E : Env} {x : AV} {v : Value} (h : Loc E x v) (hc : (cellsOf x).all cellOk = true) : ∀ i y, (cellsOf x)[i]? = some y → Loc E y (v.cells.getD i Go.undef) := fun i y hy => by
 obtain ⟨_, hd⟩ := h.cells hc
 obtain ⟨u, hu, hl, _⟩ := hd i y hy
 rw [Array.getD_eq_getD_getElem?, hu]
 exact hl
section
variable {P : Program} {Q : AV → Prop} {As : List (St → Prop)} {mu : Nat → Bool} {nid : Nat} {o : Oper}
theorem mid_get {f h : Nat → AV} {ys : List AV} {j k q : Nat} : ((List.range j).map f ++ ys ++ (List.range k).map h)[q]? = if q < j then some (f q) else if q < j + ys.length then ys[q - j]? else if q < j + ys.length + k then some (h (q - j - ys.length)) else none := by
 by_cases h1 : q < j
 ·rw [if_pos h1, List.append_assoc, List.getElem?_append_left (by simpa using h1)]
  simp [h1]
 ·rw [if_neg h1, List.append_assoc, List.getElem?_append_right (by simpa using h1)]
  simp only [List.length_map, List.length_range]
  by_cases h2 : q < j + ys.length
  ·rw [if_pos h2, List.getElem?_append_left (by omega)]
  ·rw [if_neg h2, List.getElem?_append_right (by omega)]
   by_cases h3 : q < j + ys.length + k
   ·rw [if_pos h3]
    simp [show q - j - ys.length < k by omega]
   ·rw [if_neg h3]
    simp [show ¬ q - j - ys.length < k by omega]
def goneOf (b : Nat) (st rest : List (Nat × Blk)) : Nat → Bool := fun q => bif Nat.beq q b then false else match look q st, look q rest with | some _, none => true | _, _ => false
theorem sto_eptr_core {t : TypeId} {x y : Operand} {n b j sz : Nat} {i : Unit → Nat} {α : Type} {enc : α → Nat → AV} {xs : Unit → List α} {fx : Bool} {z z' : α} {ys : List AV} {rest : List (Nat × Blk)} {s : St} {w0 : Base} {w : World} {N : Nat} {a : Act} {at_ : Nat → Option (Nat × Nat)} {FP : Nat → List Nat}
 (ho : o.op = .store t x y) (hn : sizeOf? P t = some n) (h0 : 0 < n) (hx : ev s.tm x = .eptr b i j) (hb : look b s.st = some (.row sz enc xs fx)) (hexp : expL (exp 3) (drop_ b s.st) (cellsOf (ev s.tm y)) = some (ys, rest)) (h1 : ys.length = n) (h2 : j + n ≤ sz)
 (hz : (xs ())[i ()]? = some z) (h3 : (cellsOf (ev s.tm y)).all cellOk = true) (hfx : fx = true → ys.all flatS = true ∧ ∀ q, j ≤ q → q < j + n → flat (enc z q) = true)
 (hty : ∀ (q : Nat) (c : AV), ((List.range j).map (enc z) ++ ys ++ (List.range (sz - j - n)).map (fun q => enc z (j + n + q)))[q]? = some c → LeD c (enc z' q))
 (hh : Here w0 N s.tm (fun b => look b s.st) a w at_ FP) : ∃ w', (execOp a.eval o).run P w = .ok .skip w' ∧ (∃ FP', Here w0 N (scrubT (goneOf b s.st rest) s.tm) (fun c => look c ((b, .row sz enc (fun _ => setAt (xs ()) (i ()) z') fx) :: rest.map (scrubB (goneOf b s.st rest)))) a w' at_ FP') ∧
   (∀ x v, Loc ⟨w0, w, at_, fun b => look b s.st⟩ x v → Loc ⟨w0, w', at_, fun c => look c ((b, .row sz enc (fun _ => setAt (xs ()) (i ()) z') fx) :: rest.map (scrubB (goneOf b s.st rest)))⟩ (scrub (goneOf b s.st rest) x) v) ∧
   (∀ q, (∀ base, at_ b ≠ some (q, base)) → w'.heap[q]? = w.heap[q]?) ∧ w.heap.size ≤ w'.heap.size ∧ (∀ c k, look c rest = some k → c ≠ b ∧ look c s.st = some k) := by
 have hx1 := hh.ev x
 rw [hx] at hx1
 obtain ⟨α', sz', enc', xs', fx', g, base, hb', ha, hi, hj, he⟩ := hx1.eptr_inv
 rw [show (⟨w0, w, at_, fun b => look b s.st⟩ : Env).st b = _ from hb] at hb'
 cases hb'
 have ha' : at_ b = some (g, base) := ha
 have hy := hh.ev y
 obtain ⟨l1, l2⟩ := hy.cells h3
 have r := hh.good.rep b _ hb
 have hgood := hh.good
 have hndb := hgood.nodup b _ hb
 have hownb : (⟨w0, w, at_, fun b => look b s.st⟩ : Env).own FP b = g :: FP b := by
  show ownOf (at_ b) (FP b) = _
  rw [ha']
  rfl
 rw [hownb] at hndb
 obtain ⟨e1, G, e2, e3, e4, e5, e6⟩ := expL_ok (exp_ok 3) hgood (cellsOf (ev s.tm y)) ys (drop_ b s.st) rest (fun q => (a.eval y).cells.getD q Go.undef) (fun c k hc => by
  show look c s.st = some k
  rw [look_drop] at hc
  cases e : Nat.beq b c with
  | true => rw [e] at hc; cases hc
  | false => rw [e] at hc; exact hc) hexp (cells_loc hy h3)
 have goneSpec : ∀ c k, c ≠ b → look c s.st = some k → goneOf b s.st rest c = false → look c rest = some k := fun c k hc hk hg => by
  unfold goneOf at hg
  rw [show Nat.beq c b = false from by
   cases e : Nat.beq c b with
   | false => rfl
   | true => exact absurd (Nat.eq_of_beq_eq_true e) hc, cond_false, hk] at hg
  cases e : look c rest with
  | none => rw [e] at hg; cases hg
  | some k' =>
    have := e6 c k' e
    rw [look_drop] at this
    cases e2 : Nat.beq b c with
    | true => rw [e2] at this; cases this
    | false => rw [e2] at this; rw [cond_false, hk] at this; rw [this]
 have restNe : ∀ c k, look c rest = some k → c ≠ b ∧ look c s.st = some k := fun c k hc => by
  have := e6 c k hc
  rw [look_drop] at this
  cases e2 : Nat.beq b c with
  | true => rw [e2] at this; cases this
  | false => rw [e2] at this; exact ⟨fun e => (by subst e; rw [Nat.beq_refl] at e2; cases e2), this⟩
 have fromOther : ∀ q, q < ys.length → ∀ p ∈ G q, ∃ c k, c ≠ b ∧ look c s.st = some k ∧ look c rest = none ∧ p ∈ (⟨w0, w, at_, fun b => look b s.st⟩ : Env).own FP c := fun q hq p hp => by
  obtain ⟨c, c1, c2, c3⟩ := e5 q (by omega) p hp
  rw [look_drop] at c1
  cases e2 : Nat.beq b c with
  | true => rw [e2] at c1; exact absurd rfl c1
  | false =>
    rw [e2, cond_false] at c1
    cases e : look c s.st with
    | none => exact absurd e c1
    | some k => exact ⟨c, k, fun e => (by subst e; rw [Nat.beq_refl] at e2; cases e2), e, c2, c3⟩
 have hFPdef : ∀ fp, FP b = fp → BlkRep ⟨w0, w, at_, fun b => look b s.st⟩ b (.row sz enc xs fx) fp → ∃ w', (execOp a.eval o).run P w = .ok .skip w' ∧ (∃ FP', Here w0 N (scrubT (goneOf b s.st rest) s.tm) (fun c => look c ((b, .row sz enc (fun _ => setAt (xs ()) (i ()) z') fx) :: rest.map (scrubB (goneOf b s.st rest)))) a w' at_ FP') ∧
  (∀ x v, Loc ⟨w0, w, at_, fun b => look b s.st⟩ x v → Loc ⟨w0, w', at_, fun c => look c ((b, .row sz enc (fun _ => setAt (xs ()) (i ()) z') fx) :: rest.map (scrubB (goneOf b s.st rest)))⟩ (scrub (goneOf b s.st rest) x) v) ∧
  (∀ q, (∀ base, at_ b ≠ some (q, base)) → w'.heap[q]? = w.heap[q]?) ∧ w.heap.size ≤ w'.heap.size ∧ (∀ c k, look c rest = some k → c ≠ b ∧ look c s.st = some k) := by
  intro fp hfp r
  cases r with
  | row0 ha2 _ => rw [ha] at ha2; cases ha2
  | @row _ _ _ _ _ g' base' cells ty F ha2 hg hrr hc =>
    rw [ha] at ha2
    cases ha2
    have hgw : w.heap[g]? = some (.cells cells ty (0, 0)) := hg
    rw [hfp] at hndb
    obtain ⟨n1, n2⟩ := List.nodup_cons.1 hndb
    obtain ⟨n3, n4⟩ := nodup_flat n2
    have hin : (i () + 1) * sz ≤ (xs ()).length * sz := Nat.mul_le_mul_right sz hi
    have hmul : (i () + 1) * sz = i () * sz + sz := by rw [Nat.add_mul]; omega
    have hsize : base + i () * sz + j + n ≤ cells.size := by omega
    have hrun := store_run (P := P) (t := t) (n := n) (v := a.eval y) (off := base + i () * sz + j) hn (by omega) (cellsOf_one hy h3) hgw hsize
    obtain ⟨cells', hw, hs, hcells⟩ := setCells_wrote g ty (a.eval y).cells.toList (base + i () * sz + j) w cells hgw (by simp; omega)
    have hvl : (a.eval y).cells.toList.length = n := by simp; omega
    let F' : Nat → Nat → List Nat := fun p q => if p = i () ∧ j ≤ q ∧ q < j + n then G (q - j) else F p q
    have hlen' : (setAt (xs ()) (i ()) z').length = (xs ()).length := by unfold setAt; rw [List.length_set]
    have inF : ∀ p q, p < (xs ()).length → q < sz → ∀ u ∈ F p q, u ∈ (List.range (xs ()).length).flatMap fun p => (List.range sz).flatMap (F p) := fun p q hp hq u hu => mem_flat (F := fun p => (List.range sz).flatMap (F p)) hp (mem_flat hq hu)
    have inB : ∀ p q, p < (xs ()).length → q < sz → ∀ u ∈ F p q, u ∈ (⟨w0, w, at_, fun b => look b s.st⟩ : Env).own FP b ∧ u ≠ g := fun p q hp hq u hu => ⟨by rw [hownb, hfp]; exact List.mem_cons_of_mem _ (inF p q hp hq u hu), fun e => n1 (e ▸ inF p q hp hq u hu)⟩
    have inG : ∀ k, k < n → ∀ u ∈ G k, u ≠ g ∧ u ∉ (⟨w0, w, at_, fun b => look b s.st⟩ : Env).own FP b := fun k hk u hu => by
     obtain ⟨c, kk, c1, c2, _, c4⟩ := fromOther k (by omega) u hu
     have := hgood.apart c b kk _ c2 hb c1 u c4
     exact ⟨fun e => this (by rw [hownb, e]; exact List.mem_cons_self ..), this⟩
    have key := hh.rebuild (w' := w.setCells g (base + i () * sz + j) (a.eval y).cells.toList) (st' := fun c => look c ((b, .row sz enc (fun _ => setAt (xs ()) (i ()) z') fx) :: rest.map (scrubB (goneOf b s.st rest)))) (at' := at_) (b := b) (blk' := .row sz enc (fun _ => setAt (xs ()) (i ()) z') fx)
     (fp' := (List.range (setAt (xs ()) (i ()) z').length).flatMap fun p => (List.range sz).flatMap (F' p)) (gone := goneOf b s.st rest) (hw.mod (hgood.rt.hot b _ hb g base ha) hgw hs) (hfxp := by
       cases hfx0 : fx with
       | false => exact .inl rfl
       | true => subst hfx0; exact .inr ⟨hgood.fxp b _ _ _ _ hb, fun cs h => by cases h⟩) (hhot := hgood.rt.hot b _ hb) (hlit := fun c cs hc => by
       have hc : look c s.st = _ := hc
       have e : c ≠ b := fun e => by subst e; rw [hb] at hc; cases hc
       have hq : look c (drop_ b s.st) = look c s.st := by
        rw [look_drop]
        cases e' : Nat.beq b c with
        | true => exact absurd (Nat.eq_of_beq_eq_true e').symm e
        | false => rfl
       have := expL_fx (exp_fx 3) _ _ _ _ hexp c ⟨_, hq.trans hc, rfl⟩
       refine ⟨e, ?_⟩
       unfold goneOf
       have e' : Nat.beq c b = false := by
        cases e2 : Nat.beq c b with
        | false => rfl
        | true => exact absurd (Nat.eq_of_beq_eq_true e2) e
       rw [e', cond_false, this, hq, hc])
     (fun c hc => by
       show look c ((b, .row sz enc (fun _ => setAt (xs ()) (i ()) z') fx) :: rest.map (scrubB (goneOf b s.st rest))) = _
       rw [look]
       have e : Nat.beq b c = false := by
        cases e : Nat.beq b c with
        | false => rfl
        | true => exact absurd (Nat.eq_of_beq_eq_true e).symm hc
       simp only [e, cond_false]
       rw [look_scrub]
       cases hg2 : goneOf b s.st rest c with
       | true =>
         rw [if_pos rfl]
         unfold goneOf at hg2
         have e' : Nat.beq c b = false := by
          cases e : Nat.beq c b with
          | false => rfl
          | true => exact absurd (Nat.eq_of_beq_eq_true e) hc
         rw [e', cond_false] at hg2
         split at hg2
         ·rename_i e1 e2; rw [e2]; rfl
         ·cases hg2
       | false =>
         rw [if_neg (fun h => by cases h)]
         cases e2 : look c s.st with
         | none =>
           cases e3 : look c rest with
           | none => rfl
           | some k => have := (restNe c k e3).2; rw [e2] at this; cases this
         | some k => rw [goneSpec c k hc e2 hg2])
     (by simp [look, beq_self]) (fun c _ => rfl)
     (fun _ blk hblk => by
       have hblk' : look b s.st = some blk := hblk
       rw [hb] at hblk'
       cases hblk'
       refine ⟨⟨_, by simp [look, beq_self]; rfl, .row hlen'⟩, rfl, fun g2 base2 cs2 t2 hg2 hc2 => ?_⟩
       have hg3 : at_ b = some (g2, base2) := hg2
       rw [ha'] at hg3
       cases hg3
       have hc3 : w.heap[g]? = some (.cells cs2 t2 (0, 0)) := hc2
       rw [hgw] at hc3
       cases hc3
       exact ⟨cells', hw.here, hs⟩)
     (fun c k hc hg2 hk q hq => hw.else_ q (fun e => by
       subst e
       exact hgood.apart b c _ k hb hk (fun e => hc e.symm) q (by rw [hownb]; exact List.mem_cons_self ..) hq))
     (fun mv => by
       refine .row F' ha hw.here (by simp only [hlen']; rw [hs]; exact hrr) (fun p x hx q hq => ?_)
       have hx : (setAt (xs ()) (i ()) z')[p]? = some x := hx
       have hp : p < (xs ()).length := by have := lt_of_get hx; omega
       have keepD : ∀ {c : AV} {u : Value} {f : List Nat}, Deep w c u f → (∀ v ∈ f, v ≠ g) → Deep (w.setCells g (base + i () * sz + j) (a.eval y).cells.toList) c u f := fun hd hf => hd.keep (fun v hv => hw.else_ v (hf v hv))
       by_cases hpi : p = i ()
       ·subst hpi
        have hxz : x = z' := by
         unfold setAt at hx
         rw [List.getElem?_set_self hi] at hx
         exact (Option.some.inj hx).symm
        subst hxz
        obtain ⟨u0, hu0, hd0⟩ := hc (i ()) z hz q hq
        by_cases hjq : j ≤ q ∧ q < j + n
        ·have hF : F' (i ()) q = G (q - j) := if_pos ⟨rfl, hjq⟩
         have hq1 : q - j < ys.length := by omega
         have hd1 := e2 (q - j) _ (List.getElem?_eq_getElem hq1)
         have hle := hty q ys[q - j] (by rw [mid_get, if_neg (by omega), if_pos (by omega)]; exact List.getElem?_eq_getElem hq1)
         refine ⟨(a.eval y).cells.getD (q - j) Go.undef, ?_, ?_⟩
         ·rw [hcells, if_pos (by omega), show base + i () * sz + q - (base + i () * sz + j) = q - j by omega]
          have : q - j < (a.eval y).cells.size := by omega
          simp [Array.getD, this]
         ·rw [hF]
          exact hle.deep (keepD hd1 (fun v hv => (inG (q - j) (by omega) v hv).1))
        ·have hF : F' (i ()) q = F (i ()) q := if_neg (fun h => hjq h.2)
         have hle := hty q (enc z q) (by
          rw [mid_get]
          by_cases hqj : q < j
          ·rw [if_pos hqj]
          ·rw [if_neg hqj, if_neg (by omega), if_pos (by omega)]
           rw [show j + n + (q - j - ys.length) = q by omega])
         refine ⟨u0, ?_, ?_⟩
         ·rw [hcells, if_neg (by omega)]; exact hu0
         ·rw [hF]
          exact hle.deep (keepD hd0 (fun v hv => (inB (i ()) q hi hq v hv).2))
       ·have hF : F' p q = F p q := if_neg (fun h => hpi h.1)
        have hxp : (xs ())[p]? = some x := by
         unfold setAt at hx
         rw [List.getElem?_set_ne (fun e => hpi e.symm)] at hx
         exact hx
        obtain ⟨u0, hu0, hd0⟩ := hc p x hxp q hq
        refine ⟨u0, ?_, ?_⟩
        ·have : ¬ (base + i () * sz + j ≤ base + p * sz + q ∧ base + p * sz + q < base + i () * sz + j + n) := by
          rcases Nat.lt_or_gt_of_ne hpi with hlt | hgt
          ·have := Nat.mul_le_mul_right sz (show p + 1 ≤ i () from hlt)
           rw [Nat.add_mul] at this
           omega
          ·have := Nat.mul_le_mul_right sz (show i () + 1 ≤ p from hgt)
           rw [Nat.add_mul] at this
           omega
         rw [hcells, hvl, if_neg this]
         exact hu0
        ·rw [hF]
         exact keepD hd0 (fun v hv => (inB p q hp hq v hv).2))
     (by
       show (ownOf (at_ b) _).Nodup
       rw [ha']
       have mem' : ∀ p, p < (xs ()).length → ∀ v ∈ (List.range sz).flatMap (F' p), (v ∈ (List.range sz).flatMap (F p)) ∨ (p = i () ∧ ∃ k, k < n ∧ v ∈ G k) := fun p hp v hv => by
        obtain ⟨q, hq, hv⟩ := List.mem_flatMap.1 hv
        have hq := List.mem_range.1 hq
        by_cases hh : p = i () ∧ j ≤ q ∧ q < j + n
        ·have hv : v ∈ (if p = i () ∧ j ≤ q ∧ q < j + n then G (q - j) else F p q) := hv
         rw [if_pos hh] at hv
         exact .inr ⟨hh.1, q - j, by omega, hv⟩
        ·have hv : v ∈ (if p = i () ∧ j ≤ q ∧ q < j + n then G (q - j) else F p q) := hv
         rw [if_neg hh] at hv
         exact .inl (mem_flat hq hv)
       have inFlat : ∀ p, p < (xs ()).length → ∀ v ∈ (List.range sz).flatMap (F p), v ∈ (⟨w0, w, at_, fun b => look b s.st⟩ : Env).own FP b ∧ v ≠ g := fun p hp v hv => by
        obtain ⟨q, hq, hv⟩ := List.mem_flatMap.1 hv
        exact inB p q hp (List.mem_range.1 hq) v hv
       refine List.nodup_cons.2 ⟨fun hm => ?_, flat_nodup (fun p hp => ?_) (fun p p' hp hp' hne v hv hv' => ?_)⟩
       ·obtain ⟨p, hp, hm⟩ := List.mem_flatMap.1 hm
        have hp := List.mem_range.1 hp
        rcases mem' p (by omega) g hm with h | ⟨_, k, hk, h⟩
        ·exact (inFlat p (by omega) g h).2 rfl
        ·exact (inG k hk g h).1 rfl
       ·have hp : p < (xs ()).length := by omega
        obtain ⟨m1, m2⟩ := nodup_flat (n3 p hp)
        refine flat_nodup (fun q hq => ?_) (fun q q' hq hq' hne v hv hv' => ?_)
        ·show (if p = i () ∧ j ≤ q ∧ q < j + n then G (q - j) else F p q).Nodup
         by_cases hh : p = i () ∧ j ≤ q ∧ q < j + n
         ·rw [if_pos hh]; exact e3 (q - j) (by omega)
         ·rw [if_neg hh]; exact m1 q hq
        ·have hv : v ∈ (if p = i () ∧ j ≤ q ∧ q < j + n then G (q - j) else F p q) := hv
         have hv' : v ∈ (if p = i () ∧ j ≤ q' ∧ q' < j + n then G (q' - j) else F p q') := hv'
         by_cases hh : p = i () ∧ j ≤ q ∧ q < j + n
         ·rw [if_pos hh] at hv
          by_cases hh' : p = i () ∧ j ≤ q' ∧ q' < j + n
          ·rw [if_pos hh'] at hv'
           exact e4 (q - j) (q' - j) (by omega) (by omega) (by omega) v hv hv'
          ·rw [if_neg hh'] at hv'
           exact (inG (q - j) (by omega) v hv).2 (inB p q' hp hq' v hv').1
         ·rw [if_neg hh] at hv
          by_cases hh' : p = i () ∧ j ≤ q' ∧ q' < j + n
          ·rw [if_pos hh'] at hv'
           exact (inG (q' - j) (by omega) v hv').2 (inB p q hp hq v hv).1
          ·rw [if_neg hh'] at hv'
           exact m2 q q' hq hq' hne v hv hv'
       ·have hp : p < (xs ()).length := by omega
        have hp' : p' < (xs ()).length := by omega
        rcases mem' p hp v hv with h | ⟨h1, k, hk, h⟩
        ·rcases mem' p' hp' v hv' with h' | ⟨h1', k', hk', h'⟩
         ·exact n4 p p' hp hp' hne v h h'
         ·exact (inG k' hk' v h').2 (inFlat p hp v h).1
        ·rcases mem' p' hp' v hv' with h' | ⟨h1', k', hk', h'⟩
         ·exact (inG k hk v h).2 (inFlat p' hp' v h').1
         ·exact hne (h1.trans h1'.symm))
     (fun v hv => by
       have hv : v ∈ ownOf (at_ b) ((List.range (setAt (xs ()) (i ()) z').length).flatMap fun p => (List.range sz).flatMap (F' p)) := hv
       rw [ha'] at hv
       have fromB : v ∈ (⟨w0, w, at_, fun b => look b s.st⟩ : Env).own FP b → w0.free v ∧ Fresh (w.setCells g (base + i () * sz + j) (a.eval y).cells.toList) v ∧ ∀ c k, c ≠ b → goneOf b s.st rest c = false → look c s.st = some k → v ∉ (⟨w0, w, at_, fun b => look b s.st⟩ : Env).own FP c := fun hm => by
        refine ⟨hgood.base b _ hb v hm, ?_, fun c k hc _ hk => hgood.apart b c _ k hb hk (fun e => hc e.symm) v hm⟩
        by_cases hvg : v = g
        ·rw [hvg]; exact ⟨_, _, hw.here⟩
        ·obtain ⟨cs, t', hcs⟩ := hgood.fresh b _ hb v hm
         exact ⟨cs, t', (hw.else_ v hvg).trans hcs⟩
       rcases List.mem_cons.1 hv with e | hv
       ·exact fromB (by rw [hownb, e]; exact List.mem_cons_self ..)
       ·obtain ⟨p, hp, hv⟩ := List.mem_flatMap.1 hv
        have hp := List.mem_range.1 hp
        obtain ⟨q, hq, hv⟩ := List.mem_flatMap.1 hv
        have hq := List.mem_range.1 hq
        have hv : v ∈ (if p = i () ∧ j ≤ q ∧ q < j + n then G (q - j) else F p q) := hv
        by_cases hh : p = i () ∧ j ≤ q ∧ q < j + n
        ·rw [if_pos hh] at hv
         obtain ⟨c', k', c1, c2, c3, c4⟩ := fromOther (q - j) (by omega) v hv
         refine ⟨hgood.base c' k' c2 v c4, ?_, fun c k hc hg2 hk => ?_⟩
         ·obtain ⟨cs, t', hcs⟩ := hgood.fresh c' k' c2 v c4
          exact ⟨cs, t', (hw.else_ v (inG (q - j) (by omega) v hv).1).trans hcs⟩
         ·have := goneSpec c k hc hk hg2
          exact hgood.apart c' c k' k c2 hk (fun e => by subst e; rw [c3] at this; cases this) v c4
        ·rw [if_neg hh] at hv
         exact fromB (inB p q (by omega) hq v hv).1)
     (fun c p hp => by
       obtain ⟨p1, p2, _, β, enc', xs', p3, p4⟩ := hgood.pins c p hp
       have p3 : look c s.st = _ := p3
       by_cases e : c = b
       ·subst e
        rw [hb] at p3
        cases p3
        refine .inr ⟨rfl, rfl, ?_, fun g' base' e' => ?_, _, enc, _, rfl, by rw [← p4]; exact hlen'⟩
        rotate_left
        ·have e' : at_ c = some (g', base') := e'
         rw [ha'] at e'
         cases e'
         intro cs' t' hcs'
         rw [hw.here] at hcs'
         cases hcs'
         refine ⟨cells, hgw, fun k A n' c' hk => ?_⟩
         rw [hcells] at hk
         split at hk
         ·rename_i hin'
          exfalso
          have hq1 : k - (base + i () * p.sz + j) < ys.length := by omega
          have hd1 := e2 (k - (base + i () * p.sz + j)) _ (List.getElem?_eq_getElem hq1)
          refine flatS_no (List.all_eq_true.1 (hfx rfl).1 _ (List.getElem_mem hq1)) hd1 (A := A) (n := n') (c := c') ?_
          have hlt : k - (base + i () * p.sz + j) < (a.eval y).cells.size := by omega
          simp [hlt] at hk
          simp [Array.getD, hlt, hk]
         ·exact hk
        obtain ⟨f1, f2⟩ := hfx rfl
        rw [hfp]
        simp only [hlen']
        refine flatMap_same (fun p' hp' => flatMap_same (fun q hq => ?_))
        have hq := List.mem_range.1 hq
        show (if p' = i () ∧ j ≤ q ∧ q < j + n then G (q - j) else F p' q) = F p' q
        by_cases hh : p' = i () ∧ j ≤ q ∧ q < j + n
        ·rw [if_pos hh]
         obtain ⟨rfl, hj1, hj2⟩ := hh
         have hy1 := List.getElem?_eq_getElem (show q - j < ys.length by omega)
         obtain ⟨u, _, hdz⟩ := hc (i ()) z hz q hq
         rw [flat_fp (e2 _ _ hy1) (flatS_flat (List.all_eq_true.1 f1 _ (List.getElem_mem _))), flat_fp hdz (f2 q hj1 hj2)]
        ·rw [if_neg hh]
       ·refine .inl ⟨e, ?_⟩
        have hq : look c (drop_ b s.st) = look c s.st := by
         rw [look_drop]
         cases e' : Nat.beq b c with
         | true => exact absurd (Nat.eq_of_beq_eq_true e').symm e
         | false => rfl
        have := expL_fx (exp_fx 3) _ _ _ _ hexp c (.row (hq.trans p3))
        unfold goneOf
        have e' : Nat.beq c b = false := by
         cases e2 : Nat.beq c b with
         | false => rfl
         | true => exact absurd (Nat.eq_of_beq_eq_true e2) e
        rw [e', cond_false, this, hq, p3])
    obtain ⟨hh2, mv⟩ := key
    refine ⟨_, ?_, ⟨_, hh2⟩, mv, fun q hq => hw.else_ q (fun e => by subst e; exact hq base ha'), by rw [hw.size]; exact Nat.le_refl _, restNe⟩
    simp only [execOp, ho, he]
    rw [Sem.run_bind, hrun]
    rfl
 exact hFPdef _ rfl r
theorem m_sto_eptr {t : TypeId} {x y : Operand} {n b j sz : Nat} {i : Unit → Nat} {α : Type} {enc : α → Nat → AV} {xs : Unit → List α} {fx : Bool} {z z' : α} {ys : List AV} {rest : List (Nat × Blk)} {s : St} {K : AV → St → Tree} {w0 : Base} {w : World} {N : Nat} {a : Act}
 (ho : o.op = .store t x y) (hn : sizeOf? P t = some n) (h0 : 0 < n) (hx : ev s.tm x = .eptr b i j) (hb : look b s.st = some (.row sz enc xs fx)) (hexp : expL (exp 3) (drop_ b s.st) (cellsOf (ev s.tm y)) = some (ys, rest)) (h1 : ys.length = n) (h2 : j + n ≤ sz)
 (hz : (xs ())[i ()]? = some z) (h3 : (cellsOf (ev s.tm y)).all cellOk = true) (hfx : fx = true → ys.all flatS = true ∧ ∀ q, j ≤ q → q < j + n → flat (enc z q) = true)
 (hty : ∀ (q : Nat) (c : AV), ((List.range j).map (enc z) ++ ys ++ (List.range (sz - j - n)).map (fun q => enc z (j + n + q)))[q]? = some c → LeD c (enc z' q))
 (h : Sat P Q As (K .undef { tm := scrubT (goneOf b s.st rest) s.tm, st := (b, .row sz enc (fun _ => setAt (xs ()) (i ()) z') fx) :: rest.map (scrubB (goneOf b s.st rest)), nx := s.nx }))
 (hr : Rel w0 N s.tm (fun b => look b s.st) a w) (hfr : ∀ b k, look b s.st = some k → b < nid) : MD P Q As o s nid K w0 N a w := by
 obtain ⟨at_, FP, hh⟩ := hr
 obtain ⟨w', hrun, ⟨FP', hh2⟩, _, _, _, restNe⟩ := sto_eptr_core ho hn h0 hx hb hexp h1 h2 hz h3 hfx hty hh
 refine .inl ⟨undef, w', .inr ⟨hrun, rfl⟩, .undef, _, h, rfl, fun c k hc => ?_, at_, _, hh2, .undef⟩
 ·skip
  ·skip
   ·have hc' : look c ((b, .row sz enc (fun _ => setAt (xs ()) (i ()) z') fx) :: rest.map (scrubB (goneOf b s.st rest))) = some k := hc
    rw [look] at hc'
    cases e : Nat.beq b c with
    | true =>
      have hbc := Nat.eq_of_beq_eq_true e
      subst hbc
      have := hfr b _ hb
      omega
    | false =>
      simp only [e, cond_false] at hc'
      rw [look_scrub, Option.map_eq_some_iff] at hc'
      obtain ⟨k', hk', _⟩ := hc'
      have := hfr c k' (restNe c k' hk').2
      omega
end
end Go.V
namespace Go.V
open Go Go.RowKit
section
variable {P : Program}
theorem app_run {t tx ty e : TypeId} {i : TypeInfo} {z : Value} {size bytes : Nat} (ht : P.underlying t = some (.slice e)) (hi : P.info? e = some i) (hz : i.zero = some z) (hsize : i.size = size) (hby : i.bytes = bytes) (hzs : z.cells.size = size) (hsz : 0 < size) (hb0 : 0 < bytes)
 {w : World} {A : Option Addr} {n cap m : Nat} {olds news : List Value} {y : Value} (hnc : n ≤ cap) (hs : Src P size tx y m news w) (hol : olds.length = n * size) (hold : ∀ j u, olds[j]? = some u → ∃ ad, A = some ad ∧ w.cell? (ad.add j) = some u)
 (hA : 0 < cap → ∃ g o, A = some ⟨g, o, none⟩ ∧ (∀ j, j < cap * size → (w.cell? ⟨g, o + j, none⟩).isSome = true) ∧ ∀ j, w.frozen? ⟨g, j, none⟩ = false) (hbytes : (n + m) * bytes ≤ 140737488351232) :
 ∃ u w', (Builtin.append_ #[t, tx] ty #[.slice A n cap, y]).run P w = .ok u w' ∧ Grown w e size A n cap m olds news u w' := by
 subst hsize hby
 have hnm : n + m ≤ (n + m) * i.bytes := Nat.le_mul_of_pos_right _ hb0
 by_cases hm : m = 0
 ·subst hm
  have hnews : news = [] := List.eq_nil_of_length_eq_zero (by rw [hs.newsLen]; omega)
  subst hnews
  refine ⟨_, _, ?_, .keep rfl⟩
  have h1 := hs.cells
  rcases hs.kind with ⟨e', hk⟩ | hk <;> cases A <;> simp [Builtin.append_, run_underlying ht, run_underlying hk, sizeOf, typeInfo, hi, hs.len, hnc, h1, storeCells]
 ·have hm' : 0 < m := by omega
  by_cases hr : n + m ≤ cap
  ·obtain ⟨g, o, rfl, hc, hf⟩ := hA (by omega)
   have hlen := hs.newsLen
   have hmul : (n + m) * i.size ≤ cap * i.size := Nat.mul_le_mul_right _ hr
   rw [Nat.add_mul] at hmul
   refine ⟨_, _, run_append_room_src w t tx ty e i ht hi g o n cap y m news hs hr (fun j hj => ?_) (fun j hj => hf _), .room hm' hr rfl⟩
   have := hc (n * i.size + j) (by omega)
   rw [← Nat.add_assoc] at this
   exact this
  ·have hold' : (Builtin.firstCells i.size n (.slice A n cap)).run P w.drew = .ok olds.toArray w.drew := by
    cases A with
    | none =>
      have h0 : n = 0 ∨ 0 < n := Nat.eq_zero_or_pos n
      have : n = 0 := by
       rcases h0 with h | h
       ·exact h
       ·have hpos : 0 < n * i.size := Nat.mul_pos h hsz
        obtain ⟨ad, had, _⟩ := hold 0 _ (List.getElem?_eq_getElem (by omega))
        cases had
      subst this
      have : olds = [] := List.eq_nil_of_length_eq_zero (by rw [hol]; omega)
      subst this
      exact run_firstCells_none w.drew i.size 0 0 cap
    | some ad =>
      refine run_firstCells_some w.drew i.size n ad n cap olds hol (fun j u hj => ?_)
      obtain ⟨ad', had, hcell⟩ := hold j u hj
      cases had
      simpa using hcell
   have h63 : ((n + m : Nat) : Int) ≤ 9223372036854775807 := by omega
   have hge := grownCap_ge w (n + m) cap e
   have hlen : (olds ++ news).length = (n + m) * i.size := by rw [List.length_append, hol, hs.newsLen, Nat.add_mul]
   refine ⟨_, _, run_append_grow_src w t tx ty e i z ht hi hz A n cap olds hold' y m news hs (by omega) h63 (growslice_fits (by omega) (by omega)), .grow hm' (by omega) hge ?_ (fun q hq => ?_)⟩
   ·rw [Array.size_append, List.size_toArray, hlen]
    simp only [Builtin.zeroCells, Array.size_map, Array.size_range, hzs]
    rw [← Nat.add_mul]
    congr 1
    omega
   ·rw [Array.getElem?_append_left (by rw [List.size_toArray, hlen]; exact hq), List.getElem?_toArray]
end
end Go.V
namespace Go.V
open Go Go.RowKit
structure Elems (w : World) {α : Type} (sz : Nat) (enc : α → Nat → AV) (el : List α) (vals : List Value) (FF : Nat → Nat → List Nat) : Prop where
 len : vals.length = el.length * sz
 cells : ∀ p x, el[p]? = some x → ∀ q, q < sz → ∃ u, vals[p * sz + q]? = some u ∧ Deep w (enc x q) u (FF p q)
def both (n : Nat) (F G : Nat → Nat → List Nat) : Nat → Nat → List Nat := fun p q => if p < n then F p q else G (p - n) q
theorem Elems.app {w : World} {α : Type} {sz : Nat} {enc : α → Nat → AV} {os ns : List α} {olds news : List Value} {F G : Nat → Nat → List Nat} (h : Elems w sz enc os olds F) (h' : Elems w sz enc ns news G) : Elems w sz enc (os ++ ns) (olds ++ news) (both os.length F G) := by
 refine ⟨by rw [List.length_append, List.length_append, h.len, h'.len, Nat.add_mul], fun p x hx q hq => ?_⟩
 unfold both
 by_cases hp : p < os.length
 ·rw [List.getElem?_append_left hp] at hx
  obtain ⟨u, hu, hd⟩ := h.cells p x hx q hq
  refine ⟨u, ?_, by rw [if_pos hp]; exact hd⟩
  have := Nat.mul_le_mul_right sz (show p + 1 ≤ os.length from hp)
  rw [Nat.add_mul] at this
  rw [List.getElem?_append_left (by rw [h.len]; omega)]
  exact hu
 ·rw [List.getElem?_append_right (by omega)] at hx
  obtain ⟨u, hu, hd⟩ := h'.cells _ x hx q hq
  refine ⟨u, ?_, by rw [if_neg hp]; exact hd⟩
  have e : p * sz = (p - os.length) * sz + os.length * sz := by rw [← Nat.add_mul]; congr 1; omega
  rw [List.getElem?_append_right (by rw [h.len]; omega), h.len, show p * sz + q - os.length * sz = (p - os.length) * sz + q by omega]
  exact hu
theorem below_drew (w : World) (o : Obj) : Below w.heap.size w (w.drew.alloc o) := ⟨rfl, rfl, rfl, by show w.heap.size ≤ (w.heap.push o).size; simp, fun k hk => by show (w.heap.push o)[k]? = w.heap[k]?; rw [Array.getElem?_push, if_neg (by omega)]⟩
theorem drew_here (w : World) (o : Obj) : (w.drew.alloc o).heap[w.heap.size]? = some o := by
 show (w.heap.push o)[w.heap.size]? = some o
 simp
theorem app_rebuild {w0 : Base} {w w' : World} {N : Nat} {tm : List (Nat × AV)} {st st' : Nat → Option Blk} {a : Act} {at_ : Nat → Option (Nat × Nat)} {FP : Nat → List Nat} {b sz cap : Nat} {e : TypeId} {A : Option Addr} {α : Type} {enc : α → Nat → AV} {os ns : List α} {olds news : List Value}
 {F G : Nat → Nat → List Nat} {gone : Nat → Bool} {u : Value} {place : Option (Nat × Nat)} {len : Unit → Nat} (h : Here w0 N tm st a w at_ FP) (hu : Grown w e sz A os.length cap ns.length olds news u w') (hos : Elems w sz enc os olds F) (hns : Elems w sz enc ns news G)
 (hst : ∀ c, c ≠ b → st' c = if gone c = true then none else (st c).map (scrubK gone)) (hb' : st' b = some (.row sz enc (fun _ => os ++ ns) false)) (hgone : gone b = true ∨ st b = none) (hlen : len () = os.length + ns.length)
 (hp0 : place = none → os.length = 0 ∧ cap = 0)
 (hp1 : ∀ g base, place = some (g, base) → w0.hot g ∧ (∀ c k, c ≠ b → gone c = false → st c = some k → g ∉ (⟨w0, w, at_, st⟩ : Env).own FP c) ∧ (∀ p q, p < os.length + ns.length → q < sz → g ∉ both os.length F G p q) ∧
   ∃ cells ty, w.heap[g]? = some (.cells cells ty (0, 0)) ∧ (∀ j u, olds[j]? = some u → cells[base + j]? = some u) ∧ (cap = 0 ∨ (A = some ⟨g, base, none⟩ ∧ base + cap * sz ≤ cells.size)) ∧ base + os.length * sz ≤ cells.size ∧ os.length ≤ cap)
 (hnd : ((List.range (os.length + ns.length)).flatMap fun p => (List.range sz).flatMap (both os.length F G p)).Nodup)
 (hff : ∀ p q, p < os.length + ns.length → q < sz → ∀ v ∈ both os.length F G p q, w0.free v ∧ Fresh w v ∧ ∀ c k, c ≠ b → gone c = false → st c = some k → v ∉ (⟨w0, w, at_, st⟩ : Env).own FP c)
 (hgfx : ∀ (c : Nat) (k : Blk), st c = some k → notFx k = false → c ≠ b ∧ gone c = false) :
 ∃ at' FP', Here w0 N (scrubT gone tm) st' a w' at' FP' ∧ Loc ⟨w0, w', at', st'⟩ (.ref b (fun _ => 0) len) u := by
 have hel := hos.app hns
 have hpin : ∀ c p, w0.pin c = some p → c ≠ b ∧ gone c = false := fun c p hp => by
  obtain ⟨_, _, _, β, enc', xs', p3, _⟩ := h.good.pins c p hp
  exact hgfx c _ p3 rfl
 have hlit : ∀ c cs, st c = some (.lit 99 cs) → c ≠ b ∧ gone c = false := fun c cs hc => hgfx c _ hc rfl
 have hll : (os ++ ns).length = os.length + ns.length := List.length_append
 have stay : gone b = false → ∀ blk, st b = some blk → ∀ (w' : World) at', Stays ⟨w0, w, at_, st⟩ ⟨w0, w', at', st'⟩ b blk := fun hg blk hb => by
  rcases hgone with h | h
  ·rw [h] at hg; cases hg
  ·rw [h] at hb; cases hb
 have memff : ∀ v, v ∈ ((List.range (os ++ ns).length).flatMap fun p => (List.range sz).flatMap (both os.length F G p)) → ∃ p q, p < os.length + ns.length ∧ q < sz ∧ v ∈ both os.length F G p q := fun v hv => by
  obtain ⟨p, hp, hv⟩ := List.mem_flatMap.1 hv
  obtain ⟨q, hq, hv⟩ := List.mem_flatMap.1 hv
  exact ⟨p, q, by have := List.mem_range.1 hp; omega, List.mem_range.1 hq, hv⟩
 cases hu with
 | keep hm =>
   have hns0 : ns = [] := List.eq_nil_of_length_eq_zero hm
   cases hpl : place with
   | none =>
     obtain ⟨h1, h2⟩ := hp0 hpl
     have hos0 : os = [] := List.eq_nil_of_length_eq_zero h1
     subst hos0 hns0
     obtain ⟨hh, _⟩ := h.rebuild (w' := w) (st' := st') (at' := upd at_ b none) (b := b) (blk' := .row sz enc (fun _ => [] ++ []) false) (fp' := []) (gone := gone) (Mod.refl w) hst hb' (fun c hc => upd_ne _ _ hc) (fun hg blk hb => stay hg blk hb _ _) (fun _ _ _ _ _ _ _ => rfl)
      (fun _ => .row0 (upd_self _ _ _) rfl) (by rw [upd_self]; exact List.nodup_nil) (fun q hq => by rw [upd_self] at hq; cases hq) (fun c p hp => .inl (hpin c p hp)) (fun g base e => by rw [upd_self] at e; cases e) hlit
     refine ⟨_, _, hh, .ref hb' ?_⟩
     rw [hlen, h2]
     exact .ofNone (upd_self _ _ _) (by simp)
   | some pl =>
     obtain ⟨g, base⟩ := pl
     obtain ⟨g1, g2, g3, cells, ty, g4, g5, g6, g7, g8⟩ := hp1 g base hpl
     subst hns0
     obtain ⟨hh, _⟩ := h.rebuild (w' := w) (st' := st') (at' := upd at_ b (some (g, base))) (b := b) (blk' := .row sz enc (fun _ => os ++ []) false) (fp' := (List.range (os ++ []).length).flatMap fun p => (List.range sz).flatMap (both os.length F G p)) (gone := gone) (Mod.refl w) hst hb' (fun c hc => upd_ne _ _ hc)
      (fun hg blk hb => stay hg blk hb _ _) (fun _ _ _ _ _ _ _ => rfl)
      (fun _ => .row (both os.length F G) (upd_self _ _ _) g4 (by simpa using g7) (fun p x hx q hq => by
        have hx : (os ++ [])[p]? = some x := hx
        obtain ⟨v, hv, hd⟩ := hel.cells p x hx q hq
        have hv' : olds[p * sz + q]? = some v := by
         have : news = [] := List.eq_nil_of_length_eq_zero (by rw [hns.len]; simp)
         rw [this, List.append_nil] at hv
         exact hv
        exact ⟨v, by rw [Nat.add_assoc]; exact g5 _ v hv', hd⟩))
      (by
        rw [upd_self]
        refine List.nodup_cons.2 ⟨fun hm => ?_, by rw [hll]; exact hnd⟩
        obtain ⟨p, q, hp, hq, hv⟩ := memff g hm
        exact g3 p q hp hq hv)
      (fun v hv => by
        rw [upd_self] at hv
        rcases List.mem_cons.1 hv with e | hv
        ·rw [e]; exact ⟨g1.free, ⟨_, _, g4⟩, g2⟩
        ·obtain ⟨p, q, hp, hq, hv⟩ := memff v hv
         exact hff p q hp hq v hv) (fun c p hp => .inl (hpin c p hp)) (fun g' base' e => by rw [upd_self] at e; cases e; exact g1) hlit
     refine ⟨_, _, hh, .ref hb' ?_⟩
     rw [hlen]
     refine .ofSome (upd_self _ _ _) (by simp) g8 g4 ?_
     rcases g6 with h0 | ⟨hA, hr⟩
     ·exact .inl h0
     ·exact .inr ⟨by rw [hA]; simp, by rw [Nat.zero_add]; exact hr⟩
 | @room g' o hm hr hA =>
   cases hpl : place with
   | none => have := (hp0 hpl).2; omega
   | some pl =>
     obtain ⟨g, base⟩ := pl
     obtain ⟨g1, g2, g3, cells, ty, g4, g5, g6, g7, g8⟩ := hp1 g base hpl
     rcases g6 with h0 | ⟨hA', hrr⟩
     ·omega
     ·obtain ⟨rfl, rfl⟩ : g = g' ∧ base = o := by
       rw [hA] at hA'
       simp at hA'
       exact ⟨hA'.1.symm, hA'.2.symm⟩
      have hmul : (os.length + ns.length) * sz ≤ cap * sz := Nat.mul_le_mul_right _ hr
      rw [Nat.add_mul] at hmul
      obtain ⟨cells', hw, hs, hcells⟩ := setCells_wrote g ty news (base + os.length * sz) w cells g4 (by rw [hns.len]; omega)
      have keepD : ∀ {c : AV} {v : Value} {f : List Nat}, Deep w c v f → (∀ x ∈ f, x ≠ g) → Deep (w.setCells g (base + os.length * sz) news) c v f := fun hd hf => hd.keep (fun x hx => hw.else_ x (hf x hx))
      obtain ⟨hh, _⟩ := h.rebuild (w' := w.setCells g (base + os.length * sz) news) (st' := st') (at' := upd at_ b (some (g, base))) (b := b) (blk' := .row sz enc (fun _ => os ++ ns) false) (fp' := (List.range (os ++ ns).length).flatMap fun p => (List.range sz).flatMap (both os.length F G p)) (gone := gone) (hw.mod g1 g4 hs) hst hb' (fun c hc => upd_ne _ _ hc)
       (fun hg blk hb => stay hg blk hb _ _) (fun c k hc hg hk q hq => hw.else_ q (fun e => by subst e; exact g2 c k hc hg hk hq))
       (fun _ => .row (both os.length F G) (upd_self _ _ _) hw.here (by simp only [hll]; rw [hs, Nat.add_mul]; omega) (fun p x hx q hq => by
         have hx : (os ++ ns)[p]? = some x := hx
         have hp := lt_of_get hx
         rw [hll] at hp
         obtain ⟨v, hv, hd⟩ := hel.cells p x hx q hq
         refine ⟨v, ?_, keepD hd (fun y hy e => g3 p q hp hq (e ▸ hy))⟩
         rw [hcells]
         by_cases hpo : p * sz + q < olds.length
         ·rw [List.getElem?_append_left hpo] at hv
          have := hos.len
          rw [if_neg (by omega), Nat.add_assoc]
          exact g5 _ v hv
         ·rw [List.getElem?_append_right (by omega)] at hv
          have hl := hos.len
          have := lt_of_get hv
          rw [if_pos (by omega), show base + p * sz + q - (base + os.length * sz) = p * sz + q - olds.length by omega]
          exact hv))
       (by
         rw [upd_self]
         refine List.nodup_cons.2 ⟨fun hm => ?_, by rw [hll]; exact hnd⟩
         obtain ⟨p, q, hp, hq, hv⟩ := memff g hm
         exact g3 p q hp hq hv)
       (fun v hv => by
         rw [upd_self] at hv
         rcases List.mem_cons.1 hv with e | hv
         ·rw [e]; exact ⟨g1.free, ⟨_, _, hw.here⟩, g2⟩
         ·obtain ⟨p, q, hp, hq, hv⟩ := memff v hv
          obtain ⟨f1, ⟨cs, t, f2⟩, f3⟩ := hff p q hp hq v hv
          exact ⟨f1, ⟨cs, t, (hw.else_ v (fun e => g3 p q hp hq (e ▸ hv))).trans f2⟩, f3⟩) (fun c p hp => .inl (hpin c p hp)) (fun g' base' e => by rw [upd_self] at e; cases e; exact g1) hlit
      refine ⟨_, _, hh, .ref hb' ?_⟩
      rw [hlen]
      exact .ofSome (upd_self _ _ _) (by simp) hr hw.here (.inr ⟨by simp [hA], by rw [Nat.zero_add, hs]; exact hrr⟩)
 | @grow c cs hm hg hc hs hcs =>
   have bel := below_drew w (.cells cs e)
   obtain ⟨hh, _⟩ := h.rebuild (w' := w.drew.alloc (.cells cs e)) (st' := st') (at' := upd at_ b (some (w.heap.size, 0))) (b := b) (blk' := .row sz enc (fun _ => os ++ ns) false) (fp' := (List.range (os ++ ns).length).flatMap fun p => (List.range sz).flatMap (both os.length F G p)) (gone := gone) (.below bel h.good.below.size) hst hb' (fun c hc => upd_ne _ _ hc)
    (fun hg blk hb => stay hg blk hb _ _) (fun c k hc hg hk q hq => bel.block q (h.good.bound hk q hq))
    (fun _ => .row (both os.length F G) (upd_self _ _ _) (drew_here w _) (by simp only [hll]; rw [hs, Nat.zero_add]; exact Nat.mul_le_mul_right _ hc) (fun p x hx q hq => by
      have hx : (os ++ ns)[p]? = some x := hx
      have hp := lt_of_get hx
      rw [hll] at hp
      obtain ⟨v, hv, hd⟩ := hel.cells p x hx q hq
      refine ⟨v, ?_, hd.under bel⟩
      have := Nat.mul_le_mul_right sz (show p + 1 ≤ os.length + ns.length from hp)
      rw [Nat.add_mul] at this
      rw [Nat.zero_add, hcs _ (by omega)]
      exact hv))
    (by
      rw [upd_self]
      refine List.nodup_cons.2 ⟨fun hm => ?_, by rw [hll]; exact hnd⟩
      obtain ⟨p, q, hp, hq, hv⟩ := memff _ hm
      obtain ⟨_, ⟨cs, t, f2⟩, _⟩ := hff p q hp hq _ hv
      exact Nat.lt_irrefl _ (heap_lt f2))
    (fun v hv => by
      rw [upd_self] at hv
      rcases List.mem_cons.1 hv with e | hv
      ·rw [e]
       exact ⟨h.good.below.free (Nat.le_refl _), ⟨_, _, drew_here w _⟩, fun c k hc hg hk hm => Nat.lt_irrefl _ (h.good.bound hk _ hm)⟩
      ·obtain ⟨p, q, hp, hq, hv⟩ := memff v hv
       obtain ⟨f1, ⟨cs2, t, f2⟩, f3⟩ := hff p q hp hq v hv
       exact ⟨f1, ⟨cs2, t, (bel.block v (heap_lt f2)).trans f2⟩, f3⟩) (fun c p hp => .inl (hpin c p hp)) (fun g' base' e => by rw [upd_self] at e; cases e; exact h.good.below.hot (Nat.le_refl _)) hlit
   refine ⟨_, _, hh, .ref hb' ?_⟩
   rw [hlen]
   exact .ofSome (upd_self _ _ _) (by simp) hc (drew_here w _) (.inr ⟨by simp, by rw [Nat.zero_add, Nat.zero_add, hs]; exact Nat.le_refl _⟩)
end Go.V
namespace Go.V
open Go Go.RowKit
theorem flat_deep {w : World} {x : AV} {v : Value} {fp : List Nat} (h : Deep w x v fp) (hf : flat x = true) (w' : World) : Deep w' x v [] ∧ v.oneCell' = true := by
 cases h <;> simp only [flat] at hf <;> first | (cases hf; done) | skip
 ·exact ⟨.int _ _, rfl⟩
 ·exact ⟨.bo _, rfl⟩
 ·exact ⟨.str _, rfl⟩
 ·exact ⟨.nil, rfl⟩
mutual
theorem scrub_id : ∀ (x : AV), scrub (fun _ => false) x = x
 | .ref b o n => by rw [scrub]; rfl
 | .ptr b j => by rw [scrub]; rfl
 | .eptr b i j => by rw [scrub]; rfl
 | .agg cs => by rw [scrub, scrubL_id cs]
 | .tup cs => by rw [scrub, scrubL_id cs]
 | .clo f cs => by rw [scrub, scrubL_id cs]
 | .any => rfl
 | .undef => rfl
 | .int _ _ => rfl
 | .bo _ => rfl
 | .str _ => rfl
 | .nil => rfl
 | .emp => rfl
 | .sl _ _ _ => rfl
 | .own _ _ _ => rfl
 | .rptr _ => rfl
 | .lsl _ => rfl
theorem scrubL_id : ∀ (l : List AV), scrubL (fun _ => false) l = l
 | [] => rfl
 | x :: r => by rw [scrubL, scrub_id x, scrubL_id r]
end
theorem scrubK_id (k : Blk) : scrubK (fun _ => false) k = k := by
 cases k with
 | lit sz cs =>
   rw [scrubK, scrubL_id]
 | row => rfl
section
variable {P : Program}
theorem deep_src {w : World} {α : Type} {sz : Nat} {enc : α → Nat → AV} {ys : Unit → List α} {v : Value} {fp : List Nat} {tx e' : TypeId} (h : Deep w (.sl sz enc ys) v fp) (hk : P.underlying tx = some (.slice e')) (hf : ∀ y ∈ ys (), ∀ j, j < sz → flat (enc y j) = true) :
 ∃ news, Src P sz tx v (ys ()).length news w ∧ Elems w sz enc (ys ()) news (fun _ _ => []) := by
 cases h with
 | sl0 A he =>
   rw [he]
   refine ⟨[], ?_, by simp, fun p x hx => by simp at hx⟩
   cases A with
   | none => exact Src.ofNil w hk 0
   | some a => exact Src.ofSlice w hk a 0 0 [] (by simp) (fun j u hj => by simp at hj) (fun u hu => by cases hu)
 | @sl _ _ _ _ g off cap cs t fr u F hn hg hr hu hd =>
   have hmul : (ys ()).length * sz ≤ cap * sz := Nat.mul_le_mul_right _ hn
   let news : List Value := (List.range ((ys ()).length * sz)).map fun q => cs.getD (off + q) Go.undef
   have hnews : ∀ q, q < (ys ()).length * sz → news[q]? = some (cs.getD (off + q) Go.undef) := fun q hq => by
    show ((List.range _).map _)[q]? = _
    rw [List.getElem?_map, List.getElem?_range hq]
    rfl
   have hlen : news.length = (ys ()).length * sz := by show ((List.range _).map _).length = _; simp
   have cell : ∀ q, q < (ys ()).length * sz → cs[off + q]? = some (cs.getD (off + q) Go.undef) := fun q hq => by
    have : off + q < cs.size := by omega
    simp [Array.getD, this]
   have elem : ∀ p x, (ys ())[p]? = some x → ∀ q, q < sz → news[p * sz + q]? = some (u p q) ∧ Deep w (enc x q) (u p q) (F p q) := fun p x hx q hq => by
    have hp := lt_of_get hx
    have := Nat.mul_le_mul_right sz (show p + 1 ≤ (ys ()).length from hp)
    rw [Nat.add_mul] at this
    have h1 := hu p x hx q hq
    have h2 := cell (p * sz + q) (by omega)
    rw [← Nat.add_assoc, h1] at h2
    refine ⟨?_, hd p x hx q hq⟩
    rw [hnews _ (by omega), ← Nat.add_assoc]
    exact h2.symm
   refine ⟨news, Src.ofSlice w hk ⟨g, off, none⟩ _ cap news hlen (fun j v hj => ?_) (fun v hv => ?_), hlen, fun p x hx q hq => ?_⟩
   ·have hlt := lt_of_get hj
    rw [hlen] at hlt
    rw [hnews j hlt] at hj
    cases hj
    rw [addr_add, cell_of hg]
    exact cell j hlt
   ·obtain ⟨j, hj⟩ := List.getElem?_of_mem hv
    have hlt := lt_of_get hj
    rw [hlen] at hlt
    have hsz : 0 < sz := by
     rcases Nat.eq_zero_or_pos sz with h0 | h0
     ·rw [h0] at hlt; simp at hlt
     ·exact h0
    have hp : j / sz < (ys ()).length := by
     rw [Nat.div_lt_iff_lt_mul hsz]
     exact hlt
    have hq : j % sz < sz := Nat.mod_lt _ hsz
    obtain ⟨h1, h2⟩ := elem (j / sz) _ (List.getElem?_eq_getElem hp) (j % sz) hq
    rw [show j / sz * sz + j % sz = j from Nat.div_add_mod' j sz, hj] at h1
    cases h1
    exact (flat_deep h2 (hf _ (List.getElem_mem hp) _ hq) w).2
   ·obtain ⟨h1, h2⟩ := elem p x hx q hq
    exact ⟨_, h1, (flat_deep h2 (hf x (List.mem_of_getElem? hx) q hq) w).1⟩
end
end Go.V
namespace Go.V
open Go Go.RowKit
section
variable {P : Program} {Q : AV → Prop} {As : List (St → Prop)} {mu : Nat → Bool} {nid : Nat} {o : Oper}
structure AppInfo (P : Program) (o : Oper) (x y : Operand) (size bytes : Nat) : Prop where
 ok : ∃ c t tx e e' i z, o.op = .call c ∧ c.callee = .builtin .append ∧ c.argTypes = #[t, tx] ∧ c.args = #[x, y] ∧ P.underlying t = some (.slice e) ∧ P.underlying tx = some (.slice e') ∧ P.info? e = some i ∧ i.zero = some z ∧ i.size = size ∧ i.bytes = bytes ∧ z.cells.size = size ∧ 0 < size ∧ 0 < bytes ∧ bytes ≤ 65536
 small : size < 99
theorem app_op {x y : Operand} {c : Go.Call} {t tx : TypeId} {a : Act} {w w' : World} {v : Value} (ho : o.op = .call c) (hc : c.callee = .builtin .append) (ht : c.argTypes = #[t, tx]) (ha : c.args = #[x, y]) (h : (Builtin.append_ #[t, tx] o.type #[a.eval x, a.eval y]).run P w = .ok v w') :
 (execOp a.eval o).run P w = .ok (.value v) w' := by
 simp only [execOp, ho, resolve, hc, ha, ht, Sem.run_bind, Sem.run_pure, Result.andThen_ok, invoke, builtin, List.map_toArray, List.map_cons, List.map_nil, h]
theorem app_does {x y : Operand} {size bytes : Nat} (hI : AppInfo P o x y size bytes) {a : Act} {w : World} {A : Option Addr} {n cap m : Nat} {olds news : List Value} (hx : a.eval x = .slice A n cap) (hnc : n ≤ cap)
 (hs : ∀ tx e', P.underlying tx = some (.slice e') → Src P size tx (a.eval y) m news w) (hol : olds.length = n * size) (hold : ∀ j u, olds[j]? = some u → ∃ ad, A = some ad ∧ w.cell? (ad.add j) = some u)
 (hA : 0 < cap → ∃ g o, A = some ⟨g, o, none⟩ ∧ (∀ j, j < cap * size → (w.cell? ⟨g, o + j, none⟩).isSome = true) ∧ ∀ j, w.frozen? ⟨g, j, none⟩ = false) (hbytes : (n + m) * bytes ≤ 140737488351232) :
 ∃ u w' e, (execOp a.eval o).run P w = .ok (.value u) w' ∧ Grown w e size A n cap m olds news u w' := by
 obtain ⟨c, t, tx, e, e', i, z, h1, h2, h3, h4, h5, h6, h7, h8, h9, h10, h11, h12, h13, h14⟩ := hI.ok
 obtain ⟨u, w', hr, hg⟩ := app_run (ty := o.type) h5 h7 h8 h9 h10 h11 h12 h13 hnc (hs tx e' h6) hol hold hA hbytes
 exact ⟨u, w', e, app_op h1 h2 h3 h4 (by rw [hx]; exact hr), hg⟩
theorem scrubT_id {t : Nat} {tm : List (Nat × AV)} : slot t (scrubT (fun _ => false) tm) = slot t tm := by rw [slot_scrub, scrub_id]
theorem m_app_new {x y : Operand} {size bytes : Nat} (hI : AppInfo P o x y size bytes) {α : Type} {enc : α → Nat → AV} {ys : Unit → List α} {m : Unit → Nat} {s : St} {K : AV → St → Tree} {w0 : Base} {w : World} {N : Nat} {a : Act} (hx : ev s.tm x = .nil ∨ ev s.tm x = .emp)
 (hd : ∀ at_ FP, Here w0 N s.tm (fun b => look b s.st) a w at_ FP → ∃ fp, Deep w (.sl size enc ys) (a.eval y) fp) (hf : ∀ y ∈ ys (), ∀ j, j < size → flat (enc y j) = true) (hm : m () = (ys ()).length) (hby : (ys ()).length * bytes ≤ 140737488351232)
 (h : Sat P Q As (K (.ref nid (fun _ => 0) m) { s with st := (nid, .row size enc ys false) :: s.st })) (hr : Rel w0 N s.tm (fun b => look b s.st) a w) (hfr : ∀ b k, look b s.st = some k → b < nid) : MD P Q As o s nid K w0 N a w := by
 obtain ⟨at_, FP, hh⟩ := hr
 obtain ⟨fp, hdy⟩ := hd at_ FP hh
 have hnone : look nid s.st = none := by
  cases e : look nid s.st with
  | none => rfl
  | some k => have := hfr nid k e; omega
 obtain ⟨A, hxv⟩ : ∃ A, a.eval x = .slice A 0 0 := by
  have h1 := hh.ev x
  rcases hx with e | e <;> rw [e] at h1
  ·exact ⟨none, h1.nil_inv⟩
  ·exact h1.emp_inv
 have hpick : ∃ tx e', P.underlying tx = some (.slice e') := by
  obtain ⟨c, t, tx, e, e', i, z, h1, h2, h3, h4, h5, h6, _⟩ := hI.ok
  exact ⟨tx, e', h6⟩
 obtain ⟨tx0, e0, hk0⟩ := hpick
 obtain ⟨news, hs0, hel⟩ := deep_src hdy hk0 hf
 have hsrc : ∀ tx e', P.underlying tx = some (.slice e') → Src P size tx (a.eval y) (ys ()).length news w := fun tx e' hk => ⟨.inl ⟨e', hk⟩, hs0.len, hs0.cells, hs0.cellsD, hs0.newsLen, hs0.one⟩
 obtain ⟨u, w', e, hrun, hg⟩ := app_does (m := (ys ()).length) (olds := []) hI hxv (Nat.le_refl 0) hsrc (by simp) (fun j u hj => by simp at hj) (fun h => absurd h (Nat.lt_irrefl 0)) (by rw [Nat.zero_add]; exact hby)
 obtain ⟨at', FP', hh2, hl2⟩ := app_rebuild (b := nid) (sz := size) (enc := enc) (os := []) (ns := ys ()) (F := fun _ _ => []) (G := fun _ _ => []) (gone := fun _ => false) (st' := fun c => look c ((nid, .row size enc ys false) :: s.st)) (place := none) (len := m) hh hg ⟨by simp, fun p x hx => by simp at hx⟩ hel
  (fun c hc => by
    have e : Nat.beq nid c = false := by
     cases e : Nat.beq nid c with
     | false => rfl
     | true => exact absurd (Nat.eq_of_beq_eq_true e).symm hc
    simp only [look, e, cond_false]
    rw [if_neg (fun h => by cases h), show scrubK (fun _ => false) = id from funext scrubK_id]
    cases look c s.st <;> rfl)
  (by simp only [look, beq_self, cond_true]; rfl) (.inr hnone) (by rw [hm]; simp) (fun _ => ⟨rfl, rfl⟩) (fun g base h => by cases h) (flat_nodup (fun p hp => by rw [show ((List.range size).flatMap (both ([] : List α).length (fun _ _ => []) (fun _ _ => []) p)) = [] from by simp [both]]; exact List.nodup_nil) (fun p q _ _ _ v hv => by simp [both] at hv))
  (fun p q _ _ v hv => by simp [both] at hv) (fun c k hq _ => ⟨fun e => (by subst e; have hq : look c s.st = _ := hq; rw [hnone] at hq; cases hq), rfl⟩)
 refine .inl ⟨u, w', .inl hrun, _, _, h, rfl, fun c k hc => ?_, at', FP', hh2.congr (fun t => scrubT_id) (fun _ => rfl), hl2⟩
 have hc' : look c ((nid, .row size enc ys false) :: s.st) = some k := hc
 rw [look] at hc'
 cases e : Nat.beq nid c with
 | true => have := Nat.eq_of_beq_eq_true e; omega
 | false => simp only [e, cond_false] at hc'; have := hfr c k hc'; omega
theorem app_zero {t tx ty e : TypeId} {i : TypeInfo} {size : Nat} (ht : P.underlying t = some (.slice e)) (hi : P.info? e = some i) (hsize : i.size = size) {w : World} {A : Option Addr} {n cap : Nat} {y : Value} (hnc : n ≤ cap) (hs : Src P size tx y 0 [] w) :
 (Builtin.append_ #[t, tx] ty #[.slice A n cap, y]).run P w = .ok (.slice A n cap) w := by
 subst hsize
 have h1 := hs.cells
 rcases hs.kind with ⟨e', hk⟩ | hk <;> cases A <;> simp [Builtin.append_, run_underlying ht, run_underlying hk, sizeOf, typeInfo, hi, hs.len, hnc, h1, storeCells]
theorem src_zero {w : World} {size : Nat} {tx e' : TypeId} (hk : P.underlying tx = some (.slice e')) (B : Option Addr) : Src P size tx (.slice B 0 0) 0 [] w := by
 cases B with
 | none => exact Src.ofNil w hk 0
 | some a => exact Src.ofSlice w hk a 0 0 [] (by simp) (fun j u hj => by simp at hj) (fun u hu => by cases hu)
theorem ref_row {E : Env} {FP : Nat → List Nat} {b sz : Nat} {off n : Unit → Nat} {α : Type} {enc : α → Nat → AV} {xs : Unit → List α} {fx : Bool} {v : Value} (hG : Good E FP) (hb0 : E.st b = some (.row sz enc xs fx)) (h : Loc E (.ref b off n) v) :
 ∃ A cap, v = .slice A (n ()) cap ∧ n () ≤ cap ∧ off () + n () ≤ (xs ()).length ∧ ((E.at_ b = none ∧ n () = 0 ∧ cap = 0 ∧ xs () = []) ∨
   ∃ g base cells ty, E.at_ b = some (g, base) ∧ E.w.heap[g]? = some (.cells cells ty (0, 0)) ∧ (cap = 0 ∨ (A = some ⟨g, base + off () * sz, none⟩ ∧ base + (off () + cap) * sz ≤ cells.size))) := by
 cases h with
 | refl hb hr => rw [hb0] at hb; cases hb
 | ref hb hr =>
   rw [hb0] at hb
   cases hb
   obtain ⟨hle, hr⟩ := hr
   cases ha : E.at_ b with
   | none =>
     rw [ha] at hr
     obtain ⟨A, rfl⟩ := hr
     have r := hG.rep _ _ hb0
     generalize FP b = fp at r
     cases r with
     | row0 _ hx =>
       rw [hx] at hle
       have hn : n () = 0 := by simp at hle; omega
       rw [hn]
       exact ⟨A, 0, rfl, Nat.le_refl _, by rw [hx]; rw [hn] at hle; exact hle, .inl ⟨rfl, rfl, rfl, hx⟩⟩
     | row F ha' _ _ _ => rw [ha] at ha'; cases ha'
   | some p =>
     obtain ⟨g, base⟩ := p
     rw [ha] at hr
     obtain ⟨A, cap, cs, t, rfl, hn, hg, hA⟩ := hr
     exact ⟨A, cap, rfl, hn, hle, .inr ⟨g, base, cs, t, rfl, hg, hA⟩⟩
theorem m_app_none {x y : Operand} {size bytes : Nat} (hI : AppInfo P o x y size bytes) {s : St} {K : AV → St → Tree} {w0 : Base} {w : World} {N : Nat} {a : Act} (hx : ev s.tm x = .nil ∨ ev s.tm x = .emp ∨ ∃ (b : Nat) (off n : Unit → Nat) (α : Type) (enc : α → Nat → AV) (xs : Unit → List α) (fx : Bool), ev s.tm x = .ref b off n ∧ look b s.st = some (.row size enc xs fx))
 (hy : ev s.tm y = .nil ∨ ev s.tm y = .emp) (h : Sat P Q As (K (ev s.tm x) s)) (hr : Rel w0 N s.tm (fun b => look b s.st) a w) (hfr : ∀ b k, look b s.st = some k → b < nid) : MD P Q As o s nid K w0 N a w := by
 obtain ⟨at_, FP, hh⟩ := hr
 obtain ⟨B, hyv⟩ : ∃ B, a.eval y = .slice B 0 0 := by
  have h1 := hh.ev y
  rcases hy with e | e <;> rw [e] at h1
  ·exact ⟨none, h1.nil_inv⟩
  ·exact h1.emp_inv
 obtain ⟨A, n, cap, hxv, hnc⟩ : ∃ A n cap, a.eval x = .slice A n cap ∧ n ≤ cap := by
  have h1 := hh.ev x
  rcases hx with e | e | ⟨b, off, n, α, enc, xs, fx, e, hb⟩ <;> rw [e] at h1
  ·exact ⟨none, 0, 0, h1.nil_inv, Nat.le_refl _⟩
  ·obtain ⟨A, e⟩ := h1.emp_inv; exact ⟨A, 0, 0, e, Nat.le_refl _⟩
  ·obtain ⟨A, cap, e, hc, _⟩ := ref_row hh.good hb h1
   exact ⟨A, _, cap, e, hc⟩
 obtain ⟨c, t, tx, e, e', i, z, h1, h2, h3, h4, h5, h6, h7, h8, h9, _⟩ := hI.ok
 have hrun := app_zero (ty := o.type) (A := A) h5 h7 h9 hnc (src_zero (w := w) h6 B)
 refine .inl ⟨_, w, .inl (app_op h1 h2 h3 h4 (by rw [hxv, hyv]; exact hrun)), ev s.tm x, s, h, rfl, fun b k hb => by have := hfr b k hb; omega, at_, FP, hh, ?_⟩
 rw [← hxv]
 exact hh.ev x
end
end Go.V
namespace Go.V
open Go Go.RowKit
structure OwnEl (E : Env) (FP : Nat → List Nat) (b sz n cap : Nat) (A : Option Addr) {α : Type} (enc : α → Nat → AV) (os : List α) (olds : List Value) (F : Nat → Nat → List Nat) : Prop where
 le : n ≤ cap
 len : os.length = n
 el : Elems E.w sz enc os olds F
 cell : ∀ j u, olds[j]? = some u → ∃ ad, A = some ad ∧ E.w.cell? (ad.add j) = some u
 room : 0 < cap → ∃ g o, A = some ⟨g, o, none⟩ ∧ (∀ j, j < cap * sz → (E.w.cell? ⟨g, o + j, none⟩).isSome = true) ∧ ∀ j, E.w.frozen? ⟨g, j, none⟩ = false
 no : E.at_ b = none → n = 0 ∧ cap = 0
 yes : ∀ g base, E.at_ b = some (g, base) → ∃ cells ty, E.w.heap[g]? = some (.cells cells ty (0, 0)) ∧ (∀ j u, olds[j]? = some u → cells[base + j]? = some u) ∧ (cap = 0 ∨ (A = some ⟨g, base, none⟩ ∧ base + cap * sz ≤ cells.size)) ∧ base + n * sz ≤ cells.size
 nodup : ((List.range n).flatMap fun p => (List.range sz).flatMap (F p)).Nodup
 own : ∀ p q, p < n → q < sz → ∀ v ∈ F p q, v ∈ E.own FP b ∧ ∀ g base, E.at_ b = some (g, base) → v ≠ g
theorem own_elems {E : Env} {FP : Nat → List Nat} {b sz : Nat} {off n : Unit → Nat} {α : Type} {enc : α → Nat → AV} {xs : Unit → List α} {fx : Bool} {v : Value} (hG : Good E FP) (hb0 : E.st b = some (.row sz enc xs fx)) (h : Loc E (.ref b off n) v) (h0 : off () = 0) (hsz : 0 < sz) :
 ∃ A cap olds F, v = .slice A (n ()) cap ∧ OwnEl E FP b sz (n ()) cap A enc ((xs ()).take (n ())) olds F := by
 obtain ⟨A, cap, hv, hnc, hle, hor⟩ := ref_row hG hb0 h
 rcases hor with ⟨ha, hn, hc, hx⟩ | ⟨g, base, cells, ty, ha, hg, hA⟩
 ·rw [hn] at hv hnc hle ⊢
  subst hc
  refine ⟨A, 0, [], fun _ _ => [], hv, ⟨Nat.le_refl _, by simp, ⟨by simp, fun p x hx => (by simp at hx)⟩, fun j u hj => (by simp at hj), fun h => absurd h (Nat.lt_irrefl 0), fun _ => ⟨rfl, rfl⟩, fun g base e => (by rw [ha] at e; cases e), by simp, fun p q hp => absurd hp (Nat.not_lt_zero _)⟩⟩
 ·have r := hG.rep b _ hb0
  have hnd := hG.nodup b _ hb0
  have hown : E.own FP b = ownOf (E.at_ b) (FP b) := rfl
  rw [hown, ha] at hnd
  have hnd : (g :: FP b).Nodup := hnd
  have fin : ∀ fp, FP b = fp → BlkRep E b (.row sz enc xs fx) fp → ∃ A cap olds F, v = .slice A (n ()) cap ∧ OwnEl E FP b sz (n ()) cap A enc ((xs ()).take (n ())) olds F := by
   intro fp hfp r
   cases r with
   | row0 ha' _ => rw [ha] at ha'; cases ha'
   | @row _ _ _ _ _ g' base' cells' ty' F ha' hg' hr hc =>
     rw [ha] at ha'
     cases ha'
     rw [hg] at hg'
     cases hg'
     rw [hfp] at hnd
     obtain ⟨n1, n2⟩ := List.nodup_cons.1 hnd
     obtain ⟨n3, n4⟩ := nodup_flat n2
     rw [h0] at hle hA
     rw [Nat.zero_add] at hle
     have hlen : ((xs ()).take (n ())).length = n () := by rw [List.length_take]; omega
     have hmul : n () * sz ≤ (xs ()).length * sz := Nat.mul_le_mul_right _ hle
     let olds : List Value := (List.range (n () * sz)).map fun q => cells.getD (base + q) Go.undef
     have holds : ∀ q, q < n () * sz → olds[q]? = some (cells.getD (base + q) Go.undef) ∧ cells[base + q]? = some (cells.getD (base + q) Go.undef) := fun q hq => by
      refine ⟨?_, ?_⟩
      ·show ((List.range _).map _)[q]? = _
       rw [List.getElem?_map, List.getElem?_range hq]
       rfl
      ·have : base + q < cells.size := by omega
       simp [Array.getD, this]
     have hol : olds.length = n () * sz := by show ((List.range _).map _).length = _; simp
     have cell : ∀ j u, olds[j]? = some u → cells[base + j]? = some u := fun j u hj => by
      have hlt := lt_of_get hj
      rw [hol] at hlt
      obtain ⟨h1, h2⟩ := holds j hlt
      rw [h1] at hj
      cases hj
      exact h2
     refine ⟨A, cap, olds, F, hv, ⟨hnc, hlen, ⟨by rw [hol, hlen], fun p x hx q hq => ?_⟩, fun j u hj => ?_, fun hcap => ?_, fun e => (by rw [ha] at e; cases e), fun g2 base2 e => ?_, flat_nodup (fun i hi => n3 i (by omega)) (fun i j hi hj hne => n4 i j (by omega) (by omega) hne), fun p q hp hq u hu => ?_⟩⟩
     ·have hp := lt_of_get hx
      rw [hlen] at hp
      rw [List.getElem?_take, if_pos hp] at hx
      obtain ⟨u, hu, hd⟩ := hc p x hx q hq
      have := Nat.mul_le_mul_right sz (show p + 1 ≤ n () from hp)
      rw [Nat.add_mul] at this
      obtain ⟨h1, h2⟩ := holds (p * sz + q) (by omega)
      rw [← Nat.add_assoc, hu] at h2
      refine ⟨u, ?_, hd⟩
      rw [h1, ← Nat.add_assoc]
      exact h2.symm
     ·have hlt := lt_of_get hj
      rw [hol] at hlt
      have hn0 : 0 < n () := by
       rcases Nat.eq_zero_or_pos (n ()) with e | e
       ·rw [e] at hlt; simp at hlt
       ·exact e
      rcases hA with hA | ⟨hA, _⟩
      ·omega
      ·refine ⟨_, hA, ?_⟩
       rw [Nat.zero_mul, Nat.add_zero, addr_add, cell_of hg]
       exact cell j u hj
     ·rcases hA with hA | ⟨hA, hrr⟩
      ·omega
      ·rw [Nat.zero_mul, Nat.add_zero] at hA
       rw [Nat.zero_add] at hrr
       refine ⟨g, base, hA, fun j hj => ?_, fun j => frozen_of_row E.w g j cells ty hg⟩
       rw [cell_of hg]
       have : base + j < cells.size := by omega
       simp [this]
     ·rw [ha] at e
      cases e
      refine ⟨cells, ty, hg, cell, ?_, by omega⟩
      rcases hA with hA | ⟨hA, hrr⟩
      ·exact .inl hA
      ·rw [Nat.zero_mul, Nat.add_zero] at hA
       rw [Nat.zero_add] at hrr
       exact .inr ⟨hA, hrr⟩
     ·have hm : u ∈ (List.range (xs ()).length).flatMap fun i => (List.range sz).flatMap (F i) := mem_flat (F := fun i => (List.range sz).flatMap (F i)) (by omega) (mem_flat hq hu)
      refine ⟨?_, fun g2 base2 e => ?_⟩
      ·rw [hown, ha]
       show u ∈ g :: FP b
       rw [hfp]
       exact List.mem_cons_of_mem _ hm
      ·rw [ha] at e
       cases e
       exact fun e => n1 (e ▸ hm)
  exact fin _ rfl r
end Go.V
namespace Go.V
open Go Go.RowKit
theorem both_at {n p q : Nat} {F G : Nat → Nat → List Nat} : both n F G p q = if p < n then F p q else G (p - n) q := rfl
theorem both_nodup {n m sz : Nat} {F G : Nat → Nat → List Nat} (hF : ((List.range n).flatMap fun p => (List.range sz).flatMap (F p)).Nodup) (hG : ((List.range m).flatMap fun p => (List.range sz).flatMap (G p)).Nodup)
 (hd : ∀ p q p' q', p < n → q < sz → p' < m → q' < sz → ∀ v ∈ F p q, v ∉ G p' q') : ((List.range (n + m)).flatMap fun p => (List.range sz).flatMap (both n F G p)).Nodup := by
 obtain ⟨f1, f2⟩ := nodup_flat hF
 obtain ⟨g1, g2⟩ := nodup_flat hG
 have eF : ∀ p, p < n → (List.range sz).flatMap (both n F G p) = (List.range sz).flatMap (F p) := fun p hp => by
  congr 1
  funext q
  rw [both_at, if_pos hp]
 have eG : ∀ p, ¬ p < n → (List.range sz).flatMap (both n F G p) = (List.range sz).flatMap (G (p - n)) := fun p hp => by
  congr 1
  funext q
  rw [both_at, if_neg hp]
 have cross : ∀ p p', p < n → p' < m → ∀ v ∈ (List.range sz).flatMap (F p), v ∉ (List.range sz).flatMap (G p') := fun p p' hp hp' v hv hv' => by
  obtain ⟨q, hq, hv⟩ := List.mem_flatMap.1 hv
  obtain ⟨q', hq', hv'⟩ := List.mem_flatMap.1 hv'
  exact hd p q p' q' hp (List.mem_range.1 hq) hp' (List.mem_range.1 hq') v hv hv'
 refine flat_nodup (fun p hp => ?_) (fun p p' hp hp' hne v hv hv' => ?_)
 ·by_cases h : p < n
  ·rw [eF p h]; exact f1 p h
  ·rw [eG p h]; exact g1 (p - n) (by omega)
 ·by_cases h : p < n
  ·rw [eF p h] at hv
   by_cases h' : p' < n
   ·rw [eF p' h'] at hv'; exact f2 p p' h h' hne v hv hv'
   ·rw [eG p' h'] at hv'; exact cross p (p' - n) h (by omega) v hv hv'
  ·rw [eG p h] at hv
   by_cases h' : p' < n
   ·rw [eF p' h'] at hv'; exact cross p' (p - n) h' (by omega) v hv' hv
   ·rw [eG p' h'] at hv'; exact g2 (p - n) (p' - n) (by omega) (by omega) (by omega) v hv hv'
section
variable {P : Program} {Q : AV → Prop} {As : List (St → Prop)} {mu : Nat → Bool} {nid : Nat} {o : Oper}
theorem m_app_row {x y : Operand} {size bytes : Nat} (hI : AppInfo P o x y size bytes) {α : Type} {enc : α → Nat → AV} {xs zs : Unit → List α} {b : Nat} {off n m : Unit → Nat} {s : St} {K : AV → St → Tree} {w0 : Base} {w : World} {N : Nat} {a : Act} (hx : ev s.tm x = .ref b off n) (hb : look b s.st = some (.row size enc xs false)) (h0 : off () = 0)
 (hd : ∀ at_ FP, Here w0 N s.tm (fun b => look b s.st) a w at_ FP → ∃ fp, Deep w (.sl size enc zs) (a.eval y) fp) (hf : ∀ y ∈ zs (), ∀ j, j < size → flat (enc y j) = true) (hm : m () = n () + (zs ()).length) (hby : (n () + (zs ()).length) * bytes ≤ 140737488351232)
 (h : Sat P Q As (K (.ref b (fun _ => 0) m) { tm := scrubT (fun q => Nat.beq q b) s.tm, st := setB b (.row size enc (fun _ => (xs ()).take (n ()) ++ zs ()) false) (s.st.map (scrubB (fun q => Nat.beq q b))), nx := s.nx })) (hr : Rel w0 N s.tm (fun b => look b s.st) a w)
 (hfr : ∀ b k, look b s.st = some k → b < nid) : MD P Q As o s nid K w0 N a w := by
 obtain ⟨at_, FP, hh⟩ := hr
 obtain ⟨fp, hdy⟩ := hd at_ FP hh
 have hpick : ∃ tx e', P.underlying tx = some (.slice e') ∧ 0 < size := by
  obtain ⟨c, t, tx, e, e', i, z, h1, h2, h3, h4, h5, h6, _, _, _, _, _, h12, _⟩ := hI.ok
  exact ⟨tx, e', h6, h12⟩
 obtain ⟨tx0, e0, hk0, hsz⟩ := hpick
 have hxl := hh.ev x
 rw [hx] at hxl
 obtain ⟨A, cap, olds, F, hxv, ow⟩ := own_elems hh.good hb hxl h0 hsz
 obtain ⟨news, hs0, hel⟩ := deep_src hdy hk0 hf
 have hsrc : ∀ tx e', P.underlying tx = some (.slice e') → Src P size tx (a.eval y) (zs ()).length news w := fun tx e' hk => ⟨.inl ⟨e', hk⟩, hs0.len, hs0.cells, hs0.cellsD, hs0.newsLen, hs0.one⟩
 obtain ⟨u, w', e, hrun, hg⟩ := app_does (m := (zs ()).length) (olds := olds) hI hxv ow.le hsrc (by rw [ow.el.len, ow.len]) ow.cell ow.room hby
 have hgr : Grown w e size A ((xs ()).take (n ())).length cap (zs ()).length olds news u w' := by rw [ow.len]; exact hg
 have lk : ∀ c, look c (setB b (.row size enc (fun _ => (xs ()).take (n ()) ++ zs ()) false) (s.st.map (scrubB (fun q => Nat.beq q b)))) = bif Nat.beq b c then some (.row size enc (fun _ => (xs ()).take (n ()) ++ zs ()) false) else (look c s.st).map (scrubK (fun q => Nat.beq q b)) := fun c => by
  rw [look_setB, look_scrub, look_scrub, hb]
  rfl
 have bothF : ∀ p q, p < ((xs ()).take (n ())).length + (zs ()).length → ∀ v ∈ both ((xs ()).take (n ())).length F (fun _ _ => []) p q, p < n () ∧ v ∈ F p q := fun p q hp v hv => by
  rw [both_at, ow.len] at hv
  split at hv
  ·exact ⟨‹_›, hv⟩
  ·cases hv
 obtain ⟨at', FP', hh2, hl2⟩ := app_rebuild (b := b) (sz := size) (enc := enc) (os := (xs ()).take (n ())) (ns := zs ()) (F := F) (G := fun _ _ => []) (gone := fun q => Nat.beq q b)
  (st' := fun c => look c (setB b (.row size enc (fun _ => (xs ()).take (n ()) ++ zs ()) false) (s.st.map (scrubB (fun q => Nat.beq q b))))) (place := at_ b) (len := m) hh hgr ow.el hel
  (fun c hc => by
    have e : Nat.beq b c = false := by
     cases e : Nat.beq b c with
     | false => rfl
     | true => exact absurd (Nat.eq_of_beq_eq_true e).symm hc
    have e' : Nat.beq c b = false := by
     cases e : Nat.beq c b with
     | false => rfl
     | true => exact absurd (Nat.eq_of_beq_eq_true e) hc
    rw [lk, e, cond_false, e', if_neg (fun h => by cases h)])
  (by rw [lk, beq_self]; rfl) (.inl (beq_self b)) (by rw [hm, ow.len]) (fun e => by rw [ow.len]; exact ow.no e)
  (fun g base e => by
    have hown : g ∈ (⟨w0, w, at_, fun b => look b s.st⟩ : Env).own FP b := by
     show g ∈ ownOf (at_ b) (FP b)
     rw [e]
     exact List.mem_cons_self ..
    obtain ⟨cells, ty, y1, y2, y3, y4⟩ := ow.yes g base e
    refine ⟨hh.good.rt.hot b _ hb g base e, fun c k hc _ hk => hh.good.apart b c _ k hb hk (fun e => hc e.symm) g hown, fun p q hp hq hm => ?_, cells, ty, y1, y2, y3, by rw [ow.len]; exact y4, by rw [ow.len]; exact ow.le⟩
    obtain ⟨h1, h2⟩ := bothF p q hp g hm
    exact (ow.own p q h1 hq g h2).2 g base e rfl)
  (both_nodup (by rw [ow.len]; exact ow.nodup) (flat_nodup (fun p hp => by rw [show ((List.range size).flatMap fun _ => ([] : List Nat)) = [] from by simp]; exact List.nodup_nil) (fun p q _ _ _ v hv => by simp at hv)) (fun p q p' q' _ _ _ _ v _ hv => by cases hv))
  (fun p q hp hq v hv => by
    obtain ⟨h1, h2⟩ := bothF p q hp v hv
    have hm := (ow.own p q h1 hq v h2).1
    exact ⟨hh.good.base b _ hb v hm, hh.good.fresh b _ hb v hm, fun c k hc _ hk => hh.good.apart b c _ k hb hk (fun e => hc e.symm) v hm⟩)
  (fun c k hq hk => by
    have hq : look c s.st = _ := hq
    have hcb : c ≠ b := fun e => (by subst e; rw [hb] at hq; cases hq; cases hk)
    refine ⟨hcb, ?_⟩
    cases e : Nat.beq c b with
    | true => exact absurd (Nat.eq_of_beq_eq_true e) hcb
    | false => rfl)
 refine .inl ⟨u, w', .inl hrun, _, _, h, rfl, fun c k hc => ?_, at', FP', hh2, hl2⟩
 have hc' : look c (setB b (.row size enc (fun _ => (xs ()).take (n ()) ++ zs ()) false) (s.st.map (scrubB (fun q => Nat.beq q b)))) = some k := hc
 rw [lk] at hc'
 cases e : Nat.beq b c with
 | true =>
   have := Nat.eq_of_beq_eq_true e
   subst this
   have := hfr b _ hb
   omega
 | false =>
   rw [e, cond_false, Option.map_eq_some_iff] at hc'
   obtain ⟨k', hk', _⟩ := hc'
   have := hfr c k' hk'
   omega
end
end Go.V
namespace Go.V
open Go Go.RowKit
theorem deep_one {w : World} {x : AV} {v : Value} {fp : List Nat} (h : Deep w x v fp) (hc : cellOk x = true) : v.oneCell' = true := by
 cases h <;> first | rfl | (simp [cellOk] at hc; done)
section
variable {P : Program}
theorem lit_src {E : Env} {FP : Nat → List Nat} {b sz : Nat} {off n : Unit → Nat} {cs ys : List AV} {stx rest : List (Nat × Blk)} {v : Value} (hG : Good E FP) (hb : E.st b = some (.lit sz cs)) (hl : Loc E (.ref b off n) v) (h0 : off () = 0) (h1 : n () = 1) (hcs : cs.length = sz) (hsz : 0 < sz)
 (hst : ∀ b k, look b stx = some k → E.st b = some k) (hexp : expL (exp 3) stx cs = some (ys, rest)) (hok : ys.all cellOk = true) {α : Type} {enc : α → Nat → AV} {x : α} (hty : ∀ (j : Nat) (c : AV), ys[j]? = some c → LeD c (enc x j)) :
 ∃ news, ∃ G : Nat → List Nat, (∀ tx e', P.underlying tx = some (.slice e') → Src P sz tx v 1 news E.w) ∧ Elems E.w sz enc [x] news (fun _ q => G q) ∧ (∀ i, i < sz → (G i).Nodup) ∧ (∀ i j, i < sz → j < sz → i ≠ j → ∀ g ∈ G i, g ∉ G j) ∧
   (∀ i, i < sz → ∀ g ∈ G i, ∃ b, look b stx ≠ none ∧ look b rest = none ∧ g ∈ E.own FP b) ∧ ∀ b k, look b rest = some k → look b stx = some k := by
 cases hl with
 | ref hb' hr => rw [hb] at hb'; cases hb'
 | refl hb' hr =>
   rw [hb] at hb'
   cases hb'
   obtain ⟨hle, hr⟩ := hr
   have r := hG.rep b _ hb
   generalize FP b = fp at r
   cases r with
   | @lit _ _ g base cells ty ha hg hc =>
     rw [ha] at hr
     obtain ⟨A, cap, cs2, t2, rfl, hnc, hg2, hA⟩ := hr
     rw [h0] at hA
     rcases hA with hA | ⟨rfl, hA⟩
     ·omega
     ·rw [Nat.zero_mul, Nat.add_zero, h1]
      have hloc : ∀ i x, cs[i]? = some x → Loc E x (cells.getD (base + i) Go.undef) := fun i x hx => by
       obtain ⟨u, hu, hl⟩ := hc i x hx
       rw [Array.getD_eq_getD_getElem?, hu]
       exact hl
      obtain ⟨e1, G, e2, e3, e4, e5, e6⟩ := expL_ok (exp_ok 3) hG cs ys stx rest (fun q => cells.getD (base + q) Go.undef) hst hexp hloc
      have hnews : ∀ q, q < sz → ((List.range sz).map fun q => cells.getD (base + q) Go.undef)[q]? = some (cells.getD (base + q) Go.undef) := fun q hq => by
       rw [List.getElem?_map, List.getElem?_range hq]
       rfl
      have hcell : ∀ q, q < sz → cells[base + q]? = some (cells.getD (base + q) Go.undef) := fun q hq => by
       obtain ⟨u, hu, _⟩ := hc q _ (List.getElem?_eq_getElem (by omega))
       rw [Array.getD_eq_getD_getElem?, hu]
       rfl
      refine ⟨(List.range sz).map fun q => cells.getD (base + q) Go.undef, G, fun tx e' hk => Src.ofSlice E.w hk ⟨g, base, none⟩ 1 cap _ (by simp) (fun j u hj => ?_) (fun u hu => ?_), ⟨by simp, fun p z hz q hq => ?_⟩, fun i hi => e3 i (by omega), fun i j hi hj => e4 i j (by omega) (by omega), fun i hi => e5 i (by omega), e6⟩
      ·have hlt := lt_of_get hj
       simp only [List.length_map, List.length_range] at hlt
       rw [hnews j hlt] at hj
       cases hj
       rw [addr_add, cell_of hg]
       exact hcell j hlt
      ·obtain ⟨q, hq, rfl⟩ := List.mem_map.1 hu
       have hlt := List.mem_range.1 hq
       have hy := List.getElem?_eq_getElem (show q < ys.length by omega)
       exact deep_one (e2 q _ hy) (List.all_eq_true.1 hok _ (List.getElem_mem _))
      ·cases p with
       | succ p => simp at hz
       | zero =>
         simp at hz
         subst hz
         have hy := List.getElem?_eq_getElem (show q < ys.length by omega)
         refine ⟨_, by rw [Nat.zero_mul, Nat.zero_add]; exact hnews q hq, (hty q _ hy).deep (e2 q _ hy)⟩
end
end Go.V
namespace Go.V
open Go Go.RowKit
def wentOf (st rest : List (Nat × Blk)) : Nat → Bool := fun q => match look q st, look q rest with | some _, none => true | _, _ => false
theorem look_cons_ne {b c : Nat} {k : Blk} {l : List (Nat × Blk)} (h : c ≠ b) : look c ((b, k) :: l) = look c l := by
 rw [look]
 have e : Nat.beq b c = false := by
  cases e : Nat.beq b c with
  | false => rfl
  | true => exact absurd (Nat.eq_of_beq_eq_true e).symm h
 simp only [e, cond_false]
theorem went_look {st rest : List (Nat × Blk)} {f : Nat → Bool} (hsub : ∀ b k, look b rest = some k → look b st = some k) (c : Nat) (hf : f c = wentOf st rest c) : (look c rest).map (scrubK f) = if f c = true then none else (look c st).map (scrubK f) := by
 rw [hf]
 unfold wentOf
 cases e1 : look c st with
 | none =>
   cases e2 : look c rest with
   | none => rfl
   | some k => have := hsub c k e2; rw [e1] at this; cases this
 | some k =>
   cases e2 : look c rest with
   | none => rfl
   | some k' =>
     have := hsub c k' e2
     rw [e1] at this
     cases this
     rfl
theorem look_drop_other {b c : Nat} {l : List (Nat × Blk)} (h : c ≠ b) : look c (drop_ b l) = look c l := by
 rw [look_drop]
 cases e : Nat.beq b c with
 | true => exact absurd (Nat.eq_of_beq_eq_true e).symm h
 | false => rfl
theorem went_false {st rest : List (Nat × Blk)} {c : Nat} (h : look c rest = look c st) : wentOf st rest c = false := by
 unfold wentOf
 rw [h]
 cases look c st <;> rfl
theorem look_drop_some {b c : Nat} {k : Blk} {l : List (Nat × Blk)} (h : look c (drop_ b l) = some k) : c ≠ b ∧ look c l = some k := by
 rw [look_drop] at h
 cases e : Nat.beq b c with
 | true => rw [e] at h; cases h
 | false => rw [e] at h; exact ⟨fun e' => (by subst e'; rw [Nat.beq_refl] at e; cases e), h⟩
theorem look_drop_ne {b c : Nat} {l : List (Nat × Blk)} (h : look c (drop_ b l) ≠ none) : c ≠ b ∧ ∃ k, look c l = some k := by
 cases e : look c (drop_ b l) with
 | none => exact absurd e h
 | some k => obtain ⟨h1, h2⟩ := look_drop_some e; exact ⟨h1, k, h2⟩
section
variable {P : Program} {Q : AV → Prop} {As : List (St → Prop)} {mu : Nat → Bool} {nid : Nat} {o : Oper}
theorem m_app_lit_new {x y : Operand} {size bytes : Nat} (hI : AppInfo P o x y size bytes) {b : Nat} {off n : Unit → Nat} {cs ys : List AV} {rest : List (Nat × Blk)} {s : St} {K : AV → St → Tree} {w0 : Base} {w : World} {N : Nat} {a : Act} (hx : ev s.tm x = .nil ∨ ev s.tm x = .emp)
 (hy : ev s.tm y = .ref b off n) (hb : look b s.st = some (.lit size cs)) (hcs : cs.length = size) (hexp : expL (exp 3) (drop_ b s.st) cs = some (ys, rest)) (hok : ys.all cellOk = true) (h0 : off () = 0) (h1 : n () = 1) {α : Type} {enc : α → Nat → AV} {z : α} (hty : ∀ (j : Nat) (c : AV), ys[j]? = some c → LeD c (enc z j))
 (h : Sat P Q As (K (.ref nid (fun _ => 0) (fun _ => 1)) { tm := scrubT (wentOf s.st rest) s.tm, st := (nid, .row size enc (fun _ => [z]) false) :: rest.map (scrubB (wentOf s.st rest)), nx := s.nx })) (hr : Rel w0 N s.tm (fun b => look b s.st) a w) (hfr : ∀ b k, look b s.st = some k → b < nid) : MD P Q As o s nid K w0 N a w := by
 obtain ⟨at_, FP, hh⟩ := hr
 have hnone : look nid s.st = none := by
  cases e : look nid s.st with
  | none => rfl
  | some k => have := hfr nid k e; omega
 obtain ⟨A, hxv⟩ : ∃ A, a.eval x = .slice A 0 0 := by
  have h1 := hh.ev x
  rcases hx with e | e <;> rw [e] at h1
  ·exact ⟨none, h1.nil_inv⟩
  ·exact h1.emp_inv
 have hpick : 0 < size ∧ bytes ≤ 65536 := by
  obtain ⟨c, t, tx, e, e', i, z, h1, h2, h3, h4, h5, h6, _, _, _, _, _, h12, _, h14⟩ := hI.ok
  exact ⟨h12, h14⟩
 obtain ⟨hsz, hby⟩ := hpick
 have hyl := hh.ev y
 rw [hy] at hyl
 obtain ⟨news, G, hsrc, hel, g1, g2, g3, g4⟩ := lit_src (P := P) (enc := enc) (x := z) hh.good hb hyl h0 h1 hcs hsz (fun b k hk => (look_drop_some hk).2) hexp hok hty
 have hsub : ∀ b k, look b rest = some k → look b s.st = some k := fun b k hk => (look_drop_some (g4 b k hk)).2
 obtain ⟨u, w', e, hrun, hg⟩ := app_does (m := 1) (olds := []) hI hxv (Nat.le_refl 0) hsrc (by simp) (fun j u hj => by simp at hj) (fun h => absurd h (Nat.lt_irrefl 0)) (by omega)
 have from_ : ∀ q, q < size → ∀ v ∈ G q, ∃ c k, look c s.st = some k ∧ wentOf s.st rest c = true ∧ v ∈ (⟨w0, w, at_, fun b => look b s.st⟩ : Env).own FP c := fun q hq v hv => by
  obtain ⟨c, c1, c2, c3⟩ := g3 q hq v hv
  obtain ⟨_, k, hk⟩ := look_drop_ne c1
  refine ⟨c, k, hk, ?_, c3⟩
  unfold wentOf
  rw [hk, c2]
 have e0 : ∀ p q, both ([] : List α).length (fun _ _ => []) (fun _ q => G q) p q = G q := fun p q => if_neg (Nat.not_lt_zero _)
 obtain ⟨at', FP', hh2, hl2⟩ := app_rebuild (b := nid) (sz := size) (enc := enc) (os := []) (ns := [z]) (F := fun _ _ => []) (G := fun _ q => G q) (gone := wentOf s.st rest)
  (st' := fun c => look c ((nid, .row size enc (fun _ => [z]) false) :: rest.map (scrubB (wentOf s.st rest)))) (place := none) (len := fun _ => 1) hh hg ⟨by simp, fun p x hx => by simp at hx⟩ hel
  (fun c hc => by
    show look c _ = _
    rw [look_cons_ne hc, look_scrub]
    exact went_look hsub c rfl)
  (by simp only [look, beq_self, cond_true]; rfl) (.inr hnone) rfl (fun _ => ⟨rfl, rfl⟩) (fun g base h => by cases h)
  (flat_nodup (fun p hp => flat_nodup (fun q hq => by rw [e0]; exact g1 q hq) (fun q q' hq hq' hne v hv => by rw [e0] at hv ⊢; exact g2 q q' hq hq' hne v hv)) (fun p p' hp hp' hne => by simp at hp hp'; omega))
  (fun p q _ hq v hv => by
    rw [e0] at hv
    obtain ⟨c, k, hk, hw, hm⟩ := from_ q hq v hv
    refine ⟨hh.good.base c k hk v hm, hh.good.fresh c k hk v hm, fun c' k' _ hw' hk' => hh.good.apart c c' k k' hk hk' (fun e => ?_) v hm⟩
    subst e
    rw [hw] at hw'
    cases hw')
  (fun c k hq hk => by
    have hq : look c s.st = _ := hq
    have hcb : c ≠ b := fun e => (by subst e; rw [hb] at hq; cases hq; rw [notFx_lit' _ _ hI.small] at hk; cases hk)
    have hd : look c (drop_ b s.st) = look c s.st := look_drop_other hcb
    have := expL_fx (exp_fx 3) _ _ _ _ hexp c ⟨k, hd.trans hq, hk⟩
    exact ⟨fun e => (by subst e; rw [hnone] at hq; cases hq), went_false (this.trans hd)⟩)
 refine .inl ⟨u, w', .inl hrun, _, _, h, rfl, fun c k hc => ?_, at', FP', hh2, hl2⟩
 have hc' : look c ((nid, .row size enc (fun _ => [z]) false) :: rest.map (scrubB (wentOf s.st rest))) = some k := hc
 by_cases e : c = nid
 ·omega
 ·rw [look_cons_ne e, look_scrub, Option.map_eq_some_iff] at hc'
  obtain ⟨k', hk', _⟩ := hc'
  have := hfr c k' (hsub c k' hk')
  omega
def goneOf2 (b : Nat) (st rest : List (Nat × Blk)) : Nat → Bool := fun q => bif Nat.beq q b then true else match look q st, look q rest with | some _, none => true | _, _ => false
theorem m_app_lit_row {x y : Operand} {size bytes : Nat} (hI : AppInfo P o x y size bytes) {α : Type} {enc : α → Nat → AV} {xs : Unit → List α} {b b' : Nat} {off n off' n' : Unit → Nat} {cs ys : List AV} {rest : List (Nat × Blk)} {s : St} {K : AV → St → Tree} {w0 : Base} {w : World} {N : Nat} {a : Act} (hx : ev s.tm x = .ref b off n) (hbx : look b s.st = some (.row size enc xs false)) (h0 : off () = 0)
 (hy : ev s.tm y = .ref b' off' n') (hb : look b' s.st = some (.lit size cs)) (hcs : cs.length = size) (hne : b' ≠ b) (hexp : expL (exp 3) (drop_ b (drop_ b' s.st)) cs = some (ys, rest)) (hok : ys.all cellOk = true) (h0' : off' () = 0) (h1 : n' () = 1) {z : α} (hty : ∀ (j : Nat) (c : AV), ys[j]? = some c → LeD c (enc z j)) (hby : (n () + 1) * bytes ≤ 140737488351232)
 (h : Sat P Q As (K (.ref b (fun _ => 0) (fun _ => n () + 1)) { tm := scrubT (goneOf2 b s.st rest) s.tm, st := (b, .row size enc (fun _ => (xs ()).take (n ()) ++ [z]) false) :: rest.map (scrubB (goneOf2 b s.st rest)), nx := s.nx })) (hr : Rel w0 N s.tm (fun b => look b s.st) a w) (hfr : ∀ b k, look b s.st = some k → b < nid) : MD P Q As o s nid K w0 N a w := by
 obtain ⟨at_, FP, hh⟩ := hr
 have hpick : 0 < size ∧ bytes ≤ 65536 := by
  obtain ⟨c, t, tx, e, e', i, z, h1, h2, h3, h4, h5, h6, _, _, _, _, _, h12, _, h14⟩ := hI.ok
  exact ⟨h12, h14⟩
 obtain ⟨hsz, _⟩ := hpick
 have hxl := hh.ev x
 rw [hx] at hxl
 obtain ⟨A, cap, olds, F, hxv, ow⟩ := own_elems hh.good hbx hxl h0 hsz
 have hyl := hh.ev y
 rw [hy] at hyl
 have sub1 : ∀ c k, look c (drop_ b (drop_ b' s.st)) = some k → c ≠ b ∧ look c s.st = some k := fun c k hk => by
  obtain ⟨h1, h2⟩ := look_drop_some hk
  exact ⟨h1, (look_drop_some h2).2⟩
 obtain ⟨news, G, hsrc, hel, g1, g2, g3, g4⟩ := lit_src (P := P) (enc := enc) (x := z) hh.good hb hyl h0' h1 hcs hsz (fun c k hk => (sub1 c k hk).2) hexp hok hty
 have hsub : ∀ c k, look c rest = some k → look c s.st = some k := fun c k hk => (sub1 c k (g4 c k hk)).2
 obtain ⟨u, w', e, hrun, hg⟩ := app_does (m := 1) (olds := olds) hI hxv ow.le hsrc (by rw [ow.el.len, ow.len]) ow.cell ow.room hby
 have hgr : Grown w e size A ((xs ()).take (n ())).length cap [z].length olds news u w' := by rw [ow.len]; exact hg
 have goneb : goneOf2 b s.st rest b = true := by unfold goneOf2; rw [beq_self]; rfl
 have gonec : ∀ c, c ≠ b → goneOf2 b s.st rest c = wentOf s.st rest c := fun c hc => by
  unfold goneOf2 wentOf
  have e' : Nat.beq c b = false := by
   cases e : Nat.beq c b with
   | false => rfl
   | true => exact absurd (Nat.eq_of_beq_eq_true e) hc
  rw [e', cond_false]
 have from_ : ∀ q, q < size → ∀ v ∈ G q, ∃ c k, c ≠ b ∧ look c s.st = some k ∧ goneOf2 b s.st rest c = true ∧ v ∈ (⟨w0, w, at_, fun b => look b s.st⟩ : Env).own FP c := fun q hq v hv => by
  obtain ⟨c, c1, c2, c3⟩ := g3 q hq v hv
  cases ec : look c (drop_ b (drop_ b' s.st)) with
  | none => exact absurd ec c1
  | some k =>
    obtain ⟨hcb, hk⟩ := sub1 c k ec
    refine ⟨c, k, hcb, hk, ?_, c3⟩
    rw [gonec c hcb]
    unfold wentOf
    rw [hk, c2]
 have ownb : ∀ p q, p < n () → q < size → ∀ v ∈ F p q, v ∈ (⟨w0, w, at_, fun b => look b s.st⟩ : Env).own FP b := fun p q hp hq v hv => (ow.own p q hp hq v hv).1
 have cases_ : ∀ p q, p < ((xs ()).take (n ())).length + [z].length → q < size → ∀ v ∈ both ((xs ()).take (n ())).length F (fun _ q => G q) p q, (p < n () ∧ v ∈ F p q) ∨ v ∈ G q := fun p q hp hq v hv => by
  rw [both_at, ow.len] at hv
  split at hv
  ·exact .inl ⟨‹_›, hv⟩
  ·exact .inr hv
 obtain ⟨at', FP', hh2, hl2⟩ := app_rebuild (b := b) (sz := size) (enc := enc) (os := (xs ()).take (n ())) (ns := [z]) (F := F) (G := fun _ q => G q) (gone := goneOf2 b s.st rest)
  (st' := fun c => look c ((b, .row size enc (fun _ => (xs ()).take (n ()) ++ [z]) false) :: rest.map (scrubB (goneOf2 b s.st rest)))) (place := at_ b) (len := fun _ => n () + 1) hh hgr ow.el hel
  (fun c hc => by
    show look c _ = _
    rw [look_cons_ne hc, look_scrub]
    exact went_look hsub c (gonec c hc))
  (by simp only [look, beq_self, cond_true]) (.inl goneb) (by rw [ow.len]; rfl) (fun e => by rw [ow.len]; exact ow.no e)
  (fun g base e => by
    have hown : g ∈ (⟨w0, w, at_, fun b => look b s.st⟩ : Env).own FP b := by
     show g ∈ ownOf (at_ b) (FP b)
     rw [e]
     exact List.mem_cons_self ..
    obtain ⟨cells, ty, y1, y2, y3, y4⟩ := ow.yes g base e
    refine ⟨hh.good.rt.hot b _ hbx g base e, fun c k hc _ hk => hh.good.apart b c _ k hbx hk (fun e => hc e.symm) g hown, fun p q hp hq hm => ?_, cells, ty, y1, y2, y3, by rw [ow.len]; exact y4, by rw [ow.len]; exact ow.le⟩
    rcases cases_ p q hp hq g hm with ⟨h1, h2⟩ | h2
    ·exact (ow.own p q h1 hq g h2).2 g base e rfl
    ·obtain ⟨c, k, hcb, hk, _, hm⟩ := from_ q hq g h2
     exact hh.good.apart b c _ k hbx hk (fun e => hcb e.symm) g hown hm)
  (both_nodup (by rw [ow.len]; exact ow.nodup) (flat_nodup (fun p hp => flat_nodup (fun q hq => g1 q hq) (fun q q' hq hq' hne v hv => g2 q q' hq hq' hne v hv)) (fun p p' hp hp' hne => by simp at hp hp'; omega)) (fun p q p' q' hp hq _ hq' v hv hv' => by
    rw [ow.len] at hp
    obtain ⟨c, k, hcb, hk, _, hm⟩ := from_ q' hq' v hv'
    exact hh.good.apart b c _ k hbx hk (fun e => hcb e.symm) v (ownb p q hp hq v hv) hm))
  (fun p q hp hq v hv => by
    rcases cases_ p q hp hq v hv with ⟨h1, h2⟩ | h2
    ·have hm := ownb p q h1 hq v h2
     exact ⟨hh.good.base b _ hbx v hm, hh.good.fresh b _ hbx v hm, fun c k hc _ hk => hh.good.apart b c _ k hbx hk (fun e => hc e.symm) v hm⟩
    ·obtain ⟨c, k, hcb, hk, hw, hm⟩ := from_ q hq v h2
     refine ⟨hh.good.base c k hk v hm, hh.good.fresh c k hk v hm, fun c' k' _ hw' hk' => hh.good.apart c c' k k' hk hk' (fun e => ?_) v hm⟩
     subst e
     rw [hw] at hw'
     cases hw')
  (fun c k hq hk => by
    have hq : look c s.st = _ := hq
    have hcb : c ≠ b := fun e => (by subst e; rw [hbx] at hq; cases hq; cases hk)
    have hcb' : c ≠ b' := fun e => (by subst e; rw [hb] at hq; cases hq; rw [notFx_lit' _ _ hI.small] at hk; cases hk)
    have hd : look c (drop_ b (drop_ b' s.st)) = look c s.st := (look_drop_other hcb).trans (look_drop_other hcb')
    have := expL_fx (exp_fx 3) _ _ _ _ hexp c ⟨k, hd.trans hq, hk⟩
    exact ⟨hcb, by rw [gonec c hcb]; exact went_false (this.trans hd)⟩)
 refine .inl ⟨u, w', .inl hrun, _, _, h, rfl, fun c k hc => ?_, at', FP', hh2, hl2⟩
 have hc' : look c ((b, .row size enc (fun _ => (xs ()).take (n ()) ++ [z]) false) :: rest.map (scrubB (goneOf2 b s.st rest))) = some k := hc
 by_cases e : c = b
 ·subst e
  have := hfr c _ hbx
  omega
 ·rw [look_cons_ne e, look_scrub, Option.map_eq_some_iff] at hc'
  obtain ⟨k', hk', _⟩ := hc'
  have := hfr c k' (hsub c k' hk')
  omega
end
end Go.V
namespace Go.V
open Go Go.RowKit
theorem Elems.flat {w : World} {α : Type} {sz : Nat} {enc : α → Nat → AV} {el : List α} {vals : List Value} {F : Nat → Nat → List Nat} (h : Elems w sz enc el vals F) (hf : ∀ y ∈ el, ∀ q, q < sz → Go.V.flat (enc y q) = true) (w' : World) : Elems w' sz enc el vals (fun _ _ => []) :=
 ⟨h.len, fun p x hx q hq => by
  obtain ⟨u, hu, hd⟩ := h.cells p x hx q hq
  exact ⟨u, hu, (flat_deep hd (hf x (List.mem_of_getElem? hx) q hq) w').1⟩⟩
theorem Elems.take {w : World} {α : Type} {sz : Nat} {enc : α → Nat → AV} {el : List α} {vals : List Value} (h : Elems w sz enc el vals (fun _ _ => [])) (i : Nat) (hi : i ≤ el.length) : Elems w sz enc (el.take i) (vals.take (i * sz)) (fun _ _ => []) :=
 ⟨by rw [List.length_take, List.length_take, h.len, Nat.min_eq_left hi, Nat.min_eq_left (Nat.mul_le_mul_right _ hi)], fun p x hx q hq => by
  have hp := lt_of_get hx
  rw [List.length_take] at hp
  rw [List.getElem?_take, if_pos (by omega)] at hx
  obtain ⟨u, hu, hd⟩ := h.cells p x hx q hq
  have h2 : (p + 1) * sz ≤ i * sz := Nat.mul_le_mul_right _ (by omega)
  rw [Nat.add_mul] at h2
  exact ⟨u, by rw [List.getElem?_take, if_pos (by omega)]; exact hu, hd⟩⟩
theorem Elems.drop {w : World} {α : Type} {sz : Nat} {enc : α → Nat → AV} {el : List α} {vals : List Value} (h : Elems w sz enc el vals (fun _ _ => [])) (i : Nat) : Elems w sz enc (el.drop i) (vals.drop (i * sz)) (fun _ _ => []) :=
 ⟨by rw [List.length_drop, List.length_drop, h.len, Nat.sub_mul], fun p x hx q hq => by
  rw [List.getElem?_drop] at hx
  obtain ⟨u, hu, hd⟩ := h.cells (i + p) x hx q hq
  refine ⟨u, ?_, hd⟩
  rw [List.getElem?_drop, ← hu]
  congr 1
  rw [Nat.add_mul]
  omega⟩
theorem locS_deep {E : Env} {x : AV} {u : Value} (hf : flatS x = true) (h : Loc E x u) (w : World) : Deep w x u [] := by
 cases h <;> first | (cases hf; done) | exact .int _ _ | exact .bo _ | exact .str _
section
variable {P : Program} {Q : AV → Prop} {As : List (St → Prop)} {mu : Nat → Bool} {nid : Nat} {o : Oper}
theorem m_ins {c : Go.Call} {f z : Nat} {x i y : Operand} {k : IntKind} {j : Unit → Int} {α : Type} {enc : α → Nat → AV} {xs : Unit → List α} {b b' : Nat} {off n off' n' : Unit → Nat} {cs : List AV} {s : St} {K : AV → St → Tree} {w0 : Base} {w : World} {N : Nat} {a : Act} (ho : o.op = .call c) (hcal : c.callee = .value (.func f)) (hargs : c.args.toList = [x, i, y])
 (hx : ev s.tm x = .ref b off n) (hi : ev s.tm i = .int k j) (hy : ev s.tm y = .ref b' off' n') (hbx : look b s.st = some (.row z enc xs false)) (hby : look b' s.st = some (.lit z cs)) (hk : k = .i64) (hcs : cs.length = z) (hz0 : 0 < z) (hz : z < 99) (hfl : cs.all flatS = true) (hne : b' ≠ b)
 (hneed : off () = 0 ∧ off' () = 0 ∧ n' () = 1 ∧ 0 ≤ j () ∧ j () ≤ (n () : Int) ∧ n () ≤ 1000000 ∧ ∀ y ∈ xs (), ∀ q, q < z → flatS (enc y q) = true) {e : α} (hty : ∀ (q : Nat) (c : AV), cs[q]? = some c → LeD c (enc e q)) (hF : InsSpec P f z)
 (h : Sat P Q As (K (.ref b (fun _ => 0) (fun _ => n () + 1)) { tm := scrubT (fun q => Nat.beq q b) s.tm, st := setB b (.row z enc (fun _ => ((xs ()).take (n ())).take (j ()).toNat ++ e :: ((xs ()).take (n ())).drop (j ()).toNat) false) (s.st.map (scrubB (fun q => Nat.beq q b))), nx := s.nx }))
 (hr : Rel w0 N s.tm (fun b => look b s.st) a w) (hfr : ∀ b k, look b s.st = some k → b < nid) : MD P Q As o s nid K w0 N a w := by
 obtain ⟨at_, FP, hh⟩ := hr
 obtain ⟨o1, o2, o3, o4, o5, o6, o7⟩ := hneed
 have hxl := hh.ev x
 rw [hx] at hxl
 obtain ⟨A, cap, olds, F, hxv, ow⟩ := own_elems hh.good hbx hxl o1 hz0
 have hil := hh.ev i
 rw [hi] at hil
 have hiv : a.eval i = .int .i64 (j ()) := by
  rw [hk] at hil
  generalize a.eval i = v at hil ⊢
  cases hil
  rfl
 have hyl := hh.ev y
 rw [hy] at hyl
 have flx : ∀ y ∈ (xs ()).take (n ()), ∀ q, q < z → flat (enc y q) = true := fun y hy q hq => flatS_flat (o7 y (List.mem_of_mem_take hy) q hq)
 obtain ⟨g', base', cells', ty', cap', hyv, hg', hvc, hat', hc'⟩ : ∃ g' base' cells' ty' cap', a.eval y = .slice (some ⟨g', base', none⟩) 1 cap' ∧ w.heap[g']? = some (.cells cells' ty' (0, 0)) ∧ 1 ≤ cap' ∧ at_ b' = some (g', base') ∧
  ∀ (q : Nat) (x : AV), cs[q]? = some x → ∃ u, cells'[base' + q]? = some u ∧ Loc ⟨w0, w, at_, fun b => look b s.st⟩ x u := by
  generalize a.eval y = v at hyl
  cases hyl with
  | ref hb' hr =>
    have hb' : look b' s.st = _ := hb'
    rw [hby] at hb'
    cases hb'
  | refl hb' hr =>
    have hb' : look b' s.st = _ := hb'
    rw [hby] at hb'
    cases hb'
    obtain ⟨hle, hr⟩ := hr
    have r := hh.good.rep b' _ hby
    generalize FP b' = fp at r
    cases r with
    | @lit _ _ g base cells ty ha hg hc =>
      rw [ha] at hr
      obtain ⟨A', cp, cs2, t2, rfl, hnc, hg2, hA⟩ := hr
      rw [o2] at hA
      rcases hA with hA | ⟨rfl, hA⟩
      ·rw [o3] at hnc; omega
      ·rw [o3] at hnc ⊢
       exact ⟨g, base, cells, ty, cp, by rw [Nat.zero_mul, Nat.add_zero], hg, hnc, ha, hc⟩
 have hnews : ∃ news : List Value, news.length = z ∧ (∀ q u, news[q]? = some u → cells'[base' + q]? = some u) ∧ (∀ v ∈ news, v.oneCell' = true) ∧ ∀ w' : World, Elems w' z enc [e] news (fun _ _ => []) := by
  have hget : ∀ q, q < z → cells'[base' + q]? = some (cells'.getD (base' + q) Go.undef) ∧ ∀ w' : World, Deep w' (enc e q) (cells'.getD (base' + q) Go.undef) [] ∧ (cells'.getD (base' + q) Go.undef).oneCell' = true := fun q hq => by
   have hq' := List.getElem?_eq_getElem (show q < cs.length by omega)
   obtain ⟨u, hu, hl⟩ := hc' q _ hq'
   have hs : flatS (cs[q]) = true := List.all_eq_true.1 hfl _ (List.getElem_mem _)
   have e1 : cells'.getD (base' + q) Go.undef = u := by rw [Array.getD_eq_getD_getElem?, hu]; rfl
   rw [e1]
   refine ⟨hu, fun w' => ⟨?_, (flat_deep (locS_deep hs hl w') (flatS_flat hs) w').2⟩⟩
   exact (hty q _ hq').deep (locS_deep hs hl w')
  refine ⟨(List.range z).map fun q => cells'.getD (base' + q) Go.undef, by simp, fun q u hq => ?_, fun v hv => ?_, fun w' => ⟨by simp, fun p x hx q hq => ?_⟩⟩
  ·have hlt := lt_of_get hq
   simp only [List.length_map, List.length_range] at hlt
   rw [List.getElem?_map, List.getElem?_range hlt] at hq
   cases hq
   exact (hget q hlt).1
  ·obtain ⟨q, hq, rfl⟩ := List.mem_map.1 hv
   exact ((hget q (List.mem_range.1 hq)).2 w).2
  ·cases p with
   | succ p => simp at hx
   | zero =>
     simp at hx
     subst hx
     refine ⟨_, ?_, ((hget q hq).2 w').1⟩
     rw [Nat.zero_mul, Nat.zero_add, List.getElem?_map, List.getElem?_range hq]
     rfl
 obtain ⟨news, hn1, hn2, hn3, hn4⟩ := hnews
 have hol : olds.length = n () * z := by rw [ow.el.len, ow.len]
 obtain ⟨p, hp⟩ : ∃ p : Nat, j () = (p : Int) := ⟨(j ()).toNat, by omega⟩
 have hpt : (j ()).toNat = p := by omega
 have hpn : p ≤ n () := by omega
 have hrun : (execOp a.eval o).run P w = .ok (.enter f (c.args.map a.eval)) w := by
  simp only [execOp, ho, resolve, hcal, Act.eval, Deferred.ofValue, Sem.run_bind, Sem.run_pure, Result.andThen_ok, invoke, call_enter hF.1]
  simp
 have hargv : c.args.map a.eval = #[.slice A (n ()) cap, .int .i64 (p : Int), .slice (some ⟨g', base', none⟩) 1 cap'] := by
  apply Array.ext'
  rw [Array.toList_map, hargs]
  simp only [List.map_cons, List.map_nil, hxv, hiv, hyv, hp]
 have hspec := hF.2 w A (n ()) cap p g' base' cap' olds news ow.le hpn o6 hvc hol hn1 (fun v hv => by
  obtain ⟨q, hq⟩ := List.getElem?_of_mem hv
  have hlt := lt_of_get hq
  obtain ⟨u, hu, hd⟩ := ow.el.cells (q / z) _ (List.getElem?_eq_getElem (by rw [ow.len]; exact Nat.div_lt_of_lt_mul (by rw [Nat.mul_comm]; omega))) (q % z) (Nat.mod_lt _ hz0)
  rw [Nat.mul_comm, Nat.div_add_mod, hq] at hu
  cases hu
  exact (flat_deep hd (flx _ (List.getElem_mem _) _ (Nat.mod_lt _ hz0)) w).2) hn3 ow.cell (fun hcap => by
  cases hat : at_ b with
  | none => have := (ow.no hat).2; omega
  | some pl =>
    obtain ⟨g, base⟩ := pl
    obtain ⟨cells, ty, y1, y2, y3, y4⟩ := ow.yes g base hat
    rcases y3 with y3 | ⟨y3, y5⟩
    ·omega
    ·refine ⟨g, base, cells, ty, y3, fun e => ?_, y1, y5⟩
     subst e
     have m1 : g ∈ (⟨w0, w, at_, fun b => look b s.st⟩ : Env).own FP b := by show g ∈ ownOf (at_ b) (FP b); rw [hat]; exact List.mem_cons_self ..
     have m2 : g ∈ (⟨w0, w, at_, fun b => look b s.st⟩ : Env).own FP b' := by show g ∈ ownOf (at_ b') (FP b'); rw [hat']; exact List.mem_cons_self ..
     exact hh.good.apart b b' _ _ hbx hby (fun e => hne e.symm) g m1 m2) ⟨cells', ty', hg', hn2⟩
 refine .inr ⟨f, c.args.map a.eval, w, hrun, ?_⟩
 rw [hargv]
 refine hspec.mono (fun ex w' hpost => ?_)
 obtain ⟨u, w1, ty1, he, hbel, hsz1, hg⟩ := hpost
 refine ⟨u, he, _, _, h, rfl, fun c k hc => ?_, ?_⟩
 ·have hc' : look c (setB b _ (s.st.map (scrubB (fun q => Nat.beq q b)))) = some k := hc
  have hl : look b (s.st.map (scrubB (fun q => Nat.beq q b))) = some (scrubK (fun q => Nat.beq q b) (.row z enc xs false)) := by rw [look_scrub, hbx]; rfl
  rw [show look c (setB b _ (s.st.map (scrubB (fun q => Nat.beq q b)))) = _ from congrFun (setB_look hl) c] at hc'
  by_cases e : c = b
  ·subst e
   have := hfr c _ hbx
   omega
  ·rw [upd_ne _ _ e, look_scrub, Option.map_eq_some_iff] at hc'
   obtain ⟨k', hk', _⟩ := hc'
   have := hfr c k' hk'
   omega
 have hh1 := hh.world hbel
 have hlen : ((xs ()).take (n ())).length = n () := ow.len
 have el0 := ow.el.flat flx w1
 have e1 := el0.take p (by rw [hlen]; exact hpn)
 have e2 := el0.drop p
 have e3 := (hn4 w1).app e2
 have e3 : Elems w1 z enc (e :: ((xs ()).take (n ())).drop p) (news ++ olds.drop (p * z)) (fun _ _ => []) := ⟨e3.len, fun q x hx r hr => by
  obtain ⟨u, hu, hd⟩ := e3.cells q x hx r hr
  have hd' : Deep w1 (enc x r) u [] := by
   have e4 : both [e].length (fun _ _ => ([] : List Nat)) (fun _ _ => []) q r = [] := by rw [both_at]; split <;> rfl
   rw [e4] at hd
   exact hd
  exact ⟨u, hu, hd'⟩⟩
 have l1 : (((xs ()).take (n ())).take p).length = p := by rw [List.length_take, hlen]; omega
 have l2 : (e :: ((xs ()).take (n ())).drop p).length = 1 + (n () - p) := by rw [List.length_cons, List.length_drop, hlen]; omega
 have both0 : ∀ k q r, both k (fun _ _ => ([] : List Nat)) (fun _ _ => []) q r = [] := fun k q r => by rw [both_at]; split <;> rfl
 have hl0 : look b (s.st.map (scrubB (fun q => Nat.beq q b))) = some (scrubK (fun q => Nat.beq q b) (.row z enc xs false)) := by rw [look_scrub, hbx]; rfl
 refine app_rebuild (b := b) (sz := z) (cap := cap) (enc := enc) (os := ((xs ()).take (n ())).take p) (ns := e :: ((xs ()).take (n ())).drop p) (F := fun _ _ => []) (G := fun _ _ => []) (gone := fun q => Nat.beq q b) (place := at_ b) hh1 (by rw [l1, l2]; exact hg) e1 e3 (fun c hc => ?_) ?_ (.inl (Nat.beq_refl b)) (by rw [l1, l2]; omega) (fun hat => ?_) (fun g base hat => ?_) ?_ (fun q r _ _ v hv => ?_) (fun c k hc hk => ?_)
 ·have e5 : Nat.beq c b = false := by
   cases e6 : Nat.beq c b with
   | false => rfl
   | true => exact absurd (Nat.eq_of_beq_eq_true e6) hc
  show look c (setB b _ (s.st.map (scrubB (fun q => Nat.beq q b)))) = _
  rw [show look c (setB b _ (s.st.map (scrubB (fun q => Nat.beq q b)))) = _ from congrFun (setB_look hl0) c, upd_ne _ _ hc, look_scrub, e5]
  rfl
 ·show look b (setB b _ (s.st.map (scrubB (fun q => Nat.beq q b)))) = _
  rw [show look b (setB b _ (s.st.map (scrubB (fun q => Nat.beq q b)))) = _ from congrFun (setB_look hl0) b, upd_self, hpt]
 ·have := ow.no hat
  rw [l1]
  omega
 ·have hown : g ∈ (⟨w0, w, at_, fun b => look b s.st⟩ : Env).own FP b := by
   show g ∈ ownOf (at_ b) (FP b)
   rw [hat]
   exact List.mem_cons_self ..
  obtain ⟨cells, ty, y1, y2, y3, y4⟩ := ow.yes g base hat
  refine ⟨hh.good.rt.hot b _ hbx g base hat, fun c k hc _ hk => hh.good.apart b c _ k hbx hk (fun e => hc e.symm) g hown, fun q r _ _ hm => ?_, cells, ty, (hbel.block g (heap_lt y1)).trans y1, fun q u hq => ?_, y3, ?_, ?_⟩
  ·rw [both0] at hm
   cases hm
  ·rw [List.getElem?_take] at hq
   split at hq
   ·exact y2 q u hq
   ·cases hq
  ·rw [l1]
   have := Nat.mul_le_mul_right z hpn
   omega
  ·rw [l1]
   have := ow.le
   omega
 ·rw [flat_nil (fun q r => both0 _ q r)]
  exact List.nodup_nil
 ·rw [both0] at hv
  cases hv
 ·have hc : look c s.st = some k := hc
  have hcb : c ≠ b := fun e => by
   subst e
   rw [hbx] at hc
   cases hc
   cases hk
  refine ⟨hcb, ?_⟩
  cases e6 : Nat.beq c b with
  | false => rfl
  | true => exact absurd (Nat.eq_of_beq_eq_true e6) hcb
end
end Go.V
namespace Go.V
open Go Go.RowKit
def FromOf (E : Env) (FP : Nat → List Nat) (st : List (Nat × Blk)) (g : Nat) : Prop := (g < E.w0.w.heap.size ∧ ¬ E.w0.mine g) ∨ ∃ b, look b st ≠ none ∧ g ∈ E.own FP b
theorem mat_from {E : Env} {FP : Nat → List Nat} (hG : Good E FP) {st : List (Nat × Blk)} (hst : ∀ b k, look b st = some k → E.st b = some k) :
 ∀ (d : Nat) (x y : AV), mat st d x = some y → ∀ v, Loc E x v → ∃ fp, Deep E.w y v fp ∧ ∀ g ∈ fp, FromOf E FP st g
 | 0, x, y, h, v, hv => by cases h
 | d + 1, x, y, h, v, hv => by
   have parts : ∀ {cs ds : List AV} (f : Nat → Value), cs.mapM (mat st d) = some ds → (∀ i x, cs[i]? = some x → Loc E x (f i)) → ds.length = cs.length ∧ ∃ F : Nat → List Nat, (∀ i y, ds[i]? = some y → Deep E.w y (f i) (F i)) ∧ ∀ i, i < ds.length → ∀ g ∈ F i, FromOf E FP st g := by
    intro cs ds f hm hl
    obtain ⟨h1, h2⟩ := mapM_get hm
    obtain ⟨F, hF⟩ := pick_fp (n := ds.length) (R := fun i fp => ∀ y, ds[i]? = some y → Deep E.w y (f i) fp ∧ ∀ g ∈ fp, FromOf E FP st g) (fun i hi => by
     have hx := List.getElem?_eq_getElem (show i < cs.length by omega)
     have hy := List.getElem?_eq_getElem hi
     obtain ⟨fp, hd⟩ := mat_from hG hst d _ _ (h2 i _ _ hx hy) _ (hl i _ hx)
     exact ⟨fp, fun y hy' => by rw [hy] at hy'; cases hy'; exact hd⟩)
    exact ⟨h1, F, fun i y hy => (hF i (lt_of_get hy) y hy).1, fun i hi => (hF i hi _ (List.getElem?_eq_getElem hi)).2⟩
   have flatF : ∀ {n : Nat} {F : Nat → List Nat}, (∀ i, i < n → ∀ g ∈ F i, FromOf E FP st g) → ∀ g ∈ (List.range n).flatMap F, FromOf E FP st g := fun h g hg => by
    obtain ⟨i, hi, hg⟩ := List.mem_flatMap.1 hg
    exact h i (List.mem_range.1 hi) g hg
   have old : ∀ {x : AV} {v : Value} {fp : List Nat}, DeepB E.w0 x v fp → ∀ g ∈ fp, FromOf E FP st g := fun h g hg => .inl ⟨h.deep.bound g hg, (h.old g hg).1⟩
   cases x with
   | any => cases h
   | undef => cases h
   | own => cases h
   | eptr => cases h
   | int k n => cases h; rw [hv.int_inv]; exact ⟨_, .int k n, fun g hg => by cases hg⟩
   | bo b => cases h; rw [hv.bo_inv]; exact ⟨_, .bo b, fun g hg => by cases hg⟩
   | str s => cases h; rw [hv.str_inv]; exact ⟨_, .str s, fun g hg => by cases hg⟩
   | nil => cases h; rw [hv.nil_inv]; exact ⟨_, .nil, fun g hg => by cases hg⟩
   | emp => cases h; obtain ⟨A, rfl⟩ := hv.emp_inv; exact ⟨_, .emp A, fun g hg => by cases hg⟩
   | sl sz enc xs => cases h; cases hv with | sl hd => exact ⟨_, hd.under hG.below, old hd⟩
   | lsl es => cases h; cases hv with | lsl hd => exact ⟨_, hd.under hG.below, old hd⟩
   | rptr cs => cases h; cases hv with | rptr hd => exact ⟨_, hd.under hG.below, old hd⟩
   | ref b off n =>
     simp only [mat] at h
     split at h
     ·rename_i sz enc xs fx hb
      cases h
      obtain ⟨fp, hd, hs⟩ := ref_deep hG (hst _ _ hb) hv
      exact ⟨fp, hd, fun g hg => .inr ⟨b, (by rw [hb]; exact fun h => by cases h), hs g hg⟩⟩
     ·rename_i sz cs hb
      obtain ⟨ds, hm, rfl, h0, hn, hp, rfl⟩ := lit_whole h
      obtain ⟨g, cap, cells, t, A, rfl, hcap, hg, hr, key, hown⟩ := lit_cells hG (hst _ _ hb) hv h0 hn hp
      obtain ⟨hl, F, hF, hF2⟩ := parts (fun i => cells.getD (A + i) undef) hm (fun i x hx => by
       obtain ⟨u, hu, hl⟩ := key i x hx
       rw [Array.getD_eq_getD_getElem?, hu]
       exact hl)
      have d := Deep.lsl (w := E.w) (es := ds) (g := g) (off := A) (cap := cap) (fr := (0, 0)) (fun i => cells.getD (A + i) undef) F (by omega) hg hr (fun i y hy => by
       obtain ⟨x, hx⟩ := get_of_len hl hy
       obtain ⟨u, hu, _⟩ := key i x hx
       rw [Array.getD_eq_getD_getElem?, hu]
       rfl) hF
      refine ⟨g :: (List.range ds.length).flatMap F, ?_, fun q hq => ?_⟩
      ·rw [hl] at d
       rw [hl]
       exact d
      ·rcases List.mem_cons.1 hq with rfl | hq
       ·exact .inr ⟨b, (by rw [hb]; exact fun h => by cases h), hown⟩
       ·exact flatF hF2 q hq
     ·cases h
   | ptr b j =>
     simp only [mat] at h
     split at h
     ·rename_i sz cs hb
      rw [Option.map_eq_some_iff] at h
      obtain ⟨ds, hm, rfl⟩ := h
      obtain ⟨sz', cs', g, base, hb', ha, rfl⟩ := hv.ptr_inv
      rw [hst _ _ hb] at hb'
      cases hb'
      have r := hG.rep b _ (hst _ _ hb)
      generalize FP b = fp at r
      cases r with
      | lit ha' hg hc =>
        rename_i cells t
        rw [ha] at ha'
        cases ha'
        have key : ∀ i x, (cs.drop j)[i]? = some x → ∃ u, cells[base + j + i]? = some u ∧ Loc E x u := fun i x hx => by
         rw [List.getElem?_drop] at hx
         obtain ⟨u, hu, hl⟩ := hc _ x hx
         exact ⟨u, by rw [Nat.add_assoc]; exact hu, hl⟩
        obtain ⟨hl, F, hF, hF2⟩ := parts (fun i => cells.getD (base + j + i) undef) hm (fun i x hx => by
         obtain ⟨u, hu, hl⟩ := key i x hx
         rw [Array.getD_eq_getD_getElem?, hu]
         exact hl)
        refine ⟨_, .rptr (fun i => cells.getD (base + j + i) undef) F hg (fun i y hy => by
         obtain ⟨x, hx⟩ := get_of_len hl hy
         obtain ⟨u, hu, _⟩ := key i x hx
         rw [Array.getD_eq_getD_getElem?, hu]
         rfl) hF, fun q hq => ?_⟩
        rcases List.mem_cons.1 hq with rfl | hq
        ·refine .inr ⟨b, (by rw [hb]; exact fun h => by cases h), ?_⟩
         show q ∈ ownOf (E.at_ b) (FP b)
         rw [ha]
         exact List.mem_cons_self ..
        ·exact flatF hF2 q hq
     ·cases h
   | agg cs =>
     simp only [mat] at h
     rw [Option.map_eq_some_iff] at h
     obtain ⟨ds, hm, rfl⟩ := h
     obtain ⟨us, rfl, hs, hd⟩ := hv.agg_inv
     obtain ⟨hl, F, hF, hF2⟩ := parts (fun i => us.getD i undef) hm hd
     exact ⟨_, .agg F (by omega) hF, flatF hF2⟩
   | tup cs =>
     simp only [mat] at h
     rw [Option.map_eq_some_iff] at h
     obtain ⟨ds, hm, rfl⟩ := h
     obtain ⟨us, rfl, hs, hd⟩ := hv.tup_inv
     obtain ⟨hl, F, hF, hF2⟩ := parts (fun i => us.getD i undef) hm hd
     exact ⟨_, .tup F (by omega) hF, flatF hF2⟩
   | clo f cs =>
     simp only [mat] at h
     rw [Option.map_eq_some_iff] at h
     obtain ⟨ds, hm, rfl⟩ := h
     obtain ⟨us, rfl, hs, hd⟩ := hv.clo_inv
     obtain ⟨hl, F, hF, hF2⟩ := parts (fun i => us.getD i undef) hm hd
     exact ⟨_, .clo F (by omega) hF, flatF hF2⟩
structure LendOk (E : Env) (FP : Nat → List Nat) (st st0 : List (Nat × Blk)) (acc acc' : List Nat) (y : AV) (v : Value) : Prop where
 ok : ∃ (nw : List Nat) (us : List Value), acc' = acc ++ nw ∧ us.length = nw.length ∧ (acc.Nodup → acc'.Nodup) ∧
  (∀ (j b : Nat) (u : Value), nw[j]? = some b → us[j]? = some u → ∃ (α : Type) (sz : Nat) (enc : α → Nat → AV) (xs : Unit → List α) (fx : Bool) (off n : Unit → Nat), look b st = some (.row sz enc xs fx) ∧ off () = 0 ∧ n () = (xs ()).length ∧ Loc E (.ref b off n) u) ∧
  ∀ (sv : Nat → Value) (nb : Nat) (lent : Nat → Prop), (∀ (j : Nat) (u : Value), us[j]? = some u → sv (acc.length + j) = u) → acc'.length ≤ nb → (∀ g, FromOf E FP st0 g → ¬ lent g) → ArgRep E.w sv nb lent y v
theorem memN_false {n : Nat} : ∀ {l : List Nat}, memN n l = false → n ∉ l
 | [], _ => fun h => by cases h
 | m :: r, h => fun hm => by
   rw [memN] at h
   cases e : Nat.beq m n with
   | true => rw [e] at h; cases h
   | false =>
     rw [e] at h
     rcases List.mem_cons.1 hm with rfl | hm
     ·rw [Nat.beq_refl] at e; cases e
     ·exact memN_false h hm
theorem lendA_ok {E : Env} {FP : Nat → List Nat} (hG : Good E FP) {st st0 : List (Nat × Blk)} (hst : ∀ b k, look b st0 = some k → E.st b = some k) :
 ∀ (d : Nat) (x y : AV) (acc acc' : List Nat) (v : Value), lendA st st0 d x acc = some (y, acc') → wholeA st d x → Loc E x v → LendOk E FP st st0 acc acc' y v
 | 0, x, y, acc, acc', v, h, _, _ => by cases h
 | d + 1, x, y, acc, acc', v, h, hw, hv => by
   have quiet : (match mat st0 4 x with | some y => some (y, acc) | none => none) = some (y, acc') → LendOk E FP st st0 acc acc' y v := fun h => by
    split at h
    ·rename_i y' hm
     cases h
     obtain ⟨fp, hd, hf⟩ := mat_from hG hst 4 _ _ hm v hv
     exact ⟨[], [], by simp, rfl, fun h => h, fun j b u hj => by simp at hj, fun sv nb lent _ _ hl => .deep hd (fun g hg => hl g (hf g hg))⟩
    ·cases h
   cases x with
   | ref b off n =>
     simp only [lendA] at h
     split at h
     ·rename_i α sz enc xs fx hb
      cases e : memN b acc with
      | true => rw [e] at h; cases h
      | false =>
        rw [e, cond_false] at h
        cases h
        simp only [wholeA, hb] at hw
        refine ⟨[b], [v], rfl, rfl, fun hn => ?_, fun j c u hj hu => ?_, fun sv nb lent hs hnb _ => ?_⟩
        ·rw [List.nodup_append]
         exact ⟨hn, by simp, fun p hp q hq => by simp at hq; subst hq; exact fun e2 => memN_false e (e2 ▸ hp)⟩
        ·cases j with
         | zero => simp at hj hu; subst hj hu; exact ⟨α, sz, enc, xs, fx, off, n, hb, hw.1, hw.2, hv⟩
         | succ j => simp at hj
        ·have := hs 0 v rfl
         rw [Nat.add_zero] at this
         rw [← this]
         exact .lent _ (by simp at hnb; omega)
     ·cases h
   | agg cs =>
     simp only [lendA] at h
     split at h
     ·rename_i p hp
      cases h
      obtain ⟨ys, acc'⟩ := p
      obtain ⟨us, rfl, hs, hd⟩ := hv.agg_inv
      have hwl : wholeL (wholeA st d) cs := hw
      have list : ∀ (l ys : List AV) (acc acc' : List Nat) (f : Nat → Value), lendL (lendA st st0 d) l acc = some (ys, acc') → wholeL (wholeA st d) l → (∀ i x, l[i]? = some x → Loc E x (f i)) →
       ys.length = l.length ∧ ∃ (nw : List Nat) (us : List Value), acc' = acc ++ nw ∧ us.length = nw.length ∧ (acc.Nodup → acc'.Nodup) ∧
        (∀ (j b : Nat) (u : Value), nw[j]? = some b → us[j]? = some u → ∃ (α : Type) (sz : Nat) (enc : α → Nat → AV) (xs : Unit → List α) (fx : Bool) (off n : Unit → Nat), look b st = some (.row sz enc xs fx) ∧ off () = 0 ∧ n () = (xs ()).length ∧ Loc E (.ref b off n) u) ∧
        ∀ (sv : Nat → Value) (nb : Nat) (lent : Nat → Prop), (∀ (j : Nat) (u : Value), us[j]? = some u → sv (acc.length + j) = u) → acc'.length ≤ nb → (∀ g, FromOf E FP st0 g → ¬ lent g) → ∀ i y, ys[i]? = some y → ArgRep E.w sv nb lent y (f i) := by
       intro l
       induction l with
       | nil =>
         intro ys acc acc' f h _ _
         simp only [lendL, Option.some.injEq, Prod.mk.injEq] at h
         obtain ⟨rfl, rfl⟩ := h
         exact ⟨rfl, [], [], by simp, rfl, fun h => h, fun j b u hj => by simp at hj, fun sv nb lent _ _ _ i y hy => by simp at hy⟩
       | cons x l ihl =>
         intro ys acc acc' f h hw hl
         rw [lendL] at h
         split at h
         ·rename_i a ha
          split at h
          ·rename_i b hb
           simp only [Option.some.injEq, Prod.mk.injEq] at h
           obtain ⟨rfl, rfl⟩ := h
           obtain ⟨a1, a2⟩ := a
           obtain ⟨b1, b2⟩ := b
           obtain ⟨nw, us, e1, e2, e3, e4, e5⟩ := (lendA_ok hG hst d x a1 acc a2 (f 0) ha hw.1 (hl 0 x rfl)).ok
           obtain ⟨l1, nw', us', e1', e2', e3', e4', e5'⟩ := ihl b1 a2 b2 (fun i => f (i + 1)) hb hw.2 (fun i x hx => hl (i + 1) x (by simpa using hx))
           refine ⟨by simp [l1], nw ++ nw', us ++ us', by rw [e1', e1, List.append_assoc], by simp [e2, e2'], fun h => e3' (e3 h), fun j b u hj hu => ?_, fun sv nb lent hs hnb hL i y hy => ?_⟩
           ·by_cases hlt : j < nw.length
            ·rw [List.getElem?_append_left hlt] at hj
             rw [List.getElem?_append_left (by omega)] at hu
             exact e4 j b u hj hu
            ·rw [List.getElem?_append_right (by omega)] at hj
             rw [List.getElem?_append_right (by omega), e2] at hu
             exact e4' _ b u hj hu
           ·cases i with
            | zero =>
              simp at hy
              subst hy
              refine e5 sv nb lent (fun j u hu => hs j u ?_) (Nat.le_trans (by rw [e1', List.length_append]; omega) hnb) hL
              rw [List.getElem?_append_left (lt_of_get hu)]
              exact hu
            | succ i =>
              refine e5' sv nb lent (fun j u hu => ?_) hnb hL i y (by simpa using hy)
              have := hs (us.length + j) u (by rw [List.getElem?_append_right (by omega), Nat.add_sub_cancel_left]; exact hu)
              rw [show a2.length + j = acc.length + (us.length + j) by rw [show a2.length = acc.length + nw.length by have : a2 = acc ++ nw := e1; rw [this, List.length_append], e2]; omega]
              exact this
          ·cases h
         ·cases h
      obtain ⟨l1, nw, us2, e1, e2, e3, e4, e5⟩ := list cs ys acc acc' (fun i => us.getD i undef) hp hwl hd
      exact ⟨nw, us2, e1, e2, e3, e4, fun sv nb lent h1 h2 h3 => .agg (by have l1 : ys.length = cs.length := l1; show us.size = ys.length; omega) (e5 sv nb lent h1 h2 h3)⟩
     ·cases h
   | _ => exact quiet h
end Go.V
namespace Go.V
open Go Go.RowKit
def SameShape (w w' : World) (g : Nat) : Prop := ∃ cs t cs', w.heap[g]? = some (.cells cs t (0, 0)) ∧ w'.heap[g]? = some (.cells cs' t (0, 0)) ∧ cs'.size = cs.size
inductive WholeR (E : Env) (FP : Nat → List Nat) (b sz : Nat) {α : Type} (xs : List α) : Value → List Nat → Prop
 | none (A : Option Addr) (hx : xs = []) : WholeR E FP b sz xs (.slice A 0 0) []
 | some (g base cap : Nat) (cells : Array Value) (t : TypeId) (ha : E.at_ b = some (g, base)) (hc : 0 < cap) (hn : xs.length ≤ cap) (hg : E.w.heap[g]? = some (.cells cells t (0, 0))) (hr : base + cap * sz ≤ cells.size) : WholeR E FP b sz xs (.slice (some ⟨g, base, none⟩) xs.length cap) (g :: FP b)
theorem whole_ref {E : Env} {FP : Nat → List Nat} {b sz : Nat} {off n : Unit → Nat} {α : Type} {enc : α → Nat → AV} {xs : Unit → List α} {fx : Bool} {v : Value} (hG : Good E FP) (hb : E.st b = some (.row sz enc xs fx)) (h0 : off () = 0) (hn : n () = (xs ()).length) (hl : Loc E (.ref b off n) v) :
 ∃ fp, WholeR E FP b sz (xs ()) v fp ∧ Deep E.w (.sl sz enc xs) v fp ∧ fp.Nodup ∧ ∀ g ∈ fp, g ∈ E.own FP b := by
 cases hl with
 | refl hb2 _ => rw [hb] at hb2; cases hb2
 | ref hb2 hr =>
   rw [hb] at hb2
   cases hb2
   obtain ⟨hle, hr⟩ := hr
   have r := hG.rep b _ hb
   have hnd := hG.nodup b _ hb
   have hown : E.own FP b = ownOf (E.at_ b) (FP b) := rfl
   rw [hown] at hnd ⊢
   generalize hfp : FP b = fpb at r hnd ⊢
   cases r with
   | row0 ha hx =>
     rw [ha] at hr
     obtain ⟨A, rfl⟩ := hr
     exact ⟨[], .none A hx, .sl0 A hx, List.nodup_nil, fun g hg => by cases hg⟩
   | @row _ _ _ _ _ g base cells t F ha hg hrr hc =>
     rw [ha] at hr hnd ⊢
     obtain ⟨A, cap, cs, t', rfl, hnc, hg', hA⟩ := hr
     rw [hg] at hg'
     cases hg'
     rw [h0] at hA
     by_cases hcap : cap = 0
     ·have hx : xs () = [] := List.eq_nil_of_length_eq_zero (by omega)
      have e : n () = 0 := by omega
      subst hcap
      rw [e]
      exact ⟨[], .none A hx, .sl0 A hx, List.nodup_nil, fun g hg => by cases hg⟩
     ·obtain ⟨rfl, hsz⟩ := hA.resolve_left hcap
      rw [Nat.zero_mul, Nat.add_zero, hn]
      rw [Nat.zero_add] at hsz
      refine ⟨g :: FP b, .some g base cap cells t ha (by omega) (by omega) hg hsz, ?_, by rw [hfp]; exact hnd, fun q hq => by rw [hfp] at hq; exact hq⟩
      rw [hfp]
      exact Deep.sl (w := E.w) (sz := sz) (enc := enc) (xs := xs) (g := g) (off := base) (cap := cap) (cs := cells) (t := t) (fr := (0, 0)) (fun i j => cells.getD (base + i * sz + j) Go.undef) F (by omega) hg hsz
       (fun i x hx j hj => by
         obtain ⟨u, hu, _⟩ := hc i x hx j hj
         rw [Array.getD_eq_getD_getElem?, hu]
         rfl)
       (fun i x hx j hj => by
         obtain ⟨u, hu, hd⟩ := hc i x hx j hj
         rw [Array.getD_eq_getD_getElem?, hu]
         exact hd)
theorem WholeR.back {E E' : Env} {FP : Nat → List Nat} {b sz : Nat} {α : Type} {enc : α → Nat → AV} {xs ys : Unit → List α} {fx : Bool} {v : Value} {fp : List Nat} (h : WholeR E FP b sz (xs ()) v fp) (hr : BlkRep E b (.row sz enc xs fx) (FP b)) (ha : E'.at_ b = E.at_ b)
 (hs : ∀ g, g ∈ E.own FP b → SameShape E.w E'.w g) (hd : Deep E'.w (.sl sz enc ys) v fp) (hl : (ys ()).length = (xs ()).length) : BlkRep E' b (.row sz enc ys fx) (FP b) := by
 generalize hx : xs () = xl at h
 cases h with
 | none A hx0 =>
   have hy : ys () = [] := List.eq_nil_of_length_eq_zero (by rw [hl, hx, hx0]; rfl)
   have hs' : ∀ g base, E.at_ b = Option.some (g, base) → SameShape E.w E'.w g := fun g base e => hs g (by show g ∈ ownOf (E.at_ b) (FP b); rw [e]; exact List.mem_cons_self ..)
   clear hs hd
   generalize FP b = fpb at hr ⊢
   cases hr with
   | row0 ha' _ => exact .row0 (ha.trans ha') hy
   | @row _ _ _ _ _ g base cells t F ha' hg hr' hc =>
     obtain ⟨cs, t1, cs', s1, s2, s3⟩ := hs' g base ha'
     rw [hg] at s1
     cases s1
     rw [← hl]
     exact .row F (ha.trans ha') s2 (by rw [hl]; omega) (fun i x hx j hj => by rw [hy] at hx; simp at hx)
 | some g base cap cells t ha' hc hn hg hrr =>
   have key : ∀ v fpv, Deep E'.w (.sl sz enc ys) v fpv → v = .slice (Option.some ⟨g, base, Option.none⟩) xl.length cap → fpv = g :: FP b → BlkRep E' b (.row sz enc ys fx) (FP b) := by
    intro v fpv hd hv hfp
    cases hd with
    | sl0 A _ =>
      simp only [Value.slice.injEq] at hv
      omega
    | @sl _ _ _ _ g' off' cap' cs t' fr u F' hn' hg' hr' hu' hd' =>
      simp only [Value.slice.injEq, Option.some.injEq, Addr.mk.injEq, and_true] at hv
      obtain ⟨⟨rfl, rfl⟩, _, rfl⟩ := hv
      simp only [List.cons.injEq, true_and] at hfp
      rw [← hfp]
      obtain ⟨cs1, t1, cs', s1, s2, s3⟩ := hs g' (by show g' ∈ ownOf (E.at_ b) (FP b); rw [ha']; exact List.mem_cons_self ..)
      rw [s2] at hg'
      cases hg'
      have hmul := Nat.mul_le_mul_right sz hn'
      exact .row F' (ha.trans ha') s2 (by omega) (fun i x hx j hj => ⟨u i j, hu' i x hx j hj, hd' i x hx j hj⟩)
   exact key _ _ hd rfl rfl
theorem Here.lent {w0 : Base} {w w' : World} {N : Nat} {tm : List (Nat × AV)} {st st' : Nat → Option Blk} {a : Act} {at_ : Nat → Option (Nat × Nat)} {FP : Nat → List Nat} (h : Here w0 N tm st a w at_ FP) {T : Nat → Prop} {lent : Nat → Prop} {pn : Nat → Option Pin} {rn : Nat → Prop} {ln : Nat → Option (Nat × Nat)} {bn : Nat → Prop} (hhot : ∀ g, lent g → w0.hot g)
 (hlent : ∀ g, lent g → ∃ b k, T b ∧ st b = some k ∧ g ∈ (⟨w0, w, at_, st⟩ : Env).own FP b) (hk : Kept ⟨w, lent, pn, rn, ln, bn⟩ w') (hT : ∀ c, ¬ T c → st' c = st c)
 (hT2 : ∀ c, T c → ∃ (α : Type) (sz : Nat) (enc : α → Nat → AV) (xs ys : Unit → List α) (fx : Bool), st c = some (.row sz enc xs fx) ∧ st' c = some (.row sz enc ys fx) ∧ (ys ()).length = (xs ()).length)
 (hrep : ∀ c k', T c → st' c = some k' → BlkRep ⟨w0, w', at_, st'⟩ c k' (FP c))
 (hhd : ∀ (c g base : Nat) (α : Type) (sz : Nat) (enc : α → Nat → AV) (xs : Unit → List α), T c → st c = some (.row sz enc xs true) → 0 < (xs ()).length → at_ c = some (g, base) → Heads w w' g) :
 Here w0 N tm st' a w' at_ FP ∧ ∀ x v, Loc ⟨w0, w, at_, st⟩ x v → Loc ⟨w0, w', at_, st'⟩ x v := by
 have same : ∀ k, k < w.heap.size → ¬ lent k → w'.heap[k]? = w.heap[k]? := hk.block
 have shape : ∀ b k, st b = some k → ∀ g ∈ (⟨w0, w, at_, st⟩ : Env).own FP b, SameShape w w' g := fun b k hb g hg => by
  by_cases hl : lent g
  ·exact hk.shape g hl
  ·obtain ⟨cs, t, hc⟩ := h.good.fresh b k hb g hg
   exact ⟨cs, t, cs, hc, (same g (heap_lt hc) hl).trans hc, rfl⟩
 have old : ∀ c k, ¬ T c → st c = some k → ∀ g ∈ (⟨w0, w, at_, st⟩ : Env).own FP c, w'.heap[g]? = w.heap[g]? := fun c k hc hk g hg => by
  refine same g (h.good.bound hk g hg) (fun hl => ?_)
  obtain ⟨b, k', hTb, hb, hgb⟩ := hlent g hl
  exact h.good.apart c b k k' hk hb (fun e => hc (e ▸ hTb)) g hg hgb
 have some_of : ∀ c k', st' c = some k' → ∃ k, st c = some k ∧ Alike k k' := fun c k' hc => by
  by_cases ht : T c
  ·obtain ⟨α, sz, enc, xs, ys, fx, h1, h2, h3⟩ := hT2 c ht
   rw [h2] at hc
   cases hc
   exact ⟨_, h1, .row h3⟩
  ·rw [hT c ht] at hc
   exact ⟨k', hc, Alike.refl _⟩
 have to_ : ∀ c k, st c = some k → ∃ k', st' c = some k' ∧ Alike k k' := fun c k hc => by
  by_cases ht : T c
  ·obtain ⟨α, sz, enc, xs, ys, fx, h1, h2, h3⟩ := hT2 c ht
   rw [h1] at hc
   cases hc
   exact ⟨_, h2, .row h3⟩
  ·exact ⟨k, (hT c ht).trans hc, Alike.refl _⟩
 have hs : ∀ c k, (⟨w0, w, at_, st⟩ : Env).st c = some k → Stays ⟨w0, w, at_, st⟩ ⟨w0, w', at_, st'⟩ c k := fun c k hc => by
  refine ⟨to_ c k hc, rfl, fun g base cs t ha hg => ?_⟩
  have ha' : at_ c = some (g, base) := ha
  obtain ⟨cs1, t1, cs2, s1, s2, s3⟩ := shape c k hc g (by show g ∈ ownOf (at_ c) (FP c); rw [ha']; exact List.mem_cons_self ..)
  have hg' : w.heap[g]? = some (.cells cs t (0, 0)) := hg
  rw [hg'] at s1
  cases s1
  exact ⟨cs2, s2, s3⟩
 have mv : ∀ x v, Loc ⟨w0, w, at_, st⟩ x v → Loc ⟨w0, w', at_, st'⟩ x v := fun x v hx => hx.move rfl hs
 have hmod : Mod w0 w w' := by
  refine ⟨hk.os, hk.tape, hk.output, hk.size, fun k h1 h2 => same k (Nat.lt_of_lt_of_le h1 h.good.below.size) (fun hl => ?_), fun g cs t hm hg => ?_⟩
  ·rcases hhot k hl with h3 | h3
   ·have h3 : w0.w.heap.size ≤ k := h3; omega
   ·exact h2 h3
  ·by_cases hl : lent g
   ·obtain ⟨cs1, t1, cs2, s1, s2, s3⟩ := hk.shape g hl
    have s1' : w.heap[g]? = _ := s1
    rw [hg] at s1'
    cases s1'
    exact ⟨cs2, s2, s3⟩
   ·exact ⟨cs, (same g (heap_lt hg) hl).trans hg, rfl⟩
 refine ⟨⟨⟨h.good.below.mod hmod, fun c k' hc => ?_, fun c k' hc => ?_, fun c k' hc => ?_, fun c c' k k' hc hc' hne => ?_, fun c k' hc => ?_, fun c p hp => ?_, fun c β sz' enc' xs' hc => ?_, ⟨fun c k' hc g base hg => ?_, fun c q hq => ?_, fun c cs hc => ?_⟩⟩, h.defers, h.size, fun t => mv _ _ (h.loc t)⟩, mv⟩
 ·by_cases ht : T c
  ·exact hrep c k' ht hc
  ·have hc' : st c = some k' := (hT c ht).symm.trans hc
   have r := h.good.rep c k' hc'
   refine r.move rfl rfl (fun g base ha => old c k' ht hc' g ?_) (fun q hq => ?_) hs
   ·have ha' : at_ c = some (g, base) := ha
    show g ∈ ownOf (at_ c) (FP c)
    rw [ha']
    exact List.mem_cons_self ..
   ·have hq' : q ∈ FP c := hq
    have hown : q ∈ (⟨w0, w, at_, st⟩ : Env).own FP c := by
     show q ∈ ownOf (at_ c) (FP c)
     cases hac : at_ c with
     | some p => exact List.mem_cons_of_mem _ hq'
     | none =>
       exfalso
       generalize FP c = fq at r hq'
       cases r with
       | lit ha _ _ => rw [show at_ c = _ from ha] at hac; cases hac
       | row0 _ _ => cases hq'
       | row F ha _ _ _ => rw [show at_ c = _ from ha] at hac; cases hac
    exact old c k' ht hc' q hown
 ·obtain ⟨k, hk', _⟩ := some_of c k' hc
  exact h.good.nodup c k hk'
 ·obtain ⟨k, hk', _⟩ := some_of c k' hc
  exact h.good.base c k hk'
 ·obtain ⟨k1, h1, _⟩ := some_of c k hc
  obtain ⟨k2, h2, _⟩ := some_of c' k' hc'
  exact h.good.apart c c' k1 k2 h1 h2 hne
 ·obtain ⟨k, hk', _⟩ := some_of c k' hc
  intro g hg
  obtain ⟨cs, t, cs', s1, s2, s3⟩ := shape c k hk' g hg
  exact ⟨cs', t, s2⟩
 ·obtain ⟨p1, p2, ph, α, enc, xs, p3, p4⟩ := h.good.pins c p hp
  have p3 : st c = some (.row p.sz enc xs true) := p3
  have p1 : at_ c = p.place := p1
  refine ⟨p1, p2, fun hl g base e => (ph hl g base e).trans ?_, ?_⟩
  ·by_cases ht : T c
   ·exact hhd c g base _ _ _ _ ht p3 (by omega) (p1.trans e)
   ·exact .of_eq (old c _ ht p3 g (by show g ∈ ownOf (at_ c) (FP c); rw [p1, e]; exact List.mem_cons_self ..))
  obtain ⟨k', hk', ha⟩ := to_ c _ p3
  cases ha with
  | row hl => exact ⟨α, enc, _, hk', hl.trans p4⟩
 ·obtain ⟨k, hk', ha⟩ := some_of c _ hc
  cases ha with
  | row hl => exact h.good.fxp c _ _ _ _ hk'
 ·obtain ⟨k, hk', _⟩ := some_of c k' hc
  exact h.good.rt.hot c k hk' g base hg
 ·obtain ⟨h1, h2, cs, h3⟩ := h.good.rt.lits c q hq
  have h1 : at_ c = some q := h1
  have h3 : st c = _ := h3
  have ht : ¬ T c := fun ht => by
   obtain ⟨α, sz, enc, xs, ys, fx, e, _⟩ := hT2 c ht
   rw [h3] at e
   cases e
  exact ⟨h1, h2.on (old c _ ht h3 q.1 (by show q.1 ∈ ownOf (at_ c) (FP c); rw [h1]; exact List.mem_cons_self ..)), cs, (hT c ht).trans h3⟩
 ·obtain ⟨k, hk', ha⟩ := some_of c _ hc
  cases ha with
  | lit hl => exact h.good.rt.lfx c _ hk'
theorem flatS_deep {E : Env} {w : World} {x : AV} {u : Value} {fp : List Nat} (hf : flatS x = true) (hd : Deep w x u fp) : Loc E x u := by
 cases hd <;> first | (cases hf; done) | constructor
theorem Here.lentP {w0 : Base} {w w' : World} {N : Nat} {tm : List (Nat × AV)} {st st' : Nat → Option Blk} {a : Act} {at_ : Nat → Option (Nat × Nat)} {FP : Nat → List Nat} (h : Here w0 N tm st a w at_ FP) {T : Nat → Prop} {lent : Nat → Prop} {pn : Nat → Option Pin} {rn : Nat → Prop} {ln : Nat → Option (Nat × Nat)} {bn : Nat → Prop}
 (hlent : ∀ g, lent g → ∃ b k base, T b ∧ st b = some k ∧ at_ b = some (g, base)) (hk : Kept ⟨w, lent, pn, rn, ln, bn⟩ w') (hT : ∀ c, ¬ T c → st' c = st c)
 (hT2 : ∀ c, T c → ∃ (sz : Nat) (cs cs' : List AV) (g base : Nat) (arr arr' : Array Value) (ty : TypeId), st c = some (.lit sz cs) ∧ st' c = some (.lit sz cs') ∧ cs'.length = cs.length ∧ at_ c = some (g, base) ∧ w.heap[g]? = some (.cells arr ty (0, 0)) ∧ w'.heap[g]? = some (.cells arr' ty (0, 0)) ∧ Heads w w' g ∧
   ∀ (j : Nat) (x : AV), cs'[j]? = some x → ∃ u, arr'[base + j]? = some u ∧ ((flatS x = true ∧ Deep w' x u []) ∨ (cs[j]? = some x ∧ arr[base + j]? = some u))) :
 Here w0 N tm st' a w' at_ FP ∧ ∀ x v, Loc ⟨w0, w, at_, st⟩ x v → Loc ⟨w0, w', at_, st'⟩ x v := by
 have same : ∀ k, k < w.heap.size → ¬ lent k → w'.heap[k]? = w.heap[k]? := hk.block
 have inown : ∀ {c g base : Nat}, at_ c = some (g, base) → g ∈ (⟨w0, w, at_, st⟩ : Env).own FP c := fun {c g base} e => by
  show g ∈ ownOf (at_ c) (FP c)
  rw [e]
  exact List.mem_cons_self ..
 have hhot : ∀ g, lent g → w0.hot g := fun g hg => by
  obtain ⟨b, k, base, _, hb, ha⟩ := hlent g hg
  exact h.good.rt.hot b k hb g base ha
 have shape : ∀ b k, st b = some k → ∀ g ∈ (⟨w0, w, at_, st⟩ : Env).own FP b, SameShape w w' g := fun b k hb g hg => by
  by_cases hl : lent g
  ·exact hk.shape g hl
  ·obtain ⟨cs, t, hc⟩ := h.good.fresh b k hb g hg
   exact ⟨cs, t, cs, hc, (same g (heap_lt hc) hl).trans hc, rfl⟩
 have old : ∀ c k, ¬ T c → st c = some k → ∀ g ∈ (⟨w0, w, at_, st⟩ : Env).own FP c, w'.heap[g]? = w.heap[g]? := fun c k hc hk g hg => by
  refine same g (h.good.bound hk g hg) (fun hl => ?_)
  obtain ⟨b, k', base, hTb, hb, hgb⟩ := hlent g hl
  exact h.good.apart c b k k' hk hb (fun e => hc (e ▸ hTb)) g hg (inown hgb)
 have some_of : ∀ c k', st' c = some k' → ∃ k, st c = some k ∧ Alike k k' := fun c k' hc => by
  by_cases ht : T c
  ·obtain ⟨sz, cs, cs', g, base, arr, arr', ty, h1, h2, h3, _⟩ := hT2 c ht
   rw [h2] at hc
   cases hc
   exact ⟨_, h1, .lit h3⟩
  ·rw [hT c ht] at hc
   exact ⟨k', hc, Alike.refl _⟩
 have to_ : ∀ c k, st c = some k → ∃ k', st' c = some k' ∧ Alike k k' := fun c k hc => by
  by_cases ht : T c
  ·obtain ⟨sz, cs, cs', g, base, arr, arr', ty, h1, h2, h3, _⟩ := hT2 c ht
   rw [h1] at hc
   cases hc
   exact ⟨_, h2, .lit h3⟩
  ·exact ⟨k, (hT c ht).trans hc, Alike.refl _⟩
 have hs : ∀ c k, (⟨w0, w, at_, st⟩ : Env).st c = some k → Stays ⟨w0, w, at_, st⟩ ⟨w0, w', at_, st'⟩ c k := fun c k hc => by
  refine ⟨to_ c k hc, rfl, fun g base cs t ha hg => ?_⟩
  obtain ⟨cs1, t1, cs2, s1, s2, s3⟩ := shape c k hc g (inown ha)
  have hg' : w.heap[g]? = some (.cells cs t (0, 0)) := hg
  rw [hg'] at s1
  cases s1
  exact ⟨cs2, s2, s3⟩
 have mv : ∀ x v, Loc ⟨w0, w, at_, st⟩ x v → Loc ⟨w0, w', at_, st'⟩ x v := fun x v hx => hx.move rfl hs
 have hmod : Mod w0 w w' := by
  refine ⟨hk.os, hk.tape, hk.output, hk.size, fun k h1 h2 => same k (Nat.lt_of_lt_of_le h1 h.good.below.size) (fun hl => ?_), fun g cs t hm hg => ?_⟩
  ·rcases hhot k hl with h3 | h3
   ·have h3 : w0.w.heap.size ≤ k := h3; omega
   ·exact h2 h3
  ·by_cases hl : lent g
   ·obtain ⟨cs1, t1, cs2, s1, s2, s3⟩ := hk.shape g hl
    have s1' : w.heap[g]? = _ := s1
    rw [hg] at s1'
    cases s1'
    exact ⟨cs2, s2, s3⟩
   ·exact ⟨cs, (same g (heap_lt hg) hl).trans hg, rfl⟩
 refine ⟨⟨⟨h.good.below.mod hmod, fun c k' hc => ?_, fun c k' hc => ?_, fun c k' hc => ?_, fun c c' k k' hc hc' hne => ?_, fun c k' hc => ?_, fun c p hp => ?_, fun c β sz' enc' xs' hc => ?_, ⟨fun c k' hc g base hg => ?_, fun c q hq => ?_, fun c cs hc => ?_⟩⟩, h.defers, h.size, fun t => mv _ _ (h.loc t)⟩, mv⟩
 ·by_cases ht : T c
  ·obtain ⟨sz, cs, cs', g, base, arr, arr', ty, h1, h2, h3, h4, h5, h6, _, h7⟩ := hT2 c ht
   have hc' : st' c = some k' := hc
   rw [h2] at hc'
   cases hc'
   have r := h.good.rep c _ h1
   have hFP : FP c = [] := by
    generalize FP c = fp at r
    cases r; rfl
   rw [hFP] at r ⊢
   cases r with
   | @lit _ _ g' base' cells t' ha' hg' hcc =>
     have ha' : at_ c = some (g', base') := ha'
     rw [h4] at ha'
     cases ha'
     have hg' : w.heap[g]? = some (.cells cells t' (0, 0)) := hg'
     rw [h5] at hg'
     cases hg'
     refine .lit h4 h6 (fun j x hx => ?_)
     obtain ⟨u, hu, hd⟩ := h7 j x hx
     refine ⟨u, hu, ?_⟩
     rcases hd with ⟨hf, hd⟩ | ⟨hx2, hu2⟩
     ·exact flatS_deep hf hd
     ·obtain ⟨u2, hu3, hl⟩ := hcc j x hx2
      rw [hu2] at hu3
      cases hu3
      exact mv x u hl
  ·have hc' : st c = some k' := (hT c ht).symm.trans hc
   have r := h.good.rep c k' hc'
   refine r.move rfl rfl (fun g base ha => old c k' ht hc' g (inown ha)) (fun q hq => ?_) hs
   have hq' : q ∈ FP c := hq
   have hown : q ∈ (⟨w0, w, at_, st⟩ : Env).own FP c := by
    show q ∈ ownOf (at_ c) (FP c)
    cases hac : at_ c with
    | some p => exact List.mem_cons_of_mem _ hq'
    | none =>
      exfalso
      generalize FP c = fq at r hq'
      cases r with
      | lit ha _ _ => rw [show at_ c = _ from ha] at hac; cases hac
      | row0 _ _ => cases hq'
      | row F ha _ _ _ => rw [show at_ c = _ from ha] at hac; cases hac
   exact old c k' ht hc' q hown
 ·obtain ⟨k, hk', _⟩ := some_of c k' hc
  exact h.good.nodup c k hk'
 ·obtain ⟨k, hk', _⟩ := some_of c k' hc
  exact h.good.base c k hk'
 ·obtain ⟨k1, h1, _⟩ := some_of c k hc
  obtain ⟨k2, h2, _⟩ := some_of c' k' hc'
  exact h.good.apart c c' k1 k2 h1 h2 hne
 ·obtain ⟨k, hk', _⟩ := some_of c k' hc
  intro g hg
  obtain ⟨cs, t, cs', s1, s2, s3⟩ := shape c k hk' g hg
  exact ⟨cs', t, s2⟩
 ·obtain ⟨p1, p2, ph, α, enc, xs, p3, p4⟩ := h.good.pins c p hp
  have p3 : st c = some (.row p.sz enc xs true) := p3
  have p1 : at_ c = p.place := p1
  have ht : ¬ T c := fun ht => by
   obtain ⟨sz, cs, cs', g, base, arr, arr', ty, h1, _⟩ := hT2 c ht
   rw [p3] at h1
   cases h1
  exact ⟨p1, p2, fun hl g base e => (ph hl g base e).on (old c _ ht p3 g (inown (p1.trans e))), α, enc, xs, (hT c ht).trans p3, p4⟩
 ·obtain ⟨k, hk', ha⟩ := some_of c _ hc
  cases ha with
  | row hl => exact h.good.fxp c _ _ _ _ hk'
 ·obtain ⟨k, hk', _⟩ := some_of c k' hc
  exact h.good.rt.hot c k hk' g base hg
 ·obtain ⟨h1, h2, cs, h3⟩ := h.good.rt.lits c q hq
  have h1 : at_ c = some q := h1
  have h3 : st c = _ := h3
  by_cases ht : T c
  ·obtain ⟨sz, cs0, cs', g, base, arr, arr', ty, e1, e2, e3, e4, e5, e6, e7, _⟩ := hT2 c ht
   rw [h3] at e1
   cases e1
   rw [h1] at e4
   cases e4
   exact ⟨h1, h2.trans e7, cs', e2⟩
  ·exact ⟨h1, h2.on (old c _ ht h3 q.1 (inown h1)), cs, (hT c ht).trans h3⟩
 ·obtain ⟨k, hk', ha⟩ := some_of c _ hc
  cases ha with
  | lit hl => exact h.good.rt.lfx c _ hk'
end Go.V
namespace Go.V
open Go Go.RowKit
theorem lendL_ok {E : Env} {FP : Nat → List Nat} (hG : Good E FP) {st st0 : List (Nat × Blk)} (hst : ∀ b k, look b st0 = some k → E.st b = some k) (d : Nat) : ∀ (l ys : List AV) (acc acc' : List Nat) (f : Nat → Value), lendL (lendA st st0 d) l acc = some (ys, acc') → wholeL (wholeA st d) l → (∀ i x, l[i]? = some x → Loc E x (f i)) →
 ys.length = l.length ∧ ∃ (nw : List Nat) (us : List Value), acc' = acc ++ nw ∧ us.length = nw.length ∧ (acc.Nodup → acc'.Nodup) ∧
  (∀ (j b : Nat) (u : Value), nw[j]? = some b → us[j]? = some u → ∃ (α : Type) (sz : Nat) (enc : α → Nat → AV) (xs : Unit → List α) (fx : Bool) (off n : Unit → Nat), look b st = some (.row sz enc xs fx) ∧ off () = 0 ∧ n () = (xs ()).length ∧ Loc E (.ref b off n) u) ∧
  ∀ (sv : Nat → Value) (nb : Nat) (lent : Nat → Prop), (∀ (j : Nat) (u : Value), us[j]? = some u → sv (acc.length + j) = u) → acc'.length ≤ nb → (∀ g, FromOf E FP st0 g → ¬ lent g) → ∀ i y, ys[i]? = some y → ArgRep E.w sv nb lent y (f i)
 | [], ys, acc, acc', f, h, _, _ => by
   simp only [lendL, Option.some.injEq, Prod.mk.injEq] at h
   obtain ⟨rfl, rfl⟩ := h
   exact ⟨rfl, [], [], by simp, rfl, fun h => h, fun j b u hj => by simp at hj, fun sv nb lent _ _ _ i y hy => by simp at hy⟩
 | x :: l, ys, acc, acc', f, h, hw, hl => by
   rw [lendL] at h
   split at h
   ·rename_i a ha
    split at h
    ·rename_i b hb
     simp only [Option.some.injEq, Prod.mk.injEq] at h
     obtain ⟨rfl, rfl⟩ := h
     obtain ⟨a1, a2⟩ := a
     obtain ⟨b1, b2⟩ := b
     obtain ⟨nw, us, e1, e2, e3, e4, e5⟩ := (lendA_ok hG hst d x a1 acc a2 (f 0) ha hw.1 (hl 0 x rfl)).ok
     obtain ⟨l1, nw', us', e1', e2', e3', e4', e5'⟩ := lendL_ok hG hst d l b1 a2 b2 (fun i => f (i + 1)) hb hw.2 (fun i x hx => hl (i + 1) x (by simpa using hx))
     refine ⟨by simp [l1], nw ++ nw', us ++ us', by rw [e1', e1, List.append_assoc], by simp [e2, e2'], fun h => e3' (e3 h), fun j b u hj hu => ?_, fun sv nb lent hs hnb hL i y hy => ?_⟩
     ·by_cases hlt : j < nw.length
      ·rw [List.getElem?_append_left hlt] at hj
       rw [List.getElem?_append_left (by omega)] at hu
       exact e4 j b u hj hu
      ·rw [List.getElem?_append_right (by omega)] at hj
       rw [List.getElem?_append_right (by omega), e2] at hu
       exact e4' _ b u hj hu
     ·cases i with
      | zero =>
        simp at hy
        subst hy
        refine e5 sv nb lent (fun j u hu => hs j u ?_) (Nat.le_trans (by rw [e1', List.length_append]; omega) hnb) hL
        rw [List.getElem?_append_left (lt_of_get hu)]
        exact hu
      | succ i =>
        refine e5' sv nb lent (fun j u hu => ?_) hnb hL i y (by simpa using hy)
        have := hs (us.length + j) u (by rw [List.getElem?_append_right (by omega), Nat.add_sub_cancel_left]; exact hu)
        rw [show a2.length + j = acc.length + (us.length + j) by rw [show a2.length = acc.length + nw.length by have : a2 = acc ++ nw := e1; rw [this, List.length_append], e2]; omega]
        exact this
    ·cases h
   ·cases h
theorem ArgRep.le {w : World} {sv : Nat → Value} {nb : Nat} {lent : Nat → Prop} {x : AV} {v : Value} (h : ArgRep w sv nb lent x v) : ∀ {y : AV}, LeD x y → ArgRep w sv nb lent y v := by
 induction h with
 | deep h ho => exact fun hle => .deep (hle.deep h) ho
 | lent i hi => intro y hle; cases hle with | same => exact .lent i hi
 | agg hl hd ih =>
   intro y hle
   cases hle with
   | same => exact .agg hl hd
   | agg hl2 h2 =>
     refine .agg (hl.trans hl2.symm) (fun i y hy => ?_)
     obtain ⟨x, hx⟩ := get_of_len hl2 hy
     exact ih i x hx (h2 i x y hx hy)
theorem rowsAt_ok {st : List (Nat × Blk)} : ∀ {acc : List Nat} {bs : List AV}, rowsAt st acc = some bs → bs.length = acc.length ∧ ∀ (j b : Nat), acc[j]? = some b → ∃ (α : Type) (sz : Nat) (enc : α → Nat → AV) (xs : Unit → List α) (fx : Bool), look b st = some (.row sz enc xs fx) ∧ bs[j]? = some (.sl sz enc xs)
 | [], bs, h => by
   simp only [rowsAt, Option.some.injEq] at h
   subst h
   exact ⟨rfl, fun j b hj => by simp at hj⟩
 | c :: acc, bs, h => by
   rw [rowsAt] at h
   split at h
   ·rename_i α sz enc xs fx hb
    split at h
    ·rename_i l hl
     cases h
     obtain ⟨h1, h2⟩ := rowsAt_ok hl
     refine ⟨by simp [h1], fun j b hj => ?_⟩
     cases j with
     | zero => simp at hj; subst hj; exact ⟨α, sz, enc, xs, fx, hb, rfl⟩
     | succ j => exact h2 j b (by simpa using hj)
    ·cases h
   ·cases h
theorem setRows_ok : ∀ {acc : List Nat} {outs : List AV} {st st' : List (Nat × Blk)}, setRows acc outs st = some st' → acc.Nodup → (∀ c, c ∉ acc → look c st' = look c st) ∧
 ∀ (j b : Nat), acc[j]? = some b → ∃ (α β : Type) (sz sz' : Nat) (enc : α → Nat → AV) (enc' : β → Nat → AV) (ys : Unit → List α) (xs : Unit → List β) (fx : Bool), outs[j]? = some (.sl sz enc ys) ∧ look b st = some (.row sz' enc' xs fx) ∧ look b st' = some (.row sz enc ys fx)
 | [], outs, st, st', h, _ => by
   cases outs with
   | nil => simp only [setRows, Option.some.injEq] at h; subst h; exact ⟨fun _ _ => rfl, fun j b hj => by simp at hj⟩
   | cons => simp [setRows] at h
 | c :: acc, outs, st, st', h, hn => by
   cases outs with
   | nil => simp [setRows] at h
   | cons x l =>
     cases x <;> first | (simp [setRows] at h; done) | skip
     rename_i α sz enc ys
     simp only [setRows] at h
     split at h
     ·rename_i β sz' enc' xs fx hb
      obtain ⟨hc, hn⟩ := List.nodup_cons.1 hn
      obtain ⟨h1, h2⟩ := setRows_ok h hn
      have lk : ∀ b, look b (setB c (.row sz enc ys fx) st) = if b = c then some (.row sz enc ys fx) else look b st := fun b => by
       rw [look_setB, hb]
       cases e : Nat.beq c b with
       | true => have := Nat.eq_of_beq_eq_true e; rw [if_pos this.symm]; rfl
       | false => rw [if_neg (fun h => by subst h; rw [Nat.beq_refl] at e; cases e)]; rfl
      refine ⟨fun b hb' => ?_, fun j b hj => ?_⟩
      ·rw [h1 b (fun h => hb' (List.mem_cons_of_mem _ h)), lk, if_neg (fun h => hb' (by rw [h]; exact List.mem_cons_self ..))]
      ·cases j with
       | zero =>
         simp at hj
         subst hj
         exact ⟨α, β, sz, sz', enc, enc', ys, xs, fx, rfl, hb, by rw [h1 c hc, lk, if_pos rfl]⟩
       | succ j =>
         have hj' : acc[j]? = some b := by simpa using hj
         obtain ⟨α', β', sz2, sz2', enc2, enc2', ys2, xs2, fx2, h3, h4, h5⟩ := h2 j b hj'
         have hne : b ≠ c := fun e => hc (e ▸ List.mem_of_getElem? hj')
         rw [lk, if_neg hne] at h4
         exact ⟨α', β', sz2, sz2', enc2, enc2', ys2, xs2, fx2, by simpa using h3, h4, h5⟩
     ·cases h
theorem look_dropAll {c : Nat} : ∀ {l : List Nat} {st : List (Nat × Blk)} {k : Blk}, look c (dropAll l st) = some k → look c st = some k ∧ c ∉ l
 | [], st, k, h => ⟨h, fun h => by cases h⟩
 | b :: l, st, k, h => by
   obtain ⟨h1, h2⟩ := look_dropAll (l := l) h
   obtain ⟨h3, h4⟩ := look_drop_some h1
   exact ⟨h4, fun hm => by rcases List.mem_cons.1 hm with e | hm; exact h3 e; exact h2 hm⟩
theorem memN_true {n : Nat} : ∀ {l : List Nat}, memN n l = true → n ∈ l
 | [], h => by cases h
 | m :: r, h => by
   rw [memN] at h
   cases e : Nat.beq m n with
   | true => have := Nat.eq_of_beq_eq_true e; subst this; exact List.mem_cons_self ..
   | false => rw [e] at h; exact List.mem_cons_of_mem _ (memN_true h)
section
variable {P : Program} {Q : AV → Prop} {As : List (St → Prop)} {mu : Nat → Bool} {nid : Nat} {o : Oper}
theorem deep_slice {w : World} {α : Type} {sz : Nat} {enc : α → Nat → AV} {xs : Unit → List α} {v : Value} {fp : List Nat} (h : Deep w (.sl sz enc xs) v fp) : ∃ A n c, v = .slice A n c := by
 cases h with
 | sl0 A _ => exact ⟨_, _, _, rfl⟩
 | sl => exact ⟨_, _, _, rfl⟩
theorem ownArg_some {l : List AV} {b j : Nat} {i : Unit → Nat} {y : AV} (h : ownArg l = some (b, i, j, y)) : ∃ k n, l = [.own b i j, .int k n] ∧ y = .int k n := by
 unfold ownArg at h
 split at h
 ·simp only [Option.some.injEq, Prod.mk.injEq] at h
  obtain ⟨rfl, rfl, rfl, rfl⟩ := h
  exact ⟨_, _, rfl, rfl⟩
 ·cases h
theorem m_callown {c : Go.Call} {f b j sz : Nat} {i : Unit → Nat} {k : IntKind} {n : Unit → Int} {α : Type} {enc : α → Nat → AV} {xs : Unit → List α} {x : α} {β : Type} {z : Nat} {e : β → Nat → AV} {ys : Unit → List β} {s : St} {K : AV → St → Tree} {w0 : Base} [TbOk P w0] {w : World} {N : Nat} {a : Act} (ho : o.op = .call c) (hcal : c.callee = .value (.func f))
 (hargs : c.args.toList.map (ev s.tm) = [.own b i j, .int k n]) (hb : look b s.st = some (.row sz enc xs true)) (hj : j < sz) (hx : (xs ())[i ()]? = some x) (he : enc x j = .sl z e ys)
 (h : Sat P Q As (.callm f [.ptr 0 0, .int k n] [.sl z e ys] (fun ret outs => match ret, outs with
   | .agg [.int k n], [.sl z' e' ys'] => .typed sz enc ((List.range j).map (enc x) ++ [.sl z' e' ys'] ++ (List.range (sz - j - 1)).map (fun q => enc x (j + 1 + q))) (fun x' =>
    K (.int k n) { s with st := setB b (.row sz enc (fun _ => setAt (xs ()) (i ()) x') true) s.st })
   | _, _ => .bad 130)))
 (hr : Rel w0 N s.tm (fun b => look b s.st) a w) (hfr : ∀ b k, look b s.st = some k → b < nid) (hN : ∀ g, ¬ w0.more g) : MD P Q As o s nid K w0 N a w := by
 obtain ⟨at_, FP, hh⟩ := hr
 have hG := hh.good
 have hvals : ∀ i' x', ([.own b i j, .int k n] : List AV)[i']? = some x' → Loc ⟨w0, w, at_, fun b => look b s.st⟩ x' ((c.args.map a.eval).getD i' undef) := fun i' x' hx' => by
  rw [← hargs, List.getElem?_map, Option.map_eq_some_iff] at hx'
  obtain ⟨q, hq, rfl⟩ := hx'
  rw [map_getD hq]
  exact hh.ev q
 have hsize : (c.args.map a.eval).size = 2 := by
  have := congrArg List.length hargs
  simpa using this
 have hv1 := hvals 0 _ rfl
 have hv2 := hvals 1 _ rfl
 have hi := lt_of_get hx
 have r := hG.rep b _ hb
 have hnd := hG.nodup b _ hb
 have hown : (⟨w0, w, at_, fun b => look b s.st⟩ : Env).own FP b = ownOf (at_ b) (FP b) := rfl
 generalize hg1 : (c.args.map a.eval).getD 0 undef = v1 at hv1
 cases hv1 with
 | @own _ _ _ g base p A n1 c1 cs0 t0 hp hl hi' hg0 hv =>
   obtain ⟨p1, p2, ph, β', enc', ys', p3, p4⟩ := hG.pins b p hp
   have p3 : look b s.st = _ := p3
   have p1 : at_ b = p.place := p1
   rw [hb] at p3
   cases p3
   have hat : at_ b = some (g, base) := p1.trans hl
   have hheads := ph (by omega) g base hl
   generalize hfp : FP b = fpb at r
   cases r with
   | row0 ha' _ => have ha' : at_ b = none := ha'; rw [hat] at ha'; cases ha'
   | @row _ _ _ _ _ g' base' cells t F ha' hgw hrr hc =>
     have ha' : at_ b = some (g', base') := ha'
     rw [hat] at ha'
     cases ha'
     have hgw : w.heap[g]? = some (.cells cells t (0, 0)) := hgw
     obtain ⟨cs1, q1, q2⟩ := hheads cells t hgw
     rw [hg0] at q1
     cases q1
     obtain ⟨u, hu, hd⟩ := hc (i ()) x hx j hj
     rw [he] at hd
     obtain ⟨A', n', c', rfl⟩ := deep_slice hd
     have hu0 := q2 _ _ _ _ hu
     rw [hv] at hu0
     have hu0 := (Option.some.inj hu0).symm
     rw [hu0] at hd hu
     rw [hown, hat] at hnd
     obtain ⟨n1', n2⟩ := List.nodup_cons.1 hnd
     rw [hfp] at n1' n2
     obtain ⟨n3, n4⟩ := nodup_flat n2
     have inF : ∀ p' q, p' < (xs ()).length → q < p.sz → ∀ u ∈ F p' q, u ∈ (List.range (xs ()).length).flatMap fun p' => (List.range p.sz).flatMap (F p') := fun p' q hp hq u hu => mem_flat (F := fun p' => (List.range p.sz).flatMap (F p')) hp (mem_flat hq hu)
     have inB : ∀ p' q, p' < (xs ()).length → q < p.sz → ∀ u ∈ F p' q, u ∈ (⟨w0, w, at_, fun b => look b s.st⟩ : Env).own FP b ∧ u ≠ g := fun p' q hp hq u hu => ⟨by rw [hown, hat, hfp]; exact List.mem_cons_of_mem _ (inF p' q hp hq u hu), fun e => n1' (e ▸ inF p' q hp hq u hu)⟩
     have ndF : (F (i ()) j).Nodup := (nodup_flat (n3 (i ()) hi)).1 j hj
     have off : ∀ p' q, p' < (xs ()).length → q < p.sz → ¬ (p' = i () ∧ q = j) → ∀ u ∈ F p' q, u ∉ F (i ()) j := fun p' q hp' hq hne u hu hu' => by
      by_cases hpi : p' = i ()
      ·subst hpi
       exact (nodup_flat (n3 (i ()) hi)).2 q j hq hj (fun e => hne ⟨rfl, e⟩) u hu hu'
      ·exact n4 p' (i ()) hp' hi hpi u (mem_flat hq hu) (mem_flat hj hu')
     cases h with
     | @callm _ _ _ cargs _ cbs outs ret _ hF hl2 ha2 hlb hb2 hcont =>
       have hl2 : cargs.length = 2 := hl2
       have hlb : cbs.length = 1 := hlb
       have hrun : (execOp a.eval o).run P w = .ok (.enter f (c.args.map a.eval)) w := by
        simp only [execOp, ho, resolve, hcal, Act.eval, Deferred.ofValue, Sem.run_bind, Sem.run_pure, Result.andThen_ok, invoke, call_enter hF.1]
        simp
       refine .inr ⟨f, c.args.map a.eval, w, hrun, (hF.2.2 w (c.args.map a.eval) (fun _ => .slice A n1 c1) (fun _ => F (i ()) j) (TbOk.lent hh.good.below (fun g' hg => by obtain ⟨i', _, hg⟩ := hg; exact (hG.base b _ hb g' (inB (i ()) j hi hj g' hg).1).elim .inl (fun h => h.elim .inr (fun h => (hN _ h).elim)))) (fun i' B hB => ?_) (fun i' j' hi' hj' hne => by omega) (by omega) (fun i' y hy => ?_)).mono (fun e' w' hpost => ?_)⟩
       ·have hi0 : i' = 0 := by have := lt_of_get hB; omega
        subst hi0
        exact ⟨(hb2 0 _ _ rfl hB).deep hd, ndF, fun u hu => hG.fresh b _ hb u (inB (i ()) j hi hj u hu).1⟩
       ·have hi0 : i' = 0 ∨ i' = 1 := by have := lt_of_get hy; omega
        rcases hi0 with rfl | rfl
        ·refine ArgRep.le ?_ (ha2 0 _ y rfl hy)
         rw [hg1]
         exact .lent 0 (by omega)
        ·refine ArgRep.le ?_ (ha2 1 _ y rfl hy)
         rw [hv2.int_inv]
         exact .deep (.int k n) (fun g hg => by cases hg)
       ·obtain ⟨v, rfl, hout, hret, hk, _⟩ := hpost
        refine ⟨v, rfl, ?_⟩
        dsimp only at hcont
        split at hcont
        ·rename_i k' n2' β2 z' e2 ys2
         cases hcont with
         | typed z0 hty hK =>
           have rowj : ∃ zs : Unit → List β, AV.sl z' e2 ys2 = .sl z e zs ∧ (zs ()).length = (ys ()).length := by
            have hcb := List.getElem?_eq_getElem (show 0 < cbs.length by omega)
            have hle := hb2 0 _ _ rfl hcb
            have hsame := hF.2.1.2 0 _ _ hcb rfl
            generalize cbs[0] = cb at hle hsame
            cases hle with
            | same => cases hsame with | mk hlen => exact ⟨_, rfl, hlen⟩
            | sl hxs => cases hsame with | mk hlen => exact ⟨_, rfl, by rw [hlen, hxs]⟩
           obtain ⟨zs, hzs, hzl⟩ := rowj
           rw [hzs] at hty
           have hd2 := hout 0 _ rfl
           rw [hzs] at hd2
           have hlen' : (setAt (xs ()) (i ()) z0).length = (xs ()).length := by unfold setAt; rw [List.length_set]
           have hlk : ∀ c', look c' (setB b (.row p.sz enc (fun _ => setAt (xs ()) (i ()) z0) true) s.st) = upd (fun c' => look c' s.st) b (some (.row p.sz enc (fun _ => setAt (xs ()) (i ()) z0) true)) c' := fun c' => congrFun (setB_look hb) c'
           have notL : ∀ u, u ∉ F (i ()) j → ¬ ∃ i', i' < cbs.length ∧ u ∈ (fun _ : Nat => F (i ()) j) i' := fun u hu ⟨_, _, h⟩ => hu h
           have same : ∀ u, u < w.heap.size → u ∉ F (i ()) j → w'.heap[u]? = w.heap[u]? := fun u hu hn => hk.block u hu (notL u hn)
           have gsame : w'.heap[g]? = w.heap[g]? := same g (heap_lt hgw) (fun hm => (inB (i ()) j hi hj g hm).2 rfl)
           have rep : BlkRep ⟨w0, w', at_, fun c' => look c' (setB b (.row p.sz enc (fun _ => setAt (xs ()) (i ()) z0) true) s.st)⟩ b (.row p.sz enc (fun _ => setAt (xs ()) (i ()) z0) true) ((List.range (setAt (xs ()) (i ()) z0).length).flatMap fun i => (List.range p.sz).flatMap (F i)) := by
            refine .row F hat (gsame.trans hgw) (by rw [hlen']; exact hrr) (fun p' x' hx' q hq => ?_)
            have hx' : (setAt (xs ()) (i ()) z0)[p']? = some x' := hx'
            have hp' : p' < (xs ()).length := by have := lt_of_get hx'; omega
            have keepD : ∀ {c : AV} {u : Value} {q : Nat}, Deep w c u (F p' q) → q < p.sz → ¬ (p' = i () ∧ q = j) → Deep w' c u (F p' q) := fun hd hq hne => hd.keep (fun v hv => same v (hd.bound v hv) (off p' _ hp' hq hne v hv))
            by_cases hpi : p' = i ()
            ·subst hpi
             have hxz : x' = z0 := by
              unfold setAt at hx'
              rw [List.getElem?_set_self hi] at hx'
              exact (Option.some.inj hx').symm
             subst hxz
             by_cases hqj : q = j
             ·subst hqj
              refine ⟨_, hu, (hty q (.sl z e zs) ?_).deep hd2⟩
              rw [mid_get, if_neg (by omega), if_pos (by simp)]
              simp
             ·obtain ⟨u0, hu0', hd0⟩ := hc (i ()) x hx q hq
              refine ⟨u0, hu0', (hty q (enc x q) ?_).deep (keepD hd0 hq (fun h => hqj h.2))⟩
              rw [mid_get]
              by_cases h1 : q < j
              ·rw [if_pos h1]
              ·rw [if_neg h1, if_neg (by simp; omega), if_pos (by simp; omega)]
               simp only [List.length_singleton]
               rw [show j + 1 + (q - j - 1) = q by omega]
            ·have hxp : (xs ())[p']? = some x' := by
              unfold setAt at hx'
              rw [List.getElem?_set_ne (fun e => hpi e.symm)] at hx'
              exact hx'
             obtain ⟨u0, hu0', hd0⟩ := hc p' x' hxp q hq
             exact ⟨u0, hu0', keepD hd0 hq (fun h => hpi h.1)⟩
           rw [hlen', ← hfp] at rep
           obtain ⟨hh2, _⟩ := hh.lent (st' := fun c' => look c' (setB b (.row p.sz enc (fun _ => setAt (xs ()) (i ()) z0) true) s.st)) (w' := w') (T := fun c' => c' = b) (lent := fun g => ∃ i', i' < cbs.length ∧ g ∈ (fun _ : Nat => F (i ()) j) i')
            (fun g hg => by
              obtain ⟨_, _, hg⟩ := hg
              exact (hG.base b _ hb g (inB (i ()) j hi hj g hg).1).elim .inl (fun h => h.elim .inr (fun h => (hN _ h).elim)))
            (fun g hg => by
              obtain ⟨_, _, hg⟩ := hg
              exact ⟨b, _, rfl, hb, (inB (i ()) j hi hj g hg).1⟩) hk
            (fun c' hc' => by
              show look c' (setB b _ s.st) = look c' s.st
              rw [hlk, upd_ne _ _ hc'])
            (fun c' hc' => by
              subst hc'
              exact ⟨α, p.sz, enc, xs, _, true, hb, by show look c' (setB c' _ s.st) = _; rw [hlk, upd_self], hlen'⟩)
            (fun c' k1 hc' hk1 => by
              subst hc'
              have hk1 : look c' (setB c' _ s.st) = some k1 := hk1
              rw [hlk, upd_self] at hk1
              cases hk1
              exact rep)
            (fun c' g' base' _ _ _ _ hc' _ _ hat' => by
              subst hc'
              rw [hat] at hat'
              cases hat'
              exact .of_eq gsame)
           refine ⟨_, _, hK, rfl, fun c' k1 hk1 => ?_, at_, FP, hh2, ?_⟩
           ·have hk1 : look c' (setB b _ s.st) = some k1 := hk1
            rw [hlk] at hk1
            by_cases e : c' = b
            ·subst e; have := hfr c' _ hb; omega
            ·rw [upd_ne _ _ e] at hk1; have := hfr c' _ hk1; omega
           ·cases hret with
            | val hd _ _ => cases hd; exact .int _ _
        ·exact (no_bad hcont).elim
theorem m_callm {c : Go.Call} {f : Nat} {s : St} {K : AV → St → Tree} {w0 : Base} [TbOk P w0] {w : World} {N : Nat} {a : Act} (ho : o.op = .call c) (hcal : c.callee = .value (.func f)) (h : Sat P Q As (mop (.callm f c.args.toList) s nid K))
 (hr : Rel w0 N s.tm (fun b => look b s.st) a w) (hfr : ∀ b k, look b s.st = some k → b < nid) (hN : ∀ g, ¬ w0.more g) : MD P Q As o s nid K w0 N a w := by
 simp only [mop] at h
 split at h
 ·rename_i b i j y hoa
  obtain ⟨k, n, hargs, rfl⟩ := ownArg_some hoa
  split at h
  ·rename_i α sz enc xs hb
   obtain ⟨hlt, h⟩ := bif_true h rfl
   cases h with
   | idx h0 h =>
     have hx := List.getElem?_eq_getElem h0
     have h := h _ hx
     dsimp only at h
     split at h
     ·rename_i β z e ys he
      exact m_callown ho hcal hargs hb (Nat.le_of_ble_eq_true hlt) hx he h hr hfr hN
     ·exact (no_bad h).elim
  ·exact (no_bad h).elim
 obtain ⟨at_, FP, hh⟩ := hr
 split at h
 ·rename_i p hp
  obtain ⟨as, acc⟩ := p
  cases hall : acc.all (fun b => memN b (refsL (refsA 4) (c.args.toList.map (ev s.tm)))) with
  | false => simp only [hall, Bool.not_false, cond_true] at h; exact (no_bad h).elim
  | true =>
    simp only [hall, Bool.not_true, cond_false] at h
    split at h
    ·rename_i bs hbs
     cases h with
     | need hw h =>
       cases h with
       | @callm _ _ _ cargs _ cbs outs ret _ hF hl ha hlb hb hcont =>
         have hG := hh.good
         have hvals : ∀ i x, (c.args.toList.map (ev s.tm))[i]? = some x → Loc ⟨w0, w, at_, fun b => look b s.st⟩ x ((c.args.map a.eval).getD i undef) := fun i x hx => by
          rw [List.getElem?_map, Option.map_eq_some_iff] at hx
          obtain ⟨z, hz, rfl⟩ := hx
          rw [map_getD hz]
          exact hh.ev z
         obtain ⟨l1, nw, us, e1, e2, e3, e4, e5⟩ := lendL_ok hG (st := s.st) (st0 := dropAll (refsL (refsA 4) (c.args.toList.map (ev s.tm))) s.st) (fun b k hk => (look_dropAll hk).1) 4 _ _ _ _ (fun i => (c.args.map a.eval).getD i undef) hp hw hvals
         rw [List.nil_append] at e1
         subst e1
         have hnd : acc.Nodup := e3 List.nodup_nil
         obtain ⟨r1, r2⟩ := rowsAt_ok hbs
         have hex : ∀ (j : Nat), ∃ fpj : List Nat, ∀ (b : Nat) (u : Value), acc[j]? = some b → us[j]? = some u → ∀ (α : Type) (sz : Nat) (enc : α → Nat → AV) (xs : Unit → List α) (fx : Bool), look b s.st = some (.row sz enc xs fx) →
          WholeR ⟨w0, w, at_, fun b => look b s.st⟩ FP b sz (xs ()) u fpj ∧ Deep w (.sl sz enc xs) u fpj ∧ fpj.Nodup ∧ ∀ g ∈ fpj, g ∈ (⟨w0, w, at_, fun b => look b s.st⟩ : Env).own FP b := fun j => by
          cases ej : acc[j]? with
          | none => exact ⟨[], fun b u hb => by cases hb⟩
          | some b =>
            have hj : j < acc.length := lt_of_get ej
            have eu : us[j]? = some (us[j]'(by omega)) := List.getElem?_eq_getElem (by omega)
            obtain ⟨α, sz, enc, xs, fx, off, n, h1, h2, h3, h4⟩ := e4 j b _ ej eu
            obtain ⟨fpj, w1, w2, w3, w4⟩ := whole_ref hG h1 h2 h3 h4
            refine ⟨fpj, fun b' u' hb' hu' α' sz' enc' xs' fx' hk => ?_⟩
            cases hb'
            rw [eu] at hu'
            cases hu'
            rw [h1] at hk
            cases hk
            exact ⟨w1, w2, w3, w4⟩
         obtain ⟨fp, hfp⟩ := Classical.axiomOfChoice hex
         let sv : Nat → Value := fun j => us.getD j undef
         have hsv : ∀ j, j < acc.length → us[j]? = some (sv j) := fun j hj => by
          show us[j]? = some (us.getD j undef)
          have : j < us.length := by omega
          simp [List.getD, this]
         have at_j : ∀ (j : Nat), j < acc.length → ∃ (b : Nat) (α : Type) (sz : Nat) (enc : α → Nat → AV) (xs : Unit → List α) (fx : Bool), acc[j]? = some b ∧ look b s.st = some (.row sz enc xs fx) ∧ bs[j]? = some (.sl sz enc xs) ∧
          WholeR ⟨w0, w, at_, fun b => look b s.st⟩ FP b sz (xs ()) (sv j) (fp j) ∧ Deep w (.sl sz enc xs) (sv j) (fp j) ∧ (fp j).Nodup ∧ ∀ g ∈ fp j, g ∈ (⟨w0, w, at_, fun b => look b s.st⟩ : Env).own FP b := fun j hj => by
          have ej := List.getElem?_eq_getElem hj
          obtain ⟨α, sz, enc, xs, fx, h1, h2⟩ := r2 j _ ej
          exact ⟨_, α, sz, enc, xs, fx, ej, h1, h2, hfp j _ _ ej (hsv j hj) α sz enc xs fx h1⟩
         have hlen : cbs.length = acc.length := by omega
         have inj : ∀ (i j b : Nat), acc[i]? = some b → acc[j]? = some b → i = j := fun i j b hi hj => by
          have h1 := lt_of_get hi
          have h2 := lt_of_get hj
          rw [List.getElem?_eq_getElem h1] at hi
          rw [List.getElem?_eq_getElem h2] at hj
          exact (List.getElem_inj hnd).1 ((Option.some.inj hi).trans (Option.some.inj hj).symm)
         have lentOwn : ∀ g, (∃ i, i < cbs.length ∧ g ∈ fp i) → ∃ b k, b ∈ acc ∧ look b s.st = some k ∧ g ∈ (⟨w0, w, at_, fun b => look b s.st⟩ : Env).own FP b := fun g ⟨i, hi, hg⟩ => by
          obtain ⟨b, α, sz, enc, xs, fx, h1, h2, h3, h4, h5, h6, h7⟩ := at_j i (by omega)
          exact ⟨b, _, List.mem_of_getElem? h1, h2, h7 g hg⟩
         have notLent : ∀ g, FromOf ⟨w0, w, at_, fun b => look b s.st⟩ FP (dropAll (refsL (refsA 4) (c.args.toList.map (ev s.tm))) s.st) g → ¬ ∃ i, i < cbs.length ∧ g ∈ fp i := fun g hg hlent => by
          obtain ⟨b, k, hb1, hb2, hb3⟩ := lentOwn g hlent
          rcases hg with ⟨g1, g2⟩ | ⟨b', g1, g2⟩
          ·rcases hG.base b k hb2 g hb3 with h | h | h
           ·have h : w0.w.heap.size ≤ g := h
            have g1 : g < w0.w.heap.size := g1
            omega
           ·exact g2 h
           ·exact hN _ h
          ·cases e : look b' (dropAll (refsL (refsA 4) (c.args.toList.map (ev s.tm))) s.st) with
           | none => exact g1 e
           | some k' =>
             obtain ⟨d1, d2⟩ := look_dropAll e
             have hm := memN_true (List.all_eq_true.1 hall b hb1)
             exact hG.apart b b' k k' hb2 d1 (fun e => d2 (e ▸ hm)) g hb3 g2
         have hrun : (execOp a.eval o).run P w = .ok (.enter f (c.args.map a.eval)) w := by
          simp only [execOp, ho, resolve, hcal, Act.eval, Deferred.ofValue, Sem.run_bind, Sem.run_pure, Result.andThen_ok, invoke, call_enter hF.1]
          simp
         refine .inr ⟨f, c.args.map a.eval, w, hrun, (hF.2.2 w (c.args.map a.eval) sv fp (TbOk.lent hh.good.below (fun g hg => by obtain ⟨b, k, h1, h2, h3⟩ := lentOwn g hg; exact (hG.base b k h2 g h3).elim .inl (fun h => h.elim .inr (fun h => (hN _ h).elim)))) (fun i B hB => ?_) (fun i j hi hj hne g hg hg' => ?_) (by have : as.length = (c.args.toList.map (ev s.tm)).length := l1; simp at this ⊢; omega) (fun i y hy => ?_)).mono (fun e w' hpost => ?_)⟩
         ·obtain ⟨b, α, sz, enc, xs, fx, h1, h2, h3, h4, h5, h6, h7⟩ := at_j i (by have := lt_of_get hB; omega)
          exact ⟨(hb i _ _ h3 hB).deep h5, h6, fun g hg => hG.fresh b _ h2 g (h7 g hg)⟩
         ·obtain ⟨b, α, sz, enc, xs, fx, h1, h2, h3, h4, h5, h6, h7⟩ := at_j i (by omega)
          obtain ⟨b', α', sz', enc', xs', fx', h1', h2', h3', h4', h5', h6', h7'⟩ := at_j j (by omega)
          exact hG.apart b b' _ _ h2 h2' (fun e => hne (inj i j b h1 (e ▸ h1'))) g (h7 g hg) (h7' g hg')
         ·obtain ⟨x, hx⟩ := get_of_len hl hy
          refine (e5 sv cbs.length _ (fun j u hu => ?_) (by omega) notLent i x hx).le (ha i x y hx hy)
          have := hsv j (by have := lt_of_get hu; omega)
          rw [hu] at this
          simp only [List.length_nil, Nat.zero_add]
          exact (Option.some.inj this).symm
         ·obtain ⟨v, rfl, hout, hret, hk, hhd⟩ := hpost
          refine ⟨v, rfl, ?_⟩
          dsimp only at hcont
          split at hcont
          ·rename_i st' hst'
           obtain ⟨s1, s2⟩ := setRows_ok hst' hnd
           have rowj : ∀ (j b : Nat), acc[j]? = some b → ∃ (α : Type) (sz : Nat) (enc : α → Nat → AV) (xs ys : Unit → List α) (fx : Bool), look b s.st = some (.row sz enc xs fx) ∧ look b st' = some (.row sz enc ys fx) ∧ (ys ()).length = (xs ()).length ∧ outs[j]? = some (.sl sz enc ys) ∧ bs[j]? = some (.sl sz enc xs) := fun j b hj => by
            have hjl := lt_of_get hj
            obtain ⟨α, sz, enc, xs, fx, h1, h2⟩ := r2 j b hj
            obtain ⟨α', β', sz1, sz2, enc1, enc2, ys, xs2, fx2, h3, h4, h5⟩ := s2 j b hj
            rw [h1] at h4
            cases h4
            have hcb : j < cbs.length := by omega
            have hcb' := List.getElem?_eq_getElem hcb
            have hle := hb j _ _ h2 hcb'
            have hsame := hF.2.1.2 j _ _ hcb' h3
            generalize cbs[j] = cb at hle hsame
            cases hle with
            | same =>
              cases hsame with
              | mk hlen => exact ⟨_, _, _, _, _, _, h1, h5, hlen, h3, h2⟩
            | sl hxs =>
              cases hsame with
              | mk hlen => exact ⟨_, _, _, _, _, _, h1, h5, by rw [hlen, hxs], h3, h2⟩
           have hT : ∀ b, b ∈ acc → ∃ j, acc[j]? = some b := fun b hb => List.getElem?_of_mem hb
           obtain ⟨hh2, mv⟩ := hh.lent (st' := fun b => look b st') (w' := w') (T := fun b => b ∈ acc) (lent := fun g => ∃ i, i < cbs.length ∧ g ∈ fp i) (fun g hg => by
            obtain ⟨b, k, h1, h2, h3⟩ := lentOwn g hg
            exact (hG.base b k h2 g h3).elim .inl (fun h => h.elim .inr (fun h => (hN _ h).elim))) (fun g hg => by
            obtain ⟨b, k, h1, h2, h3⟩ := lentOwn g hg
            exact ⟨b, k, h1, h2, h3⟩) hk (fun c hc => s1 c hc) (fun c hc => by
            obtain ⟨j, hj⟩ := hT c hc
            obtain ⟨α, sz, enc, xs, ys, fx, h1, h2, h3, _⟩ := rowj j c hj
            exact ⟨α, sz, enc, xs, ys, fx, h1, h2, h3⟩) (fun c k' hc hk' => by
            obtain ⟨j, hj⟩ := hT c hc
            obtain ⟨α, sz, enc, xs, ys, fx, h1, h2, h3, h4, h5⟩ := rowj j c hj
            have hk2 : look c st' = some k' := hk'
            rw [h2] at hk2
            cases hk2
            obtain ⟨w1, w2, w3, w4⟩ := hfp j c _ hj (hsv j (lt_of_get hj)) α sz enc xs fx h1
            exact w1.back (E' := ⟨w0, w', at_, fun b => look b st'⟩) (hG.rep c _ h1) rfl (fun g hg => by
             by_cases hl : ∃ i, i < cbs.length ∧ g ∈ fp i
             ·exact hk.shape g hl
             ·obtain ⟨cs, t, hcs⟩ := hG.fresh c _ h1 g hg
              exact ⟨cs, t, cs, hcs, (hk.block g (heap_lt hcs) hl).trans hcs, rfl⟩) (hout j _ h4) h3) (fun c g base α0 sz0 enc0 xs0 hc hst0 hpos hat => by
            obtain ⟨j, hj⟩ := hT c hc
            have hst0 : look c s.st = _ := hst0
            obtain ⟨w1, _, _, _⟩ := hfp j c _ hj (hsv j (lt_of_get hj)) α0 sz0 enc0 xs0 true hst0
            have hjl := lt_of_get hj
            generalize hsvj : sv j = u at w1
            generalize hfpj : fp j = fpv at w1
            generalize hxl : xs0 () = xl at w1
            cases w1 with
            | none A hx => rw [hxl, hx] at hpos; simp at hpos
            | some g' base' cap' cells' t' ha' =>
              have ha' : at_ c = some (g', base') := ha'
              rw [hat] at ha'
              cases ha'
              exact hhd j g base _ _ (by omega) hsvj (by rw [hxl] at hpos; exact hpos))
           have keys : ∀ b k, look b st' = some k → b < nid := fun b k hb => by
            by_cases hm : b ∈ acc
            ·obtain ⟨j, hj⟩ := hT b hm
             obtain ⟨α, sz, enc, xs, ys, fx, h1, _⟩ := rowj j b hj
             exact hfr b _ h1
            ·rw [s1 b hm] at hb
             exact hfr b k hb
           split at hcont
           ·rename_i x
            cases hle : Nat.ble (imp 3 x nid).2.2 (nid + 16) with
            | false => simp only [hle, cond_false] at hcont; exact (no_bad hcont).elim
            | true =>
              simp only [hle, cond_true] at hcont
              have hle := Nat.le_of_ble_eq_true hle
              cases hret with
              | val hd hn hf =>
                obtain ⟨at1, FP1, i1, i2, _⟩ := (imp_ok 3 x nid w0 w' N s.tm a (fun b => look b st') at_ FP v _ hh2 hd hn (fun g hg => ⟨hG.below.hot (hf g hg).1, (hf g hg).2⟩)
                 (fun c k hc g hg hg' => by
                   have hc' : ∃ k0, look c s.st = some k0 := by
                    by_cases hm : c ∈ acc
                    ·obtain ⟨j, hj⟩ := hT c hm
                     obtain ⟨α, sz, enc, xs, ys, fx, h1, _⟩ := rowj j c hj
                     exact ⟨_, h1⟩
                    ·exact ⟨k, (s1 c hm).symm.trans hc⟩
                   obtain ⟨k0, hk0⟩ := hc'
                   have h1 := hG.bound (show (⟨w0, w, at_, fun b => look b s.st⟩ : Env).st c = some k0 from hk0) g hg'
                   have h1 : g < w.heap.size := h1
                   have := (hf g hg).1
                   omega)
                 (fun b hb1 hb2 => by
                   show look b st' = none
                   cases e : look b st' with
                   | none => rfl
                   | some k => have := keys b k e; omega)).ok
                refine ⟨_, _, hcont, rfl, fun b k hb => ?_, at1, FP1, i1.congr (fun _ => rfl) (fun b => ?_), ?_⟩
                ·have hb' : look b ((imp 3 x nid).2.1 ++ st') = some k := hb
                 rw [look_append] at hb'
                 split at hb'
                 ·rename_i k' hk'
                  have := ((imp_ids 3 x nid).2 _ (look_mem hk')).2
                  have : b < (imp 3 x nid).2.2 := this
                  omega
                 ·have := keys b k hb'; omega
                ·show (match look b (imp 3 x nid).2.1 with | some k => some k | none => look b st') = look b ((imp 3 x nid).2.1 ++ st')
                 rw [look_append]
                 cases look b (imp 3 x nid).2.1 <;> rfl
                ·have e : (fun b => look b ((imp 3 x nid).2.1 ++ st')) = addAll (imp 3 x nid).2.1 (fun b => look b st') := by
                  funext b
                  show look b ((imp 3 x nid).2.1 ++ st') = (match look b (imp 3 x nid).2.1 with | some k => some k | none => look b st')
                  rw [look_append]
                  cases look b (imp 3 x nid).2.1 <;> rfl
                 show Loc ⟨w0, w', at1, fun b => look b ((imp 3 x nid).2.1 ++ st')⟩ _ _
                 rw [e]
                 exact i2
           ·rename_i i k1 off k2 n
            split at hcont
            ·rename_i b hbi
             cases hret with
             | @view _ _ _ _ _ o m α sz enc xs _ hbb ho hm hv =>
               obtain ⟨α0, sz0, enc0, xs0, ys0, fx0, h1, h2, h3, h4, h5⟩ := rowj i b hbi
               have hsz : sz0 = sz := by
                have hle := hb i _ _ h5 hbb
                cases hle <;> rfl
               subst hsz
               refine ⟨_, _, hcont, rfl, fun b k hb => by have := keys b k hb; omega, at_, FP, hh2, .ref h2 ?_⟩
               obtain ⟨w1, w2, w3, w4⟩ := hfp i b _ hbi (hsv i (lt_of_get hbi)) α0 sz0 enc0 xs0 fx0 h1
               dsimp only
               rw [ho, hm, Int.toNat_natCast, Int.toNat_natCast, h3]
               obtain ⟨A, len, cap, q1, q2, A', cap', rfl, q3, q4⟩ := hv
               rw [q1] at w1
               generalize hfi : fp i = fpi at w1
               generalize hx0 : xs0 () = xl at w1
               cases w1 with
               | none A hx =>
                 have hm0 : m = 0 := by omega
                 have ho0 : o = 0 := by omega
                 have hc0 : cap' = 0 := by rcases q4 with h | ⟨h, _⟩ <;> omega
                 subst hm0 ho0 hc0
                 cases hat : at_ b with
                 | none => exact .ofNone hat (by omega)
                 | some pl =>
                   obtain ⟨g, base⟩ := pl
                   have hown : g ∈ (⟨w0, w', at_, fun b => look b st'⟩ : Env).own FP b := by
                    show g ∈ ownOf (at_ b) (FP b)
                    rw [hat]
                    exact List.mem_cons_self ..
                   obtain ⟨cs, t, hcs⟩ := hh2.good.fresh b _ h2 g hown
                   exact .ofSome hat (by omega) (Nat.le_refl _) hcs (.inl rfl)
               | some g base cap2 cells t hat hc hn hg hr =>
                 have hat' : at_ b = some (g, base) := hat
                 have hown : g ∈ (⟨w0, w', at_, fun b => look b st'⟩ : Env).own FP b := by
                  show g ∈ ownOf (at_ b) (FP b)
                  rw [hat']
                  exact List.mem_cons_self ..
                 obtain ⟨cs, t', hcs⟩ := hh2.good.fresh b _ h2 g hown
                 refine .ofSome hat' (by omega) q3 hcs ?_
                 rcases q4 with h | ⟨_, g2, o2, cs2, t2, z1, z2, z3, z4⟩
                 ·exact .inl h
                 ·simp only [Option.some.injEq, Addr.mk.injEq, and_true] at z1
                  obtain ⟨rfl, rfl⟩ := z1
                  have hcs' : w'.heap[g]? = some (.cells cs t' (0, 0)) := hcs
                  rw [hcs'] at z3
                  cases z3
                  exact .inr ⟨z2, z4⟩
            ·exact (no_bad hcont).elim
           ·exact (no_bad hcont).elim
          ·exact (no_bad hcont).elim
    ·exact (no_bad h).elim
 ·exact (no_bad h).elim
end
end Go.V
