/- A theory of its own: Go code in short, evaluated, with proof that the machine does what the evaluation tells. Conditions: those that each theorem states. Part 4. -/
import Derived.Test.YtbmbdfkeecifiaaGreatDoorV3
import Derived.Lib.AppendZeros
import Derived.Orders
set_option linter.unusedVariables false
set_option linter.unusedSimpArgs false
namespace Go.V
open Go Go.RowKit
section
variable {P : Program} {Q : AV → Prop} {As : List (St → Prop)} {mu : Nat → Bool} {nid : Nat} {o : Oper}
theorem clear_none {c : Go.Call} {t : TypeId} {x : Operand} {a : Act} {w : World} {A : Option Addr} {cap : Nat} {e : TypeId} (ho : o.op = .call c) (hc : c.callee = .builtin .clear) (ht : c.argTypes[0]? = some t) (ha : c.args.toList = [x]) (hu : P.underlying t = some (.slice e)) (hx : a.eval x = .slice A 0 cap) :
 (execOp a.eval o).run P w = .ok (.value (.tuple #[])) w := by
 have hargs : c.args = #[x] := by
  have : c.args.toList = (#[x] : Array Operand).toList := ha
  exact Array.toList_inj.1 this
 cases A <;> simp [execOp, ho, resolve, hc, hargs, invoke, builtin, Builtin.clear_, ht, hx, run_underlying hu]
theorem clear_some {c : Go.Call} {t e : TypeId} {x : Operand} {a : Act} {w : World} {g off n cap : Nat} {z : Value} {cells : Array Value} {ty : TypeId} (ho : o.op = .call c) (hc : c.callee = .builtin .clear) (ht : c.argTypes[0]? = some t) (ha : c.args.toList = [x]) (hu : P.underlying t = some (.slice e))
 (hz : (zeroValue e).run P w = .ok z w) (h1 : ∀ u ∈ (Builtin.zeroCells z.cells n).toList, u.oneCell' = true) (hx : a.eval x = .slice (some ⟨g, off, none⟩) n cap) (hn : 0 < n) (hg : w.heap[g]? = some (.cells cells ty (0, 0))) (hr : off + (Builtin.zeroCells z.cells n).toList.length ≤ cells.size) :
 (execOp a.eval o).run P w = .ok (.value (.tuple #[])) (w.setCells g off (Builtin.zeroCells z.cells n).toList) := by
 have hargs : c.args = #[x] := by
  have : c.args.toList = (#[x] : Array Operand).toList := ha
  exact Array.toList_inj.1 this
 have hst := run_storeCells_cells (P := P) g off (Builtin.zeroCells z.cells n).toList 0 w (fun j hj => by
  have : off + j < cells.size := by omega
  rw [cell_of hg, Nat.add_zero]
  simp [this]) (fun j hj => frozen_of_row w g _ cells ty hg) h1
 rw [Nat.add_zero] at hst
 obtain ⟨m, rfl⟩ : ∃ m, n = m + 1 := ⟨n - 1, by omega⟩
 simp [execOp, ho, resolve, hc, hargs, invoke, builtin, Builtin.clear_, ht, hx, run_underlying hu, hz, hst]
theorem m_clr {c : Go.Call} {t e : TypeId} {x : Operand} {sz b : Nat} {zs : List Value} {off n : Unit → Nat} {α : Type} {enc : α → Nat → AV} {xs : Unit → List α} {fx : Bool} {z : α} {s : St} {K : AV → St → Tree} {w0 : Base} {w : World} {N : Nat} {a : Act}
 (ho : o.op = .call c) (hc : c.callee = .builtin .clear) (ht : c.argTypes[0]? = some t) (ha : c.args.toList = [x]) (hu : P.underlying t = some (.slice e)) (hz : zero? P e = some zs) (hzl : zs.length = sz) (h0 : 0 < sz) (hx : ev s.tm x = .ref b off n) (hb : look b s.st = some (.row sz enc xs fx))
 (hflS : (zs.map ofVal).all flatS = true) (hxf : ∀ x ∈ xs (), ∀ j, j < sz → flat (enc x j) = true) (hty : ∀ (j : Nat) (c : AV), (zs.map ofVal)[j]? = some c → LeD c (enc z j))
 (h : Sat P Q As (K (.tup []) { s with st := setB b (.row sz enc (fun _ => (xs ()).take (off ()) ++ List.replicate (n ()) z ++ (xs ()).drop (off () + n ())) fx) s.st }))
 (hr : Rel w0 N s.tm (fun b => look b s.st) a w) (hfr : ∀ b k, look b s.st = some k → b < nid) : MD P Q As o s nid K w0 N a w := by
 have hfl := flatS_all hflS
 obtain ⟨at_, FP, hh⟩ := hr
 have hgood := hh.good
 have hx1 := hh.ev x
 rw [hx] at hx1
 obtain ⟨A, cap, hv, hncap, hle, hwhere⟩ := ref_row (E := ⟨w0, w, at_, fun b => look b s.st⟩) hgood hb hx1
 let ys : Unit → List α := fun _ => (xs ()).take (off ()) ++ List.replicate (n ()) z ++ (xs ()).drop (off () + n ())
 have hlen : (ys ()).length = (xs ()).length := by simp only [ys, List.length_append, List.length_take, List.length_replicate, List.length_drop]; omega
 have hget : ∀ p : Nat, (ys ())[p]? = if off () ≤ p ∧ p < off () + n () then some z else (xs ())[p]? := fun p => by
  show ((xs ()).take (off ()) ++ List.replicate (n ()) z ++ (xs ()).drop (off () + n ()))[p]? = _
  have hl : ((xs ()).take (off ())).length = off () := by rw [List.length_take]; omega
  by_cases h1 : p < off ()
  ·rw [if_neg (by omega), List.append_assoc, List.getElem?_append_left (by omega), List.getElem?_take, if_pos h1]
  ·by_cases h2 : p < off () + n ()
   ·rw [if_pos ⟨by omega, h2⟩, List.getElem?_append_left (by rw [List.length_append, hl, List.length_replicate]; omega), List.getElem?_append_right (by omega), hl, List.getElem?_replicate, if_pos (by omega)]
   ·rw [if_neg (by omega), List.getElem?_append_right (by rw [List.length_append, hl, List.length_replicate]; omega), List.length_append, hl, List.length_replicate, List.getElem?_drop]
    congr 1
    omega
 have r := hgood.rep b _ hb
 have fin : ∀ (w' : World), Mod w0 w w' → (∀ g', (∀ q ∈ (⟨w0, w, at_, fun b => look b s.st⟩ : Env).own FP b, q ≠ g') → w'.heap[g']? = w.heap[g']?) →
  (∀ g base cs t, at_ b = some (g, base) → w.heap[g]? = some (.cells cs t (0, 0)) → ∃ cs', w'.heap[g]? = some (.cells cs' t (0, 0)) ∧ cs'.size = cs.size) → (∀ g base, at_ b = some (g, base) → Heads w w' g) →
  BlkRep ⟨w0, w', at_, fun c => look c (setB b (.row sz enc ys fx) s.st)⟩ b (.row sz enc ys fx) (FP b) → (execOp a.eval o).run P w = .ok (.value (.tuple #[])) w' → MD P Q As o s nid K w0 N a w := by
  intro w' hmod helse hshape hheads hrep hrun
  have hlk : ∀ c, look c (setB b (.row sz enc ys fx) s.st) = upd (fun c => look c s.st) b (some (.row sz enc ys fx)) c := fun c => congrFun (setB_look hb) c
  have key := hh.rebuild (w' := w') (st' := fun c => look c (setB b (.row sz enc ys fx) s.st)) (at' := at_) (b := b) (blk' := .row sz enc ys fx) (fp' := FP b) (gone := fun _ => false) hmod
   (fun c hcb => by
     rw [if_neg (fun h => by cases h), show scrubK (fun _ => false) = id from funext scrubK_id]
     show look c (setB b _ s.st) = _
     rw [hlk, upd_ne _ _ hcb]
     cases look c s.st <;> rfl)
   (by show look b (setB b _ s.st) = _; rw [hlk, upd_self]) (fun c _ => rfl)
   (fun _ blk hblk => by
     have hblk' : look b s.st = some blk := hblk
     rw [hb] at hblk'
     cases hblk'
     exact ⟨⟨_, by show look b (setB b _ s.st) = _; rw [hlk, upd_self], .row hlen⟩, rfl, fun g2 base2 cs2 t2 hg2 hc2 => hshape g2 base2 cs2 t2 hg2 hc2⟩)
   (fun c k hcb _ hk q hq => helse q (fun q' hq' e => by subst e; exact hgood.apart b c _ k hb hk (fun e => hcb e.symm) q' hq' hq))
   (fun _ => hrep) (hgood.nodup b _ hb)
   (fun q hq => ⟨hgood.base b _ hb q hq, (by
     obtain ⟨cs, t', hcs⟩ := hgood.fresh b _ hb q hq
     by_cases e : ∃ base, at_ b = some (q, base)
     ·obtain ⟨base, e⟩ := e
      obtain ⟨cs', h1, _⟩ := hshape q base cs t' e hcs
      exact ⟨cs', t', h1⟩
     ·have hq0 : q ∈ ownOf (at_ b) (FP b) := hq
      cases ha2 : at_ b with
      | none => rw [ha2] at hq0; cases hq0
      | some pq =>
        rw [ha2] at hq0
        rcases List.mem_cons.1 hq0 with e2 | hq0
        ·exact absurd ⟨pq.2, by rw [ha2, e2]⟩ e
        ·exfalso
         have rr := r
         generalize FP b = fp at rr hq0
         cases rr with
         | row0 => cases hq0
         | @row _ _ _ _ _ g' base' cells ty F ha3 hg3 hr3 hc3 =>
           obtain ⟨p, hp, hq0⟩ := List.mem_flatMap.1 hq0
           obtain ⟨j, hj, hq0⟩ := List.mem_flatMap.1 hq0
           have hp := List.mem_range.1 hp
           obtain ⟨u, _, hd⟩ := hc3 p _ (List.getElem?_eq_getElem hp) j (List.mem_range.1 hj)
           rw [flat_fp hd (hxf _ (List.getElem_mem hp) j (List.mem_range.1 hj))] at hq0
           cases hq0), fun c k hcb _ hk hm => hgood.apart b c _ k hb hk (fun e => hcb e.symm) q hq hm⟩)
   (fun c p hp => by
     obtain ⟨p1, p2, _, β, enc', xs', p3, p4⟩ := hgood.pins c p hp
     have p3 : look c s.st = _ := p3
     by_cases e : c = b
     ·subst e
      rw [hb] at p3
      cases p3
      exact .inr ⟨rfl, rfl, rfl, hheads, _, enc, _, rfl, by rw [← p4]; exact hlen⟩
     ·exact .inl ⟨e, rfl⟩) (hgood.rt.hot b _ hb) (fun c cs hc => ⟨fun e => (by subst e; have hc : look c s.st = _ := hc; rw [hb] at hc; cases hc), rfl⟩) (by
     cases hfx0 : fx with
     | false => exact .inl rfl
     | true => subst hfx0; exact .inr ⟨hgood.fxp b _ _ _ _ hb, fun cs h => by cases h⟩)
  obtain ⟨hh2, _⟩ := key
  refine .inl ⟨.tuple #[], w', .inl hrun, .tup [], _, h, rfl, fun c k hck => ?_, at_, _, hh2.congr (fun t => scrubT_id) (fun _ => rfl), .tup rfl (fun i y hy => by simp at hy)⟩
  have hck : look c (setB b (.row sz enc ys fx) s.st) = some k := hck
  rw [hlk] at hck
  by_cases e : c = b
  ·subst e
   have := hfr c _ hb
   omega
  ·rw [upd_ne _ _ e] at hck
   have := hfr c k hck
   omega
 generalize hfp : FP b = fp at r
 cases r with
 | row0 ha0 hx0 =>
   have ha0 : at_ b = none := ha0
   have hn0 : n () = 0 := by rw [hx0] at hle; simp at hle; omega
   refine fin w (Mod.refl w) (fun _ _ => rfl) (fun g base cs t h1 h2 => ⟨cs, h2, rfl⟩) (fun g _ _ => Heads.refl w g) ?_ (clear_none ho hc ht ha hu (by rw [hv, hn0]))
   rw [hfp]
   exact .row0 ha0 (List.eq_nil_of_length_eq_zero (by rw [hlen, hx0]; rfl))
 | @row _ _ _ _ _ g base cells ty F ha0 hg hrr hcl =>
   have ha0 : at_ b = some (g, base) := ha0
   have hg : w.heap[g]? = some (.cells cells ty (0, 0)) := hg
   have hF : ∀ p q, p < (xs ()).length → q < sz → F p q = [] := fun p q hp hq => by
    obtain ⟨u, _, hd⟩ := hcl p _ (List.getElem?_eq_getElem hp) q hq
    exact flat_fp hd (hxf _ (List.getElem_mem hp) q hq)
   by_cases hn0 : n () = 0
   ·refine fin w (Mod.refl w) (fun _ _ => rfl) (fun g base cs t h1 h2 => ⟨cs, h2, rfl⟩) (fun g _ _ => Heads.refl w g) ?_ (clear_none ho hc ht ha hu (by rw [hv, hn0]))
    rw [hfp]
    have rep : BlkRep ⟨w0, w, at_, fun c => look c (setB b (.row sz enc ys fx) s.st)⟩ b (.row sz enc ys fx) ((List.range (ys ()).length).flatMap fun i => (List.range sz).flatMap (F i)) := .row F ha0 hg (by rw [hlen]; exact hrr) (fun p x hx q hq => by
     rw [hget, if_neg (by omega)] at hx
     exact hcl p x hx q hq)
    rw [hlen] at rep
    exact rep
   ·
    have hAt : A = some ⟨g, base + off () * sz, none⟩ ∧ base + (off () + cap) * sz ≤ cells.size := by
     rcases hwhere with ⟨e1, _⟩ | ⟨g', base', cells', ty', e1, e2, e3⟩
     ·have e1 : at_ b = none := e1
      rw [ha0] at e1; cases e1
     ·have e1 : at_ b = some (g', base') := e1
      rw [ha0] at e1
      cases e1
      have e2 : w.heap[g]? = some (.cells cells' ty' (0, 0)) := e2
      rw [hg] at e2
      cases e2
      rcases e3 with e3 | e3
      ·omega
      ·exact e3
    obtain ⟨rfl, hAr⟩ := hAt
    obtain ⟨zv, hzr, rfl⟩ := zero_run hz w
    have hzs : zv.cells.size = sz := by simpa using hzl
    obtain ⟨fs, fg⟩ := fresh_cells (len := n ()) hzs h0
    have fs' : (Builtin.zeroCells zv.cells (n ())).size = n () * sz := by unfold Builtin.zeroCells; rw [hzs] at fs ⊢; exact fs
    have fg' : ∀ i, i < n () * sz → (Builtin.zeroCells zv.cells (n ()))[i]? = zv.cells[i % sz]? := fun i hi => by
     have := fg i hi
     unfold Builtin.zeroCells
     rw [hzs] at this ⊢
     exact this
    have hin : (off () + n ()) * sz ≤ (xs ()).length * sz := Nat.mul_le_mul_right sz hle
    have hmul : (off () + n ()) * sz = off () * sz + n () * sz := Nat.add_mul ..
    have zdeep : ∀ q, q < sz → ∃ u, zv.cells[q]? = some u ∧ ∀ w2 : World, (Deep w2 (enc z q) u [] ∧ u.oneCell' = true) ∧ ∀ A n c, u ≠ .slice A n c := fun q hq => by
     have hq' : q < zv.cells.size := by omega
     refine ⟨_, Array.getElem?_eq_getElem hq', fun w2 => ?_⟩
     have hm : (zv.cells.toList.map ofVal)[q]? = some (ofVal zv.cells[q]) := by
      rw [List.getElem?_map, Array.getElem?_toList, Array.getElem?_eq_getElem hq']
      rfl
     have hfq := List.all_eq_true.1 hfl _ (List.mem_of_getElem? hm)
     have d := ofVal_deep (w := w2) hfq
     exact ⟨⟨(hty q _ hm).deep d, (flat_deep d hfq w2).2⟩, fun A n c => flatS_no (List.all_eq_true.1 hflS _ (List.mem_of_getElem? hm)) d⟩
    have hone : ∀ u ∈ (Builtin.zeroCells zv.cells (n ())).toList, u.oneCell' = true := fun u hu2 => by
     obtain ⟨i, hi⟩ := List.getElem?_of_mem hu2
     have hi' : (Builtin.zeroCells zv.cells (n ()))[i]? = some u := by simpa using hi
     have hlt := (Array.getElem?_eq_some_iff.1 hi').1
     rw [fs'] at hlt
     rw [fg' i hlt] at hi'
     obtain ⟨u', e1, e2⟩ := zdeep (i % sz) (Nat.mod_lt _ h0)
     rw [e1] at hi'
     cases hi'
     exact (e2 w).1.2
    have hroom : base + off () * sz + (Builtin.zeroCells zv.cells (n ())).toList.length ≤ cells.size := by rw [Array.length_toList, fs']; omega
    have hrun := clear_some (P := P) (n := n ()) ho hc ht ha hu hzr hone hv (by omega) hg hroom
    obtain ⟨cells', hw, hs, hcells⟩ := setCells_wrote g ty (Builtin.zeroCells zv.cells (n ())).toList (base + off () * sz) w cells hg hroom
    have gown : g ∈ (⟨w0, w, at_, fun b => look b s.st⟩ : Env).own FP b := by show g ∈ ownOf (at_ b) (FP b); rw [ha0]; exact List.mem_cons_self ..
    refine fin _ (hw.mod (hgood.rt.hot b _ hb g base ha0) hg hs) (fun g' hg' => hw.else_ g' (fun e => hg' g gown e.symm)) (fun g2 base2 cs2 t2 h1 h2 => ?_) ?_ ?_ hrun
    ·rw [ha0] at h1
     cases h1
     rw [hg] at h2
     cases h2
     exact ⟨cells', hw.here, hs⟩
    ·intro g2 base2 h1 cs' t' hcs'
     rw [ha0] at h1
     cases h1
     rw [hw.here] at hcs'
     cases hcs'
     refine ⟨cells, hg, fun k A n' c' hk => ?_⟩
     rw [hcells] at hk
     split at hk
     ·rename_i hin'
      exfalso
      have hk' : (Builtin.zeroCells zv.cells (n ()))[k - (base + off () * sz)]? = some (.slice A n' c') := by simpa using hk
      have hlt := (Array.getElem?_eq_some_iff.1 hk').1
      rw [fs'] at hlt
      rw [fg' _ hlt] at hk'
      obtain ⟨u', e1, e2⟩ := zdeep ((k - (base + off () * sz)) % sz) (Nat.mod_lt _ h0)
      rw [e1] at hk'
      exact (e2 w).2 _ _ _ (Option.some.inj hk')
     ·exact hk
    ·rw [hfp]
     have rep : BlkRep ⟨w0, w.setCells g (base + off () * sz) (Builtin.zeroCells zv.cells (n ())).toList, at_, fun c => look c (setB b (.row sz enc ys fx) s.st)⟩ b (.row sz enc ys fx) ((List.range (ys ()).length).flatMap fun i => (List.range sz).flatMap (F i)) := .row F ha0 hw.here (by rw [hlen, hs]; exact hrr) (fun p x hx q hq => by
      have hp : p < (xs ()).length := by have := lt_of_get hx; omega
      rw [hF p q hp hq]
      have hpq : p * sz + q < (xs ()).length * sz := by
       have := Nat.mul_le_mul_right sz (show p + 1 ≤ (xs ()).length from hp)
       rw [Nat.add_mul] at this
       omega
      rw [hget] at hx
      by_cases hin2 : off () ≤ p ∧ p < off () + n ()
      ·rw [if_pos hin2] at hx
       cases hx
       obtain ⟨u, e1, e2⟩ := zdeep q hq
       have a1 := Nat.mul_le_mul_right sz hin2.1
       have a2 := Nat.mul_le_mul_right sz (show p + 1 ≤ off () + n () from hin2.2)
       rw [Nat.add_mul, hmul] at a2
       refine ⟨u, ?_, (e2 _).1.1⟩
       rw [hcells, if_pos (by rw [Array.length_toList, fs']; omega), Array.getElem?_toList, fg' _ (by omega), ← e1]
       congr 1
       rw [show base + p * sz + q - (base + off () * sz) = q + sz * (p - off ()) by
        have : p * sz = (p - off ()) * sz + off () * sz := by rw [← Nat.add_mul]; congr 1; omega
        rw [Nat.mul_comm sz]
        omega, Nat.add_mul_mod_self_left, Nat.mod_eq_of_lt hq]
      ·rw [if_neg hin2] at hx
       obtain ⟨u, hu2, hd⟩ := hcl p x hx q hq
       refine ⟨u, ?_, (flat_deep hd (hxf x (List.mem_of_getElem? hx) q hq) _).1⟩
       have : ¬ (base + off () * sz ≤ base + p * sz + q ∧ base + p * sz + q < base + off () * sz + (Builtin.zeroCells zv.cells (n ())).toList.length) := by
        rw [Array.length_toList, fs']
        rcases Nat.lt_or_ge p (off ()) with hlt | hge
        ·have := Nat.mul_le_mul_right sz (show p + 1 ≤ off () from hlt)
         rw [Nat.add_mul] at this
         omega
        ·have := Nat.mul_le_mul_right sz (show off () + n () ≤ p by omega)
         omega
       rw [hcells, if_neg this]
       exact hu2)
     rw [hlen] at rep
     exact rep
end
end Go.V
namespace Go.V
open Go Go.RowKit
structure NoLent (B : Base) : Prop where
 pin : ∀ b, B.pin b = none
 lpin : ∀ b, B.lpin b = none
structure Ext (c : Bool) (B0 B : Base) : Prop where
 kept : ∀ w, Kept B w → Kept B0 w
 free : ∀ g, B.free g → B0.free g
 nol : c = true → NoLent B
 more : c = false → ∀ g, ¬ B.more g
 same : c = false → B = B0
structure ModeOk (c : Bool) (B : Base) : Prop where
 nol : c = true → NoLent B
 more : c = false → ∀ g, ¬ B.more g
theorem Ext.refl {c : Bool} {B : Base} (h : ModeOk c B) : Ext c B B := ⟨fun _ h => h, fun _ h => h, h.nol, h.more, fun _ => rfl⟩
theorem Ext.mode {c : Bool} {B0 B : Base} (h : Ext c B0 B) : ModeOk c B := ⟨h.nol, h.more⟩
theorem Ext.trans {c : Bool} {B0 B1 B2 : Base} (h : Ext c B0 B1) (h' : Ext c B1 B2) : Ext c B0 B2 :=
 ⟨fun w hw => h.kept w (h'.kept w hw), fun g hg => h.free g (h'.free g hg), h'.nol, h'.more, fun e => (h'.same e).trans (h.same e)⟩
theorem TbOk.ext {P : Program} {c : Bool} {B0 B : Base} [TbOk P B0] (h : Ext c B0 B) : TbOk P B := ⟨fun w hw => TbOk.ok w (h.kept w hw)⟩
def coolB (S : Nat → Prop) (w : World) (at_ : Nat → Option (Nat × Nat)) (st : Nat → Option Blk) (FP : Nat → List Nat) : Base :=
 ⟨w, fun g => (∃ b blk base, st b = some blk ∧ at_ b = some (g, base)) ∨ S g, fun _ => none, fun g => ∃ b blk, st b = some blk ∧ g ∈ ownOf (at_ b) (FP b), fun _ => none, fun _ => False⟩
theorem Loc.rebase {E : Env} {B' : Base} {x : AV} {v : Value} (h : Loc E x v) (hd : ∀ {x : AV} {v : Value} {fp : List Nat}, DeepB E.w0 x v fp → DeepB B' x v fp) (hp : ∀ b, E.w0.pin b = none) : Loc ⟨B', E.w, E.at_, E.st⟩ x v := by
 induction h with
 | any v => exact .any v
 | undef => exact .undef
 | int k n => exact .int k n
 | bo b => exact .bo b
 | str s => exact .str s
 | nil => exact .nil
 | emp A => exact .emp A
 | sl h => exact .sl (hd h)
 | lsl h => exact .lsl (hd h)
 | rptr h => exact .rptr (hd h)
 | ref hb hr => exact .ref hb hr
 | refl hb hr => exact .refl hb hr
 | ptr hb ha => exact .ptr hb ha
 | eptr hb ha hi hj => exact .eptr hb ha hi hj
 | own hp' hl hi hg hv => rw [hp] at hp'; cases hp'
 | agg hl hd ih => exact .agg hl ih
 | tup hl hd ih => exact .tup hl ih
 | clo hl hd ih => exact .clo hl ih
theorem Here.cool {w0 : Base} {w : World} {N : Nat} {tm : List (Nat × AV)} {st : Nat → Option Blk} {a : Act} {at_ : Nat → Option (Nat × Nat)} {FP : Nat → List Nat} (h : Here w0 N tm st a w at_ FP) (hn : NoLent w0) (S : Nat → Prop) (hS : ∀ g, S g → w0.hot g ∧ Fresh w g) :
 Here (coolB S w at_ st FP) N tm st a w at_ FP ∧ Ext true w0 (coolB S w at_ st FP) ∧ ∀ x v, Loc ⟨w0, w, at_, st⟩ x v → Loc ⟨coolB S w at_ st FP, w, at_, st⟩ x v := by
 have hot : ∀ g, (∃ b blk base, st b = some blk ∧ at_ b = some (g, base)) ∨ S g → w0.hot g := fun g hg => by
  rcases hg with ⟨b, blk, base, hb, ha⟩ | hg
  ·exact h.good.rt.hot b blk hb g base ha
  ·exact (hS g hg).1
 have fresh : ∀ g, (∃ b blk base, st b = some blk ∧ at_ b = some (g, base)) ∨ S g → Fresh w g := fun g hg => by
  rcases hg with ⟨b, blk, base, hb, ha⟩ | hg
  ·exact h.good.fresh b blk hb g (by show g ∈ ownOf (at_ b) (FP b); rw [ha]; exact List.mem_cons_self ..)
  ·exact (hS g hg).2
 have conv : ∀ {x : AV} {v : Value} {fp : List Nat}, DeepB w0 x v fp → DeepB (coolB S w at_ st FP) x v fp := fun {x v fp} hd => by
  refine ⟨hd.under h.good.below, fun g hg => ⟨fun hm => ?_, fun h => h⟩⟩
  have hlt := hd.deep.bound g hg
  rcases hot g hm with h1 | h1
  ·omega
  ·exact (hd.old g hg).1 h1
 have mv : ∀ x v, Loc ⟨w0, w, at_, st⟩ x v → Loc ⟨coolB S w at_ st FP, w, at_, st⟩ x v := fun x v hx => hx.rebase (E := ⟨w0, w, at_, st⟩) conv hn.pin
 refine ⟨⟨⟨Kept.refl w _ _ _ _ fresh, fun b blk hb => ?_, fun b blk hb => h.good.nodup b blk hb, fun b blk hb g hg => .inr (.inr ⟨b, blk, hb, hg⟩), fun b b' k k' hb hb' hne => h.good.apart b b' k k' hb hb' hne, fun b blk hb => h.good.fresh b blk hb, fun b p hp => (by cases hp), fun b β sz enc xs hb => ?_, ⟨fun b blk hb g base ha => .inr (.inl ⟨b, blk, base, hb, ha⟩), fun b q hq => (by cases hq), fun b cs hb => ?_⟩⟩, h.defers, h.size, fun t => mv _ _ (h.loc t)⟩, ⟨fun w' hk => ?_, fun g hg => ?_, fun _ => ⟨fun _ => rfl, fun _ => rfl⟩, fun e => (by cases e), fun e => (by cases e)⟩, mv⟩
 ·have r := h.good.rep b blk hb
  generalize FP b = fp at r ⊢
  cases r with
  | lit ha hg hc => exact .lit ha hg (fun j x hx => by obtain ⟨u, hu, hl⟩ := hc j x hx; exact ⟨u, hu, mv x u hl⟩)
  | row0 ha hx => exact .row0 ha hx
  | row F ha hg hr hc => exact .row F ha hg hr hc
 ·obtain ⟨p, hp⟩ := h.good.fxp b β sz enc xs hb
  rw [hn.pin] at hp
  cases hp
 ·obtain ⟨q, hq⟩ := h.good.rt.lfx b cs hb
  rw [hn.lpin] at hq
  cases hq
 ·have hb := h.good.below
  refine ⟨hk.os.trans hb.os, hk.tape.trans hb.tape, hk.output.trans hb.output, Nat.le_trans hb.size hk.size, fun k h1 h2 => ?_, fun g hg => ?_⟩
  ·refine (hk.block k (Nat.lt_of_lt_of_le h1 hb.size) (fun hm => ?_)).trans (hb.block k h1 h2)
   rcases hot k hm with h3 | h3
   ·omega
   ·exact h2 h3
  ·obtain ⟨cs, t, cs', h1, h2, h3⟩ := hb.shape g hg
   by_cases hm : (coolB S w at_ st FP).mine g
   ·obtain ⟨cs1, t1, cs2, q1, q2, q3⟩ := hk.shape g hm
    have q1 : w.heap[g]? = some (.cells cs1 t1 (0, 0)) := q1
    have h2 : w.heap[g]? = some (.cells cs' t (0, 0)) := h2
    rw [h2] at q1
    cases q1
    exact ⟨cs, t, cs2, h1, q2, q3.trans h3⟩
   ·exact ⟨cs, t, cs', h1, (hk.block g (heap_lt h2) hm).trans h2, h3⟩
 ·rcases hg with h1 | h1 | ⟨b, blk, hb, hm⟩
  ·exact .inl (Nat.le_trans h.good.below.size h1)
  ·exact (hot g h1).free
  ·exact h.good.base b blk hb g hm
section
variable {P : Program} {Q : AV → Prop} {As : List (St → Prop)} {mu : Nat → Bool} {nid : Nat} {o : Oper}
def MDX (c : Bool) (P : Program) (Q : AV → Prop) (As : List (St → Prop)) (o : Oper) (s : St) (nid : Nat) (K : AV → St → Tree) (w0 : Base) (N : Nat) (a : Act) (w : World) : Prop :=
 Does P o a w (fun u w' => ∃ v s', Sat P Q As (K v s') ∧ s'.nx = s.nx ∧ (∀ b k, look b s'.st = some k → b < nid + 16) ∧
  ∃ B, Ext c w0 B ∧ ∃ at_ FP, Here B N s'.tm (fun b => look b s'.st) a w' at_ FP ∧ Loc ⟨B, w', at_, fun b => look b s'.st⟩ v u)
theorem MD.x {c : Bool} {s : St} {K : AV → St → Tree} {w0 : Base} {N : Nat} {a : Act} {w : World} (h : MD P Q As o s nid K w0 N a w) (hm : ModeOk c w0) : MDX c P Q As o s nid K w0 N a w :=
 h.mono (fun u w' ⟨v, s', h1, h2, h3, at_, FP, h4, h5⟩ => ⟨v, s', h1, h2, h3, w0, .refl hm, at_, FP, h4, h5⟩)
def QOX (c : Bool) (P : Program) (o : Oper) (tm : List (Nat × AV)) (st : List (Nat × Blk)) (nid : Nat) (v : AV) (new : List (Nat × Blk)) : Prop :=
 (∀ p ∈ new, nid ≤ p.1 ∧ p.1 < nid + 16) ∧ ∀ (w0 : Base) [TbOk P w0] (N : Nat) (tm' : List (Nat × AV)) (st' : Nat → Option Blk) (a : Act) (w : World), (∀ x ∈ o.op.operands.toList, ev tm' x = ev tm x) → (∀ b k, look b st = some k → st' b = some k) → (∀ b, nid ≤ b → b < nid + 16 → st' b = none) → Rel w0 N tm' st' a w → ModeOk c w0 →
   Does P o a w (fun u w' => ∃ B, Ext c w0 B ∧ ∃ at_ FP, Here B N tm' (addAll new st') a w' at_ FP ∧ Loc ⟨B, w', at_, addAll new st'⟩ v u)
theorem QOK.x {c : Bool} {tm : List (Nat × AV)} {st : List (Nat × Blk)} {v : AV} {new : List (Nat × Blk)} (h : QOK P o tm st nid v new) : QOX c P o tm st nid v new :=
 ⟨h.1, fun w0 _ N tm' st' a w hx hst hf hr hm => (h.2 w0 N tm' st' a w hx hst hf hr).mono (fun u w' ⟨at_, FP, h1, h2⟩ => ⟨w0, .refl hm, at_, FP, h1, h2⟩)⟩
def QDX (c : Bool) (P : Program) (Q : AV → Prop) (As : List (St → Prop)) (o : Oper) (tm : List (Nat × AV)) (st : List (Nat × Blk)) (nid : Nat) (K : AV → List (Nat × Blk) → Tree) : Prop := ∃ v new, QOX c P o tm st nid v new ∧ Sat P Q As (K v new)
theorem QD.x {c : Bool} {tm : List (Nat × AV)} {st : List (Nat × Blk)} {K : AV → List (Nat × Blk) → Tree} (h : QD P Q As o tm st nid K) : QDX c P Q As o tm st nid K := by
 obtain ⟨v, new, h1, h2⟩ := h
 exact ⟨v, new, h1.x, h2⟩
theorem q_ldc {t : TypeId} {x : Operand} {n b j sz : Nat} {i : Unit → Nat} {α : Type} {enc : α → Nat → AV} {xs : Unit → List α} {z : α} {tm : List (Nat × AV)} {st : List (Nat × Blk)} (ho : o.op = .load t x) (hn : sizeOf? P t = some n) (hg : agg? P t = some true)
 (hx0 : ev tm x = .eptr b i j) (hb0 : look b st = some (.row sz enc xs false)) (hj0 : j + n ≤ sz) (hz : (xs ())[i ()]? = some z) : QOX true P o tm st nid (.agg ((List.range n).map (fun q => enc z (j + q)))) [] := by
 refine ⟨fun p hp => (by cases hp), fun w0 _ N tm' st' a w hx1 hst hf ⟨at_, FP, hh⟩ hmo => ?_⟩
 have hnl := hmo.nol rfl
 have hx : ev tm' x = .eptr b i j := by rw [hx1 x (by simp [ho, Op.operands]), hx0]
 have hb : st' b = some (.row sz enc xs false) := hst b _ hb0
 have e0 : addAll [] st' = st' := addAll_nil
 rw [e0]
 obtain ⟨hc1, hext, mv⟩ := hh.cool hnl (fun _ => False) (fun _ h => h.elim)
 have h1 := hh.ev x
 rw [hx] at h1
 obtain ⟨α', sz', enc', xs', fx', g, base, hb', ha, hi, hj, he⟩ := h1.eptr_inv
 have hb' : st' b = _ := hb'
 rw [hb] at hb'
 cases hb'
 have ha' : at_ b = some (g, base) := ha
 have r := hh.good.rep b _ hb
 have hnd := hh.good.nodup b _ hb
 have hown : (⟨w0, w, at_, st'⟩ : Env).own FP b = g :: FP b := by
  show ownOf (at_ b) (FP b) = _
  rw [ha']
  rfl
 rw [hown] at hnd
 have go : ∀ fp, FP b = fp → BlkRep ⟨w0, w, at_, st'⟩ b (.row sz enc xs false) fp → Does P o a w (fun u w' => ∃ B, Ext true w0 B ∧ ∃ at_ FP, Here B N tm' st' a w' at_ FP ∧ Loc ⟨B, w', at_, st'⟩ (.agg ((List.range n).map (fun q => enc z (j + q)))) u) := by
  intro fp hfp r
  cases r with
  | row0 ha2 _ => rw [ha] at ha2; cases ha2
  | @row _ _ _ _ _ g' base' cells ty F ha2 hg2 hrr hc =>
    rw [ha] at ha2
    cases ha2
    have hgw : w.heap[g]? = some (.cells cells ty (0, 0)) := hg2
    have key : ∀ q, q < n → ∃ u, cells[base + i () * sz + j + q]? = some u ∧ Loc ⟨coolB (fun _ => False) w at_ (st') FP, w, at_, st'⟩ (enc z (j + q)) u := fun q hq => by
     obtain ⟨u, hu, hd⟩ := hc (i ()) z hz (j + q) (by omega)
     refine ⟨u, by rw [Nat.add_assoc]; exact hu, deep_loc (E := ⟨coolB (fun _ => False) w at_ (st') FP, w, at_, st'⟩) hd (fun p hp => ⟨fun hm => ?_, fun h => h⟩)⟩
     rcases hm with ⟨b2, blk2, base2, hb2, hat2⟩ | hm
     ·have hpin : p ∈ FP b := by
       rw [hfp]
       exact mem_flat (F := fun i => (List.range sz).flatMap (F i)) (lt_of_get hz) (mem_flat (show j + q < sz by omega) hp)
      have hat2 : at_ b2 = some (p, base2) := hat2
      by_cases e : b2 = b
      ·subst e
       rw [ha'] at hat2
       cases hat2
       exact (List.nodup_cons.1 hnd).1 hpin
      ·exact hh.good.apart b2 b blk2 _ hb2 hb e p (by show p ∈ ownOf (at_ b2) (FP b2); rw [hat2]; exact List.mem_cons_self ..) (by rw [hown]; exact List.mem_cons_of_mem _ hpin)
     ·exact hm
    have hc' : ∀ q, q < n → w.cell? ⟨g, base + i () * sz + j + q, none⟩ = some (cells.getD (base + i () * sz + j + q) Go.undef) := fun q hq => by
     obtain ⟨u, hu, _⟩ := key q hq
     rw [cell_of hgw]
     rw [Array.getD_eq_getD_getElem?, hu]
     rfl
    have hll : ((List.range n).map (fun q => enc z (j + q))).length = n := by simp
    have hloc := res_loc (E := ⟨coolB (fun _ => False) w at_ (st') FP, w, at_, st'⟩) (g := true) (l := (List.range n).map (fun q => enc z (j + q))) (r := .agg ((List.range n).map (fun q => enc z (j + q)))) (f := fun q => cells.getD (base + i () * sz + j + q) Go.undef) rfl (fun q x hx => by
     rw [List.getElem?_map, Option.map_eq_some_iff] at hx
     obtain ⟨q', hq', rfl⟩ := hx
     have hlt := lt_of_get hq'
     rw [List.length_range] at hlt
     rw [List.getElem?_range hlt] at hq'
     cases hq'
     obtain ⟨u, hu, hl⟩ := key q hlt
     rw [Array.getD_eq_getD_getElem?, hu]
     exact hl)
    refine .inl ⟨_, w, .inl ?_, _, hext, at_, FP, hc1, hloc⟩
    simp [execOp, ho, he, Instr.loadAt, Instr.sureAddr, load_run hn hg (fun h => by cases h) (fun q => cells.getD (base + i () * sz + j + q) Go.undef) hc']
 exact go _ rfl r
theorem slot_freeze {st : List (Nat × Blk)} {k : Nat → Bool} {t : Nat} : ∀ {tm : List (Nat × AV)}, slot t (freezeT st k tm) = freeze st k (slot t tm)
 | [] => by simp [freezeT, slot, freeze]
 | p :: r => by
   rw [freezeT, slot, slot, slot_freeze]
   cases Nat.beq p.1 t <;> rfl
theorem freezeL_map (st : List (Nat × Blk)) (k : Nat → Bool) : ∀ l, freezeL st k l = l.map (freeze st k)
 | [] => rfl
 | x :: r => by rw [freezeL, freezeL_map st k r]; rfl
theorem Loc.frozen {E E' : Env} {st : List (Nat × Blk)} {k : Nat → Bool} (hst : ∀ b, E.st b = look b st) (mv : ∀ x v, Loc E x v → Loc E' (scrub k x) v) (gone : ∀ (b : Nat) (α : Type) (sz : Nat) (enc : α → Nat → AV) (xs : Unit → List α) (fx : Bool) (off n : Unit → Nat) (v : Value), k b = true → E.st b = some (.row sz enc xs fx) → Loc E (.ref b off n) v → Loc E' (.sl sz enc (fun _ => ((xs ()).drop (off ())).take (n ()))) v) {x : AV} {v : Value} (h : Loc E x v) : Loc E' (freeze st k x) v := by
 have parts : ∀ {cs : List AV} {us : Array Value}, (∀ i x, cs[i]? = some x → Loc E' (freeze st k x) (us.getD i Go.undef)) → ∀ i x, (freezeL st k cs)[i]? = some x → Loc E' x (us.getD i Go.undef) := by
  intro cs us ih i x hx
  rw [freezeL_map, List.getElem?_map, Option.map_eq_some_iff] at hx
  obtain ⟨y, hy, rfl⟩ := hx
  exact ih i y hy
 have len : ∀ cs : List AV, (freezeL st k cs).length = cs.length := fun cs => by rw [freezeL_map, List.length_map]
 have h0 := mv x v h
 induction h with
 | any v => exact h0
 | undef => exact h0
 | int k n => exact h0
 | bo b => exact h0
 | str s => exact h0
 | nil => exact h0
 | emp A => exact h0
 | sl h => exact h0
 | lsl h => exact h0
 | rptr h => exact h0
 | own => exact h0
 | @ref α sz enc xs fx b off n v hb hr =>
   rw [freeze]
   rw [scrub] at h0
   cases hk : k b with
   | false => rw [hk] at h0; exact h0
   | true =>
     rw [cond_true, ← hst, hb]
     exact gone b α sz enc xs fx off n v hk hb (.ref hb hr)
 | @refl sz cs b off n v hb hr =>
   rw [freeze]
   rw [scrub] at h0
   cases hk : k b with
   | false => rw [hk] at h0; exact h0
   | true =>
     rw [cond_true, ← hst, hb]
     exact .any v
 | @ptr sz cs b j g base hb ha => rw [freeze]; rw [scrub] at h0; exact h0
 | @eptr α sz enc xs fx b i j g base hb ha hi hj => rw [freeze]; rw [scrub] at h0; exact h0
 | agg hl hd ih => rw [freeze]; exact .agg (by rw [len]; exact hl) (parts (fun i x hx => ih i x hx (mv _ _ (hd i x hx))))
 | tup hl hd ih => rw [freeze]; exact .tup (by rw [len]; exact hl) (parts (fun i x hx => ih i x hx (mv _ _ (hd i x hx))))
 | clo hl hd ih => rw [freeze]; exact .clo (by rw [len]; exact hl) (parts (fun i x hx => ih i x hx (mv _ _ (hd i x hx))))
def freezeK (st : List (Nat × Blk)) (k : Nat → Bool) : Blk → Blk
 | .lit sz cs => .lit sz (freezeL st k cs)
 | .row sz enc xs fx => .row sz enc xs fx
theorem look_freezeB {st : List (Nat × Blk)} {k : Nat → Bool} {b : Nat} : ∀ {l : List (Nat × Blk)}, look b (l.map (freezeB st k)) = (look b l).map (freezeK st k)
 | [] => rfl
 | p :: r => by
   have e : freezeB st k p = (p.1, freezeK st k p.2) := by
    obtain ⟨i, q⟩ := p
    cases q <;> rfl
   rw [List.map_cons, e, look, look, look_freezeB]
   cases Nat.beq p.1 b <;> rfl
theorem m_stoc {t : TypeId} {x y : Operand} {n b j sz : Nat} {i : Unit → Nat} {α : Type} {enc : α → Nat → AV} {xs : Unit → List α} {z z' : α} {ys : List AV} {rest : List (Nat × Blk)} {s : St} {K : AV → St → Tree} {w0 : Base} {w : World} {N : Nat} {a : Act}
 (ho : o.op = .store t x y) (hn : sizeOf? P t = some n) (h0 : 0 < n) (hx : ev s.tm x = .eptr b i j) (hb : look b s.st = some (.row sz enc xs false)) (hexp : expL (exp 3) (drop_ b s.st) (cellsOf (ev s.tm y)) = some (ys, rest)) (h1 : ys.length = n) (h2 : j + n ≤ sz)
 (hz : (xs ())[i ()]? = some z) (h3 : (cellsOf (ev s.tm y)).all cellOk = true)
 (hty : ∀ (q : Nat) (c : AV), ((List.range j).map (enc z) ++ ys ++ (List.range (sz - j - n)).map (fun q => enc z (j + n + q)))[q]? = some c → LeD c (enc z' q))
 (h : Sat P Q As (K .undef { tm := freezeT s.st (goneOf b s.st rest) s.tm, st := (b, .row sz enc (fun _ => setAt (xs ()) (i ()) z') false) :: rest.map (freezeB s.st (goneOf b s.st rest)), nx := s.nx }))
 (hr : Rel w0 N s.tm (fun b => look b s.st) a w) (hfr : ∀ b k, look b s.st = some k → b < nid) (hnl : NoLent w0) : MDX true P Q As o s nid K w0 N a w := by
 obtain ⟨at_, FP, hh⟩ := hr
 obtain ⟨w', hrun, ⟨FP', hh2⟩, mv, helse, hsize, restNe⟩ := sto_eptr_core ho hn h0 hx hb hexp h1 h2 hz h3 (fun h => by cases h) hty hh
 obtain ⟨hc, hext, mv2⟩ := hh2.cool hnl (fun _ => False) (fun _ h => h.elim)
 have newSt : ∀ c k, look c ((b, Blk.row sz enc (fun _ => setAt (xs ()) (i ()) z') false) :: rest.map (scrubB (goneOf b s.st rest))) = some k → c = b ∨ (c ≠ b ∧ goneOf b s.st rest c = false ∧ ∃ k0, look c s.st = some k0) := fun c k hc => by
  rw [look] at hc
  cases e : Nat.beq b c with
  | true => exact .inl (Nat.eq_of_beq_eq_true e).symm
  | false =>
    simp only [e, cond_false] at hc
    rw [look_scrub, Option.map_eq_some_iff] at hc
    obtain ⟨k', hk', _⟩ := hc
    obtain ⟨r1, r2⟩ := restNe c k' hk'
    refine .inr ⟨r1, ?_, k', r2⟩
    unfold goneOf
    have e' : Nat.beq c b = false := by
     cases e2 : Nat.beq c b with
     | false => rfl
     | true => exact absurd (Nat.eq_of_beq_eq_true e2) r1
    rw [e', cond_false, hk', r2]
 have goneNe : ∀ c, goneOf b s.st rest c = true → c ≠ b := fun c hc e => by
  subst e
  unfold goneOf at hc
  rw [Nat.beq_refl] at hc
  cases hc
 have frz : ∀ x v, Loc ⟨w0, w, at_, fun b => look b s.st⟩ x v → Loc ⟨coolB (fun _ => False) w' at_ (fun c => look c ((b, .row sz enc (fun _ => setAt (xs ()) (i ()) z') false) :: rest.map (scrubB (goneOf b s.st rest)))) FP', w', at_, fun c => look c ((b, .row sz enc (fun _ => setAt (xs ()) (i ()) z') false) :: rest.map (scrubB (goneOf b s.st rest)))⟩ (freeze s.st (goneOf b s.st rest) x) v := fun x v hx => by
  refine Loc.frozen (E := ⟨w0, w, at_, fun b => look b s.st⟩) (fun b => rfl) (fun x v hx => mv2 _ _ (mv x v hx)) (fun c β sz1 enc1 xs1 fx1 off1 n1 v hgo hcb hl => ?_) hx
  obtain ⟨fp, hd, hsub⟩ := ref_deep hh.good hcb hl
  have hcb : look c s.st = some (.row sz1 enc1 xs1 fx1) := hcb
  have hne := goneNe c hgo
  have hd' : Deep w' (.sl sz1 enc1 (fun _ => ((xs1 ()).drop (off1 ())).take (n1 ()))) v fp := hd.keep (fun q hq => helse q (fun base hbase => hh.good.apart c b _ _ hcb hb hne q (hsub q hq) (by show q ∈ ownOf (at_ b) (FP b); rw [hbase]; exact List.mem_cons_self ..)))
  refine deep_loc (E := ⟨coolB (fun _ => False) w' at_ (fun c => look c ((b, .row sz enc (fun _ => setAt (xs ()) (i ()) z') false) :: rest.map (scrubB (goneOf b s.st rest)))) FP', w', at_, _⟩) hd' (fun q hq => ⟨fun hm => ?_, fun h => h⟩)
  rcases hm with ⟨b2, blk2, base2, hb2, hat2⟩ | hm
  ·have hat2 : at_ b2 = some (q, base2) := hat2
   have hin : q ∈ (⟨w0, w, at_, fun b => look b s.st⟩ : Env).own FP b2 := by show q ∈ ownOf (at_ b2) (FP b2); rw [hat2]; exact List.mem_cons_self ..
   rcases newSt b2 blk2 hb2 with e | ⟨e1, e2, k0, e3⟩
   ·subst e
    exact hh.good.apart c b2 _ _ hcb hb hne q (hsub q hq) hin
   ·exact hh.good.apart c b2 _ _ hcb e3 (fun e => by subst e; rw [hgo] at e2; cases e2) q (hsub q hq) hin
  ·exact hm
 have back : ∀ c k2, look c ((b, Blk.row sz enc (fun _ => setAt (xs ()) (i ()) z') false) :: rest.map (freezeB s.st (goneOf b s.st rest))) = some k2 → ∃ k1, look c ((b, Blk.row sz enc (fun _ => setAt (xs ()) (i ()) z') false) :: rest.map (scrubB (goneOf b s.st rest))) = some k1 ∧ (k1 = k2 ∨ ∃ (sz : Nat) (cs : List AV), look c rest = some (.lit sz cs) ∧ k1 = .lit sz (scrubL (goneOf b s.st rest) cs) ∧ k2 = .lit sz (freezeL s.st (goneOf b s.st rest) cs)) := fun c k2 hk => by
  rw [look] at hk
  cases e : Nat.beq b c with
  | true => rw [e] at hk; refine ⟨k2, ?_, .inl rfl⟩; rw [look, e]; exact hk
  | false =>
    rw [e, cond_false, look_freezeB, Option.map_eq_some_iff] at hk
    obtain ⟨k0, hk0, rfl⟩ := hk
    refine ⟨scrubK (goneOf b s.st rest) k0, by rw [look, e, cond_false, look_scrub, hk0]; rfl, ?_⟩
    cases k0 with
    | lit sz cs => exact .inr ⟨sz, cs, hk0, rfl, rfl⟩
    | row => exact .inl rfl
 have forth : ∀ c k1, look c ((b, Blk.row sz enc (fun _ => setAt (xs ()) (i ()) z') false) :: rest.map (scrubB (goneOf b s.st rest))) = some k1 → ∃ k2, look c ((b, Blk.row sz enc (fun _ => setAt (xs ()) (i ()) z') false) :: rest.map (freezeB s.st (goneOf b s.st rest))) = some k2 ∧ Alike k1 k2 := fun c k1 hk => by
  rw [look] at hk
  cases e : Nat.beq b c with
  | true =>
    rw [e, cond_true, Option.some.injEq] at hk
    subst hk
    exact ⟨_, by rw [look, e]; rfl, .row rfl⟩
  | false =>
    rw [e, cond_false, look_scrub, Option.map_eq_some_iff] at hk
    obtain ⟨k0, hk0, rfl⟩ := hk
    refine ⟨freezeK s.st (goneOf b s.st rest) k0, by rw [look, e, cond_false, look_freezeB, hk0]; rfl, ?_⟩
    cases k0 with
    | lit sz cs => exact .lit (by rw [scrubL_map, freezeL_map, List.length_map, List.length_map])
    | row => exact .row rfl
 have frz2 : ∀ x v, Loc ⟨w0, w, at_, fun b => look b s.st⟩ x v → Loc ⟨coolB (fun _ => False) w' at_ (fun c => look c ((b, .row sz enc (fun _ => setAt (xs ()) (i ()) z') false) :: rest.map (scrubB (goneOf b s.st rest)))) FP', w', at_, fun c => look c ((b, .row sz enc (fun _ => setAt (xs ()) (i ()) z') false) :: rest.map (freezeB s.st (goneOf b s.st rest)))⟩ (freeze s.st (goneOf b s.st rest) x) v := fun x v hx => (frz x v hx).move rfl (fun c k1 hk => ⟨forth c k1 hk, rfl, fun g base cs t _ hg => ⟨cs, hg, rfl⟩⟩)
 have lit2 : ∀ (c sz1 : Nat) (cs : List AV), look c rest = some (.lit sz1 cs) → ∀ cs', BlkRep ⟨coolB (fun _ => False) w' at_ (fun c => look c ((b, .row sz enc (fun _ => setAt (xs ()) (i ()) z') false) :: rest.map (scrubB (goneOf b s.st rest)))) FP', w', at_, fun c => look c ((b, .row sz enc (fun _ => setAt (xs ()) (i ()) z') false) :: rest.map (scrubB (goneOf b s.st rest)))⟩ c (.lit sz1 cs') (FP' c) → BlkRep ⟨coolB (fun _ => False) w' at_ (fun c => look c ((b, .row sz enc (fun _ => setAt (xs ()) (i ()) z') false) :: rest.map (scrubB (goneOf b s.st rest)))) FP', w', at_, fun c => look c ((b, .row sz enc (fun _ => setAt (xs ()) (i ()) z') false) :: rest.map (freezeB s.st (goneOf b s.st rest)))⟩ c (.lit sz1 (freezeL s.st (goneOf b s.st rest) cs)) (FP' c) := fun c sz1 cs hk0 cs' r => by
  obtain ⟨r1, r2⟩ := restNe c _ hk0
  have r0 := hh.good.rep c _ r2
  have hap := fun q hq hq' => hh.good.apart c b _ _ r2 hb r1 q hq hq'
  generalize FP' c = fp at r ⊢
  cases r
  generalize hfc : FP c = fp0 at r0
  cases r0 with
  | lit ha hg hcs =>
    have ha' : at_ c = some _ := ha
    refine .lit ha (show w'.heap[_]? = _ from (helse _ (fun base' hb' => hap _ (by show _ ∈ ownOf (at_ c) (FP c); rw [ha']; exact List.mem_cons_self ..) (by show _ ∈ ownOf (at_ b) (FP b); rw [hb']; exact List.mem_cons_self ..))).trans hg) (fun j x hx => ?_)
    rw [freezeL_map, List.getElem?_map, Option.map_eq_some_iff] at hx
    obtain ⟨y, hy, rfl⟩ := hx
    obtain ⟨u, h1, h2⟩ := hcs j y hy
    exact ⟨u, h1, frz2 _ _ h2⟩
 have good2 : Good ⟨coolB (fun _ => False) w' at_ (fun c => look c ((b, .row sz enc (fun _ => setAt (xs ()) (i ()) z') false) :: rest.map (scrubB (goneOf b s.st rest)))) FP', w', at_, fun c => look c ((b, .row sz enc (fun _ => setAt (xs ()) (i ()) z') false) :: rest.map (freezeB s.st (goneOf b s.st rest)))⟩ FP' := by
  have g1 := hc.good
  refine ⟨g1.below, fun c k2 hk2 => ?_, fun c k2 hk2 => ?_, fun c k2 hk2 => ?_, fun c c' k k' hk hk' hne => ?_, fun c k2 hk2 => ?_, fun c p hp => (by cases hp), fun c β sz1 enc1 xs1 hk2 => ?_, ⟨fun c k2 hk2 => ?_, fun c q hq => (by cases hq), fun c cs hk2 => ?_⟩⟩
  ·obtain ⟨k1, hk1, hkk⟩ := back c k2 hk2
   have r := g1.rep c k1 hk1
   rcases hkk with rfl | ⟨sz1, cs, hk0, rfl, rfl⟩
   ·cases k1 with
    | lit sz1 cs =>
      have hk1' : look c ((b, Blk.row sz enc (fun _ => setAt (xs ()) (i ()) z') false) :: rest.map (scrubB (goneOf b s.st rest))) = some (.lit sz1 cs) := hk1
      have hk2' : look c ((b, Blk.row sz enc (fun _ => setAt (xs ()) (i ()) z') false) :: rest.map (freezeB s.st (goneOf b s.st rest))) = some (.lit sz1 cs) := hk2
      rw [look] at hk2'
      cases e : Nat.beq b c with
      | true => rw [e, cond_true] at hk2'; cases hk2'
      | false =>
        rw [e, cond_false, look_freezeB, Option.map_eq_some_iff] at hk2'
        obtain ⟨k0, hk0, hkk⟩ := hk2'
        cases k0 with
        | row => cases hkk
        | lit sz2 cs2 =>
          cases hkk
          exact lit2 c _ _ hk0 _ r
    | row =>
      generalize FP' c = fp at r ⊢
      cases r with
      | row0 ha h => exact .row0 ha h
      | row F ha hg hr hc => exact .row F ha hg hr hc
   ·exact lit2 c _ _ hk0 _ r
  ·obtain ⟨k1, hk1, _⟩ := back c k2 hk2; exact g1.nodup c k1 hk1
  ·obtain ⟨k1, hk1, _⟩ := back c k2 hk2; exact g1.base c k1 hk1
  ·obtain ⟨k1, hk1, _⟩ := back c k hk; obtain ⟨k1', hk1', _⟩ := back c' k' hk'; exact g1.apart c c' k1 k1' hk1 hk1' hne
  ·obtain ⟨k1, hk1, _⟩ := back c k2 hk2; exact g1.fresh c k1 hk1
  ·obtain ⟨k1, hk1, hkk⟩ := back c _ hk2
   rcases hkk with rfl | ⟨sz1, cs, hk0, rfl, hkk⟩
   ·exact g1.fxp c β sz1 enc1 xs1 hk1
   ·cases hkk
  ·obtain ⟨k1, hk1, _⟩ := back c k2 hk2; exact g1.rt.hot c k1 hk1
  ·obtain ⟨k1, hk1, hkk⟩ := back c _ hk2
   rcases hkk with rfl | ⟨sz1, cs, hk0, rfl, hkk⟩
   ·exact g1.rt.lfx c cs hk1
   ·cases hkk
    exact g1.rt.lfx c _ hk1
 refine .inl ⟨undef, w', .inr ⟨hrun, rfl⟩, .undef, _, h, rfl, fun c k hck => ?_, _, hext, at_, FP', ⟨good2, hc.defers, hc.size, fun t => ?_⟩, .undef⟩
 ·obtain ⟨k1, hck, _⟩ := back c k hck
  rcases newSt c k1 hck with e | ⟨_, _, k0, e3⟩
  ·subst e; have := hfr c _ hb; omega
  ·have := hfr c k0 e3; omega
 ·show Loc _ (slot t (freezeT s.st (goneOf b s.st rest) s.tm)) _
  rw [slot_freeze]
  exact frz2 _ _ (hh.loc t)
theorem ptrsL_cons (x : AV) (r : List AV) : ptrsL (x :: r) = ptrsL [x] ++ ptrsL r := by
 cases x <;> first | rfl | skip
 rename_i b j
 simp only [ptrsL]
 cases Nat.beq j 0 <;> rfl
theorem ptrsL_one {x : AV} {b : Nat} {l : List Nat} (h : ptrsL [x] = b :: l) : x = .ptr b 0 ∧ l = [] := by
 cases x <;> first | (cases h; done) | skip
 rename_i c j
 simp only [ptrsL] at h
 cases e : Nat.beq j 0 with
 | false => rw [e] at h; cases h
 | true =>
   rw [e] at h
   cases h
   rw [Nat.eq_of_beq_eq_true e]
   exact ⟨rfl, rfl⟩
theorem nodupB_ok : ∀ {l : List Nat}, nodupB l = true → l.Nodup
 | [], _ => List.nodup_nil
 | b :: r, h => by
   rw [nodupB] at h
   cases e : memN b r with
   | true => rw [e] at h; cases h
   | false =>
     rw [e, cond_false] at h
     exact List.nodup_cons.2 ⟨memN_false e, nodupB_ok h⟩
theorem litsAt_ok {st : List (Nat × Blk)} : ∀ {bs : List Nat} {cells : List (List AV)}, litsAt st bs = some cells → cells.length = bs.length ∧ ∀ (j b : Nat), bs[j]? = some b → ∃ (sz : Nat) (cs : List AV), look b st = some (.lit sz cs) ∧ cs.all cellP = true ∧ cells[j]? = some cs
 | [], cells, h => by
   simp only [litsAt, Option.some.injEq] at h
   subst h
   exact ⟨rfl, fun j b hj => by simp at hj⟩
 | c :: bs, cells, h => by
   rw [litsAt] at h
   split at h
   ·rename_i sz cs hb
    cases e : cs.all cellP with
    | false => rw [e] at h; cases h
    | true =>
      rw [e, cond_true] at h
      split at h
      ·rename_i l hl
       cases h
       obtain ⟨h1, h2⟩ := litsAt_ok hl
       refine ⟨by simp [h1], fun j b hj => ?_⟩
       cases j with
       | zero => simp at hj; subst hj; exact ⟨sz, cs, hb, e, rfl⟩
       | succ j => exact h2 j b (by simpa using hj)
      ·cases h
   ·cases h
theorem lendP_ok {st0 : List (Nat × Blk)} : ∀ {as : List AV} {i : Nat} {vs : List AV}, lendP st0 as i = some vs → vs.length = as.length ∧ ∀ (p : Nat) (x y : AV), as[p]? = some x → vs[p]? = some y → (∃ k b, y = .ptr (i + k) 0 ∧ (ptrsL as)[k]? = some b ∧ x = .ptr b 0) ∨ mat st0 4 x = some y
 | [], i, vs, h => by
   simp only [lendP, Option.some.injEq] at h
   subst h
   exact ⟨rfl, fun p x y hp => by simp at hp⟩
 | x :: as, i, vs, h => by
   rw [lendP] at h
   split at h
   ·rename_i b l hp
    obtain ⟨rfl, rfl⟩ := ptrsL_one hp
    split at h
    ·rename_i vs' hv
     cases h
     obtain ⟨h1, h2⟩ := lendP_ok hv
     refine ⟨by simp [h1], fun p x y hx hy => ?_⟩
     cases p with
     | zero =>
       simp at hx hy
       subst hx hy
       refine .inl ⟨0, b, rfl, ?_, rfl⟩
       rw [ptrsL_cons, hp]
       rfl
     | succ p =>
       rcases h2 p x y (by simpa using hx) (by simpa using hy) with ⟨k, c, e1, e2, e3⟩ | e
       ·refine .inl ⟨k + 1, c, by rw [e1]; congr 1; omega, ?_, e3⟩
        rw [ptrsL_cons, hp]
        simpa using e2
       ·exact .inr e
    ·cases h
   ·rename_i hp
    split at h
    ·rename_i y0 hy0
     split at h
     ·rename_i vs' hv
      cases h
      obtain ⟨h1, h2⟩ := lendP_ok hv
      refine ⟨by simp [h1], fun p x y hx hy => ?_⟩
      cases p with
      | zero =>
        simp at hx hy
        subst hx hy
        exact .inr hy0
      | succ p =>
        rcases h2 p x y (by simpa using hx) (by simpa using hy) with ⟨k, c, e1, e2, e3⟩ | e
        ·refine .inl ⟨k, c, e1, ?_, e3⟩
         rw [ptrsL_cons, hp]
         simpa using e2
        ·exact .inr e
     ·cases h
    ·cases h
def mix1 (c o : AV) : AV := bif flatS o then o else match o with
 | .sl _ _ _ => c
 | .nil => c
 | _ => .any
theorem mixC_cons (c o : AV) (cs xs : List AV) : mixC (c :: cs) (o :: xs) = mix1 c o :: mixC cs xs := by
 cases o <;> rfl
theorem mixC_at : ∀ {cs xs : List AV} (j : Nat) (x : AV), (mixC cs xs)[j]? = some x → ∃ c o, cs[j]? = some c ∧ xs[j]? = some o ∧ ((flatS o = true ∧ x = o) ∨ (flatS o = false ∧ (x = c ∨ x = .any)))
 | [], _, j, x, h => by simp [mixC] at h
 | _ :: _, [], j, x, h => by simp [mixC] at h
 | c :: cs, o :: xs, j, x, h => by
   rw [mixC_cons] at h
   cases j with
   | zero =>
     simp only [List.getElem?_cons_zero, Option.some.injEq] at h
     refine ⟨c, o, rfl, rfl, ?_⟩
     unfold mix1 at h
     cases o <;> first
      | exact .inl ⟨rfl, h.symm⟩
      | exact .inr ⟨rfl, .inl h.symm⟩
      | exact .inr ⟨rfl, .inr h.symm⟩
   | succ j =>
     obtain ⟨c', o', h1, h2, h3⟩ := mixC_at (cs := cs) (xs := xs) j x (by simpa using h)
     exact ⟨c', o', by simpa using h1, by simpa using h2, h3⟩
theorem mixC_len : ∀ {cs xs : List AV}, xs.length = cs.length → (mixC cs xs).length = cs.length
 | [], [], _ => rfl
 | _ :: _, [], h => by simp at h
 | [], _ :: _, h => by simp at h
 | c :: cs, o :: xs, h => by rw [mixC_cons]; simp [mixC_len (cs := cs) (xs := xs) (by simpa using h)]
theorem setLits_ok : ∀ {bs : List Nat} {outs : List (List AV)} {st st' : List (Nat × Blk)}, setLits bs outs st = some st' → bs.Nodup → (∀ c, c ∉ bs → look c st' = look c st) ∧
 ∀ (j b : Nat), bs[j]? = some b → ∃ (sz : Nat) (cs xs : List AV), outs[j]? = some xs ∧ look b st = some (.lit sz cs) ∧ look b st' = some (.lit sz (mixC cs xs)) ∧ xs.length = cs.length ∧ (mixC cs xs).all cellP = true
 | [], outs, st, st', h, _ => by
   cases outs with
   | nil => simp only [setLits, Option.some.injEq] at h; subst h; exact ⟨fun _ _ => rfl, fun j b hj => by simp at hj⟩
   | cons => simp [setLits] at h
 | c :: bs, outs, st, st', h, hn => by
   cases outs with
   | nil => simp [setLits] at h
   | cons xs l =>
     simp only [setLits] at h
     split at h
     ·rename_i sz cs hb
      obtain ⟨hc, hn⟩ := List.nodup_cons.1 hn
      cases e : (Nat.beq xs.length cs.length && (mixC cs xs).all cellP) with
      | false => rw [e] at h; cases h
      | true =>
        rw [e, cond_true] at h
        have e1 := (Bool.and_eq_true _ _ ▸ e : Nat.beq xs.length cs.length = true ∧ (mixC cs xs).all cellP = true)
        obtain ⟨h1, h2⟩ := setLits_ok h hn
        have lk : ∀ b, look b (setB c (.lit sz (mixC cs xs)) st) = if b = c then some (.lit sz (mixC cs xs)) else look b st := fun b => by
         rw [look_setB, hb]
         cases e : Nat.beq c b with
         | true => have := Nat.eq_of_beq_eq_true e; rw [if_pos this.symm]; rfl
         | false => rw [if_neg (fun h => by subst h; rw [Nat.beq_refl] at e; cases e)]; rfl
        refine ⟨fun b hb' => ?_, fun j b hj => ?_⟩
        ·rw [h1 b (fun h => hb' (List.mem_cons_of_mem _ h)), lk, if_neg (fun h => hb' (by rw [h]; exact List.mem_cons_self ..))]
        ·cases j with
         | zero =>
           simp at hj
           subst hj
           exact ⟨sz, cs, xs, rfl, hb, by rw [h1 c hc, lk, if_pos rfl], Nat.eq_of_beq_eq_true e1.1, e1.2⟩
         | succ j =>
           have hj' : bs[j]? = some b := by simpa using hj
           obtain ⟨sz2, cs2, xs2, h3, h4, h5, h6, h7⟩ := h2 j b hj'
           have hne : b ≠ c := fun e => hc (e ▸ List.mem_of_getElem? hj')
           rw [lk, if_neg hne] at h4
           exact ⟨sz2, cs2, xs2, by simpa using h3, h4, h5, h6, h7⟩
     ·cases h
theorem cellP_deep {E : Env} {x : AV} {u : Value} (hk : Kept E.w0 E.w) (hc : cellP x = true) (h : Loc E x u) : ∃ fp, Deep E.w x u fp ∧ ∀ g ∈ fp, g < E.w0.w.heap.size ∧ ¬ E.w0.mine g ∧ ¬ E.w0.ban g := by
 cases h with
 | int k n => exact ⟨[], .int k n, fun g hg => by cases hg⟩
 | bo b => exact ⟨[], .bo b, fun g hg => by cases hg⟩
 | str s => exact ⟨[], .str s, fun g hg => by cases hg⟩
 | nil => exact ⟨[], .nil, fun g hg => by cases hg⟩
 | sl hd => exact ⟨_, hd.under hk, fun g hg => ⟨hd.deep.bound g hg, hd.old g hg⟩⟩
 | _ => cases hc
theorem m_callp {c : Go.Call} {f : Nat} {s : St} {K : AV → St → Tree} {w0 : Base} [TbOk P w0] {w : World} {N : Nat} {a : Act} (ho : o.op = .call c) (hcal : c.callee = .value (.func f)) (h : Sat P Q As (mop (.callp f c.args.toList) s nid K))
 (hr : Rel w0 N s.tm (fun b => look b s.st) a w) (hfr : ∀ b k, look b s.st = some k → b < nid) : MD P Q As o s nid K w0 N a w := by
 obtain ⟨at_, FP, hh⟩ := hr
 simp only [mop] at h
 generalize has : c.args.toList.map (ev s.tm) = as at h
 cases hnb : nodupB (ptrsL as) with
 | false => rw [hnb] at h; exact (no_bad h).elim
 | true =>
   rw [hnb, Bool.not_true, cond_false] at h
   have hnd := nodupB_ok hnb
   split at h
   ·rename_i cells hcells
    obtain ⟨c1, c2⟩ := litsAt_ok hcells
    split at h
    ·rename_i vs hvs
     obtain ⟨v1, v2⟩ := lendP_ok hvs
     cases h with
     | @callp _ _ _ cargs _ cbs Φ _ hF hl ha hlb hb hcont =>
       have hG := hh.good
       have hvals : ∀ i x, as[i]? = some x → Loc ⟨w0, w, at_, fun b => look b s.st⟩ x ((c.args.map a.eval).getD i undef) := fun i x hx => by
        rw [← has, List.getElem?_map, Option.map_eq_some_iff] at hx
        obtain ⟨z, hz, rfl⟩ := hx
        rw [map_getD hz]
        exact hh.ev z
       have hex : ∀ j : Nat, ∃ q : (Nat × Nat) × (Array Value × TypeId), ∀ (b : Nat) (sz : Nat) (cs : List AV), (ptrsL as)[j]? = some b → look b s.st = some (.lit sz cs) → at_ b = some q.1 ∧ w.heap[q.1.1]? = some (.cells q.2.1 q.2.2 (0, 0)) ∧
        ∀ j x, cs[j]? = some x → ∃ u, q.2.1[q.1.2 + j]? = some u ∧ Loc ⟨w0, w, at_, fun b => look b s.st⟩ x u := fun j => by
        cases ej : (ptrsL as)[j]? with
        | none => exact ⟨((0, 0), (#[], default)), fun b sz cs hb => by cases hb⟩
        | some b =>
          obtain ⟨sz, cs, h1, h2, h3⟩ := c2 j b ej
          have r := hG.rep b _ h1
          generalize FP b = fp at r
          cases r with
          | @lit _ _ g base cells' t ha' hg' hcc =>
            refine ⟨((g, base), (cells', t)), fun b' sz' cs' hb' hk => ?_⟩
            cases hb'
            rw [h1] at hk
            cases hk
            exact ⟨ha', hg', hcc⟩
       obtain ⟨q, hq⟩ := Classical.axiomOfChoice hex
       have at_j : ∀ j b, (ptrsL as)[j]? = some b → ∃ sz cs, look b s.st = some (.lit sz cs) ∧ cs.all cellP = true ∧ cells[j]? = some cs ∧ at_ b = some (q j).1 ∧ w.heap[(q j).1.1]? = some (.cells (q j).2.1 (q j).2.2 (0, 0)) ∧ ∀ j' x, cs[j']? = some x → ∃ u, (q j).2.1[(q j).1.2 + j']? = some u ∧ Loc ⟨w0, w, at_, fun b => look b s.st⟩ x u := fun j b hj => by
        obtain ⟨sz, cs, h1, h2, h3⟩ := c2 j b hj
        obtain ⟨h4, h5, h6⟩ := hq j b sz cs hj h1
        exact ⟨sz, cs, h1, h2, h3, h4, h5, h6⟩
       have hlen : cbs.length = (ptrsL as).length := by omega
       have inj : ∀ (i j b : Nat), (ptrsL as)[i]? = some b → (ptrsL as)[j]? = some b → i = j := fun i j b hi hj => by
        have h1 := lt_of_get hi
        have h2 := lt_of_get hj
        rw [List.getElem?_eq_getElem h1] at hi
        rw [List.getElem?_eq_getElem h2] at hj
        exact (List.getElem_inj hnd).1 ((Option.some.inj hi).trans (Option.some.inj hj).symm)
       have inown : ∀ {b g base : Nat}, at_ b = some (g, base) → g ∈ (⟨w0, w, at_, fun b => look b s.st⟩ : Env).own FP b := fun {b g base} e => by
        show g ∈ ownOf (at_ b) (FP b)
        rw [e]
        exact List.mem_cons_self ..
       have lentAt : ∀ g, (∃ i, i < cbs.length ∧ g = (q i).1.1) → ∃ b k base, b ∈ ptrsL as ∧ look b s.st = some k ∧ at_ b = some (g, base) := fun g ⟨i, hi, hg⟩ => by
        have hi' : i < (ptrsL as).length := by omega
        have ej := List.getElem?_eq_getElem hi'
        obtain ⟨sz, cs, h1, _, _, h4, _⟩ := at_j i _ ej
        exact ⟨_, _, (q i).1.2, List.getElem_mem hi', h1, by rw [hg]; exact h4⟩
       have hotl : ∀ g, (∃ i, i < cbs.length ∧ g = (q i).1.1) → w0.hot g := fun g hg => by
        obtain ⟨b, k, base, _, h2, h3⟩ := lentAt g hg
        exact hG.rt.hot b k h2 g base h3
       have notOld : ∀ g, g < w0.w.heap.size → ¬ w0.mine g → ¬ ∃ i, i < cbs.length ∧ g = (q i).1.1 := fun g g1 g2 hl => by
        rcases hotl g hl with h | h
        ·omega
        ·exact g2 h
       have notLent : ∀ g, FromOf ⟨w0, w, at_, fun b => look b s.st⟩ FP (dropAll (ptrsL as) s.st) g → ¬ ∃ i, i < cbs.length ∧ g = (q i).1.1 := fun g hg hlent => by
        rcases hg with ⟨g1, g2⟩ | ⟨b', g1, g2⟩
        ·exact notOld g g1 g2 hlent
        ·obtain ⟨b, k, base, hb1, hb2, hb3⟩ := lentAt g hlent
         cases e : look b' (dropAll (ptrsL as) s.st) with
         | none => exact g1 e
         | some k' =>
           obtain ⟨d1, d2⟩ := look_dropAll e
           exact hG.apart b b' k k' hb2 d1 (fun e => d2 (e ▸ hb1)) g (inown hb3) g2
       have hrun : (execOp a.eval o).run P w = .ok (.enter f (c.args.map a.eval)) w := by
        simp only [execOp, ho, resolve, hcal, Act.eval, Deferred.ofValue, Sem.run_bind, Sem.run_pure, Result.andThen_ok, invoke, call_enter hF.1]
        simp
       refine .inr ⟨f, c.args.map a.eval, w, hrun, (hF.2 w (c.args.map a.eval) (fun i => (q i).1.1) (fun i => (q i).1.2) (fun i => (q i).2.1) (fun i => (q i).2.2) (TbOk.lent hh.good.below (fun g hg => by obtain ⟨b, k, base, h1, h2, h3⟩ := lentAt g hg; exact hh.good.rt.hot b k h2 g base h3)) (fun i ds hds => ?_) (fun i j hi hj hne e => ?_) (by have h9 := congrArg List.length has; simp at h9 ⊢; omega) (fun i y hy => ?_)).mono (fun e w' hpost => ?_)⟩
       ·have hi' : i < (ptrsL as).length := by have := lt_of_get hds; omega
        obtain ⟨sz, cs, h1, h2, h3, h4, h5, h6⟩ := at_j i _ (List.getElem?_eq_getElem hi')
        obtain ⟨d1, d2, d3⟩ := hb i cs ds h3 hds
        refine ⟨h5, d2, fun j y hy => ?_⟩
        obtain ⟨x, hx⟩ := get_of_len d1 hy
        obtain ⟨u, hu, hlu⟩ := h6 j x hx
        obtain ⟨fp, hd, hfp⟩ := cellP_deep (E := ⟨w0, w, at_, fun b => look b s.st⟩) hG.below (List.all_eq_true.1 h2 x (List.mem_of_getElem? hx)) hlu
        exact ⟨u, fp, hu, (d3 j x y hx hy).deep hd, fun g hg => notOld g (hfp g hg).1 (hfp g hg).2.1⟩
       ·have hi' : i < (ptrsL as).length := by omega
        have hj' : j < (ptrsL as).length := by omega
        obtain ⟨sz, cs, h1, _, _, h4, _⟩ := at_j i _ (List.getElem?_eq_getElem hi')
        obtain ⟨sz', cs', h1', _, _, h4', _⟩ := at_j j _ (List.getElem?_eq_getElem hj')
        have e : (q i).1.1 = (q j).1.1 := e
        refine hG.apart _ _ _ _ h1 h1' (fun e2 => hne ((List.getElem_inj hnd).1 e2)) (q i).1.1 (inown h4) ?_
        rw [e]
        exact inown h4'
       ·obtain ⟨x, hx⟩ := get_of_len hl hy
        obtain ⟨z, hz⟩ := get_of_len v1 hx
        refine ArgRep.le ?_ (ha i x y hx hy)
        rcases v2 i z x hz hx with ⟨k, b, e1, e2, e3⟩ | hm
        ·subst e1 e3
         have hlz := hvals i _ hz
         obtain ⟨sz', cs', g, base, _, hab, hev⟩ := hlz.ptr_inv
         obtain ⟨sz, cs, h1, _, _, h4, _⟩ := at_j k b e2
         have hab : at_ b = some (g, base) := hab
         rw [h4] at hab
         have hk : k < cbs.length := by have := lt_of_get e2; omega
         rw [hev]
         have e5 : (⟨g, base + 0, none⟩ : Addr) = ⟨(q k).1.1, (q k).1.2, none⟩ := by
          have := Option.some.inj hab
          rw [this]
          rfl
         rw [e5, Nat.zero_add]
         exact .lent (sv := fun i => .pointer (some ⟨(q i).1.1, (q i).1.2, none⟩)) k hk
        ·obtain ⟨fp, hd, hfp⟩ := mat_from hG (st := dropAll (ptrsL as) s.st) (fun b k hk => (look_dropAll hk).1) 4 _ _ hm _ (hvals i z hz)
         exact .deep hd (fun g hg => notLent g (hfp g hg))
       ·obtain ⟨v, ret, outs, fp, rfl, hΦ, hol, hd, hn, hf, hk, hout⟩ := hpost
        refine ⟨v, rfl, ?_⟩
        have hcont := hcont ret outs hΦ
        dsimp only at hcont
        split at hcont
        ·rename_i st' hst'
         obtain ⟨s1, s2⟩ := setLits_ok hst' hnd
         have hT : ∀ b, b ∈ ptrsL as → ∃ j, (ptrsL as)[j]? = some b := fun b hb => List.getElem?_of_mem hb
         obtain ⟨hh2, mv⟩ := hh.lentP (st' := fun b => look b st') (w' := w') (T := fun b => b ∈ ptrsL as) (lent := fun g => ∃ i, i < cbs.length ∧ g = (q i).1.1) (fun g hg => by
          obtain ⟨b, k, base, h1, h2, h3⟩ := lentAt g hg
          exact ⟨b, k, base, h1, h2, h3⟩) hk (fun c hc => s1 c hc) (fun c hc => by
          obtain ⟨j, hj⟩ := hT c hc
          obtain ⟨sz, cs, h1, h2, h3, h4, h5, h6⟩ := at_j j c hj
          obtain ⟨sz', cs', xs, g1, g2, g3, g4, g5⟩ := s2 j c hj
          rw [h1] at g2
          cases g2
          obtain ⟨arr', o1, o2, o3, o4⟩ := hout j xs g1
          refine ⟨sz, cs, mixC cs xs, (q j).1.1, (q j).1.2, (q j).2.1, arr', (q j).2.2, h1, g3, mixC_len g4, h4, h5, o1, o3, fun p x hx => ?_⟩
          obtain ⟨c0, o0, m1, m2, m3⟩ := mixC_at p x hx
          obtain ⟨u, u1, u2⟩ := o4 p o0 m2
          refine ⟨u, u1, ?_⟩
          rcases m3 with ⟨f1, rfl⟩ | ⟨f1, f2⟩
          ·rcases u2 with ⟨_, u2⟩ | ⟨f3, _⟩
           ·exact .inl ⟨f1, u2⟩
           ·rw [f1] at f3; cases f3
          ·rcases u2 with ⟨f3, _⟩ | ⟨_, u2⟩
           ·rw [f1] at f3; cases f3
           ·rcases f2 with rfl | rfl
            ·exact .inr ⟨m1, u2⟩
            ·have := List.all_eq_true.1 g5 _ (List.mem_of_getElem? hx)
             cases this)
         have keys : ∀ b k, look b st' = some k → b < nid := fun b k hb => by
          by_cases hm : b ∈ ptrsL as
          ·obtain ⟨j, hj⟩ := hT b hm
           obtain ⟨sz, cs, h1, _⟩ := at_j j b hj
           exact hfr b _ h1
          ·rw [s1 b hm] at hb
           exact hfr b k hb
         cases hle : Nat.ble (imp 3 ret nid).2.2 (nid + 16) with
         | false => rw [hle, cond_false] at hcont; exact (no_bad hcont).elim
         | true =>
           rw [hle, cond_true] at hcont
           have hle := Nat.le_of_ble_eq_true hle
           obtain ⟨at1, FP1, i1, i2, _⟩ := (imp_ok 3 ret nid w0 w' N s.tm a (fun b => look b st') at_ FP v _ hh2 hd hn (fun g hg => ⟨hG.below.hot (hf g hg).1, (hf g hg).2⟩)
            (fun c k hc g hg hg' => by
              have hc' : ∃ k0, look c s.st = some k0 := by
               by_cases hm : c ∈ ptrsL as
               ·obtain ⟨j, hj⟩ := hT c hm
                obtain ⟨sz, cs, h1, _⟩ := at_j j c hj
                exact ⟨_, h1⟩
               ·exact ⟨k, (s1 c hm).symm.trans hc⟩
              obtain ⟨k0, hk0⟩ := hc'
              have h1 := hG.bound (show (⟨w0, w, at_, fun b => look b s.st⟩ : Env).st c = some k0 from hk0) g hg'
              have h1 : g < w.heap.size := h1
              have := (hf g hg).1
              omega)
            (fun b hb1 hb2 => by
              show look b st' = none
              cases e : look b st' with
              | none => rfl
              | some k => have := keys b k e; omega)).ok
           refine ⟨_, _, hcont, rfl, fun b k hb => ?_, at1, FP1, i1.congr (fun _ => rfl) (fun b => ?_), ?_⟩
           ·have hb' : look b ((imp 3 ret nid).2.1 ++ st') = some k := hb
            rw [look_append] at hb'
            split at hb'
            ·rename_i k' hk'
             have := ((imp_ids 3 ret nid).2 _ (look_mem hk')).2
             have : b < (imp 3 ret nid).2.2 := this
             omega
            ·have := keys b k hb'; omega
           ·show (match look b (imp 3 ret nid).2.1 with | some k => some k | none => look b st') = look b ((imp 3 ret nid).2.1 ++ st')
            rw [look_append]
            cases look b (imp 3 ret nid).2.1 <;> rfl
           ·have e : (fun b => look b ((imp 3 ret nid).2.1 ++ st')) = addAll (imp 3 ret nid).2.1 (fun b => look b st') := by
             funext b
             show look b ((imp 3 ret nid).2.1 ++ st') = (match look b (imp 3 ret nid).2.1 with | some k => some k | none => look b st')
             rw [look_append]
             cases look b (imp 3 ret nid).2.1 <;> rfl
            show Loc ⟨w0, w', at1, fun b => look b ((imp 3 ret nid).2.1 ++ st')⟩ _ _
            rw [e]
            exact i2
        ·exact (no_bad hcont).elim
    ·exact (no_bad h).elim
   ·exact (no_bad h).elim
theorem m_calln {c : Go.Call} {f : Nat} {s : St} {K : AV → St → Tree} {w0 : Base} [TbOk P w0] {w : World} {N : Nat} {a : Act} (ho : o.op = .call c) (hcal : c.callee = .value (.func f)) (h : Sat P Q As (mop (.calln f c.args.toList) s nid K))
 (hr : Rel w0 N s.tm (fun b => look b s.st) a w) (hfr : ∀ b k, look b s.st = some k → b < nid) (hnl : NoLent w0) : MDX true P Q As o s nid K w0 N a w := by
 obtain ⟨at_, FP, hh⟩ := hr
 simp only [mop] at h
 split at h
 ·rename_i vs hvs
  obtain ⟨m1, m2⟩ := mapM_get hvs
  cases h with
  | @calln _ _ _ cargs Φ _ hF hl ha hcont =>
    have hnone : look nid s.st = none := by
     cases e : look nid s.st with
     | none => rfl
     | some k => exact absurd (hfr _ _ e) (Nat.lt_irrefl _)
    let L : Nat → Prop := fun q => ∃ b blk base, look b s.st = some blk ∧ at_ b = some (q, base)
    have hdeep : ∀ (i : Nat) (y : AV), vs[i]? = some y → ∃ fp, Deep w y ((c.args.map a.eval).getD i undef) fp ∧ ∀ q ∈ fp, ¬ L q := fun i y hy => by
     obtain ⟨x, hx'⟩ := get_of_len m1 hy
     have hx2 := hx'
     rw [List.getElem?_map, Option.map_eq_some_iff] at hx2
     obtain ⟨z, hz, rfl⟩ := hx2
     rw [map_getD hz]
     obtain ⟨fp, hd, hfrom⟩ := mat_from hh.good (st := []) (fun b k hb => by cases hb) 4 _ _ (m2 i _ _ hx' hy) _ (hh.ev z)
     refine ⟨fp, hd, fun q hq ⟨b, blk, base, hb, hat⟩ => ?_⟩
     rcases hfrom q hq with ⟨h1, h2⟩ | ⟨b', h1, _⟩
     ·rcases hh.good.rt.hot b blk hb q base hat with h3 | h3
      ·have h1 : q < w0.w.heap.size := h1
       have h3 : w0.w.heap.size ≤ q := h3
       omega
      ·exact h2 h3
     ·exact h1 rfl
    obtain ⟨F, hFp⟩ := pick_fp (n := vs.length) (R := fun i fp => ∀ y, vs[i]? = some y → Deep w y ((c.args.map a.eval).getD i undef) fp ∧ ∀ q ∈ fp, ¬ L q) (fun i hi => by
     have hy := List.getElem?_eq_getElem hi
     obtain ⟨fp, h⟩ := hdeep i _ hy
     exact ⟨fp, fun y hy' => by rw [hy] at hy'; cases hy'; exact h⟩)
    have hrun : (execOp a.eval o).run P w = .ok (.enter f (c.args.map a.eval)) w := by
     simp only [execOp, ho, resolve, hcal, Act.eval, Deferred.ofValue, Sem.run_bind, Sem.run_pure, Result.andThen_ok, invoke, call_enter hF.1]
     simp
    refine .inr ⟨f, c.args.map a.eval, w, hrun, (hF.2 w (c.args.map a.eval) F L (TbOk.ok w hh.good.below) (by simp at m1 ⊢; omega) (fun i y hy => ?_) (fun i hi => ?_)).mono (fun e w' hpost => ?_)⟩
    ·obtain ⟨x, hx⟩ := get_of_len hl hy
     exact (ha i x y hx hy).deep (hFp i (lt_of_get hx) x hx).1
    ·have hi' : i < vs.length := by omega
     exact (hFp i hi' _ (List.getElem?_eq_getElem hi')).2
    ·obtain ⟨g, off, arr, t, cs, rfl, hΦ, hgs, hg, hcells, hbel⟩ := hpost
     refine ⟨_, rfl, ?_⟩
     have hcont := hcont cs hΦ
     dsimp only at hcont
     cases hcp : cs.all cellP with
     | false => rw [hcp, cond_false] at hcont; exact (no_bad hcont).elim
     | true =>
       rw [hcp, cond_true] at hcont
       have h2 := hh.world hbel
       obtain ⟨hc1, hext, mv⟩ := h2.cool hnl (fun q => q = g) (fun q e => by subst e; exact ⟨hh.good.below.hot hgs, ⟨arr, t, hg⟩⟩)
       have hb0 : (fun b => look b s.st) nid = none := hnone
       obtain ⟨h3, mv3⟩ := hc1.new hb0 (blk := .lit 0 cs) (p := some (g, off)) (fp := []) (.lit (upd_self _ _ _) hg (fun j x hx => by
        obtain ⟨u, fp, hu, hd, hfp⟩ := hcells j x hx
        refine ⟨u, hu, deep_loc (E := ⟨coolB (fun q => q = g) w' at_ (fun b => look b s.st) FP, w', _, _⟩) hd (fun q hq => ⟨fun hm => ?_, fun h => h⟩)⟩
        rcases hm with ⟨b2, blk2, base2, hb2, hat2⟩ | hm
        ·exact hfp q hq (.inr ⟨b2, blk2, base2, hb2, hat2⟩)
        ·exact hfp q hq (.inl hm)))
        (List.nodup_cons.2 ⟨by simp, List.nodup_nil⟩)
        (fun q hq => by
          rcases List.mem_cons.1 hq with rfl | hq
          ·exact .inr (.inl (.inr rfl))
          ·cases hq)
        (fun c k hc q hq hm => by
          rcases List.mem_cons.1 hq with rfl | hq
          ·obtain ⟨cs0, t0, h0⟩ := hh.good.fresh c k hc q hm
           have h0 : w.heap[q]? = some (.cells cs0 t0 (0, 0)) := h0
           have := (Array.getElem?_eq_some_iff.1 h0).1
           omega
          ·cases hq)
        (fun q hq => by
          rcases List.mem_cons.1 hq with rfl | hq
          ·exact ⟨arr, t, hg⟩
          ·cases hq)
        (fun q base e => by cases e; exact .inr (.inr rfl))
       have hlk : ∀ b, upd (fun b => look b s.st) nid (some (.lit 0 cs)) b = look b ((nid, Blk.lit 0 cs) :: s.st) := fun b => by
        by_cases e : b = nid
        ·subst e; rw [upd_self]; simp [look]
        ·rw [upd_ne _ _ e]
         have : Nat.beq nid b = false := by
          cases e2 : Nat.beq nid b with
          | false => rfl
          | true => exact absurd (Nat.eq_of_beq_eq_true e2).symm e
         simp [look, this]
       refine ⟨_, _, hcont, rfl, fun b k hb => ?_, _, hext, _, _, h3.congr (fun _ => rfl) hlk, ?_⟩
       ·have hb : look b ((nid, Blk.lit 0 cs) :: s.st) = some k := hb
        rw [← hlk] at hb
        by_cases e : b = nid
        ·omega
        ·rw [upd_ne _ _ e] at hb
         have := hfr _ _ hb
         omega
       ·have e : (fun b => look b ((nid, Blk.lit 0 cs) :: s.st)) = upd (fun b => look b s.st) nid (some (.lit 0 cs)) := (funext hlk).symm
        show Loc ⟨_, w', _, fun b => look b ((nid, Blk.lit 0 cs) :: s.st)⟩ (.ptr nid 0) _
        rw [e]
        have := Loc.ptr (E := ⟨coolB (fun q => q = g) w' at_ (fun b => look b s.st) FP, w', upd at_ nid (some (g, off)), upd (fun b => look b s.st) nid (some (.lit 0 cs))⟩) (sz := 0) (cs := cs) (b := nid) (j := 0) (g := g) (base := off) (upd_self (fun b => look b s.st) nid (some (.lit 0 cs))) (upd_self at_ nid (some (g, off)))
        rw [Nat.add_zero] at this
        exact this
 ·exact (no_bad h).elim
end
end Go.V
namespace Go.V
open Go Go.RowKit
section
variable {P : Program} {Q : AV → Prop} {As : List (St → Prop)} {mu : Nat → Bool} {nid : Nat} {o : Oper}
theorem exp_cellOk : ∀ (d : Nat) (st st' : List (Nat × Blk)) (x y : AV), exp d st x = some (y, st') → cellOk y = true → cellOk x = true := by
 intro d st st' x y h hy
 cases x <;> first | rfl | skip
 ·cases d <;> simp [exp] at h
 ·cases d <;> simp [exp] at h
 ·cases d <;> simp [exp] at h
 ·cases d with
  | zero => simp [exp] at h
  | succ d =>
    rw [exp] at h
    split at h
    ·simp only [Option.some.injEq, Prod.mk.injEq] at h
     rw [← h.1] at hy
     cases hy
    ·cases h
 ·cases d with
  | zero => simp [exp] at h
  | succ d =>
    rw [exp] at h
    split at h
    ·simp only [Option.some.injEq, Prod.mk.injEq] at h
     rw [← h.1] at hy
     cases hy
    ·cases h
theorem expL_cellOk {d : Nat} : ∀ (l ys : List AV) (st st' : List (Nat × Blk)), expL (exp d) st l = some (ys, st') → ys.all cellOk = true → l.all cellOk = true
 | [], _, _, _, _, _ => rfl
 | x :: l, ys, st, st', h, hy => by
   rw [expL] at h
   split at h
   ·rename_i a ha
    split at h
    ·rename_i b hb
     simp only [Option.some.injEq, Prod.mk.injEq] at h
     obtain ⟨rfl, rfl⟩ := h
     simp only [List.all_cons, Bool.and_eq_true] at hy ⊢
     exact ⟨exp_cellOk d _ _ _ _ ha hy.1, expL_cellOk l _ _ _ hb hy.2⟩
    ·cases h
   ·cases h
theorem mut_key {m : MOp} (hc : compOp0 P mu o.op = some m) (hm : isMut m = true) :
 (∃ t x y n, o.op = .store t x y ∧ sizeOf? P t = some n ∧ 0 < n ∧ m = .sto x y n) ∨ (∃ x y size bytes, AppInfo P o x y size bytes ∧ m = .app x y size bytes) ∨ (∃ c f, o.op = .call c ∧ c.callee = .value (.func f) ∧ cm mu = false ∧ m = .callm f c.args.toList) ∨
 (∃ t x y n, o.op = .store t x y ∧ sizeOf? P t = some n ∧ 0 < n ∧ cm mu = true ∧ m = .stoc x y n) ∨
 (∃ c f, o.op = .call c ∧ c.callee = .value (.func f) ∧ m = .callp f c.args.toList) ∨ (∃ c f, o.op = .call c ∧ c.callee = .value (.func f) ∧ cm mu = true ∧ m = .calln f c.args.toList) ∨
 (∃ c f x i y, o.op = .call c ∧ c.callee = .value (.func f) ∧ c.args.toList = [x, i, y] ∧ m = .ins f x i y) ∨
 ∃ c t e x zs, o.op = .call c ∧ c.callee = .builtin .clear ∧ c.argTypes[0]? = some t ∧ c.args.toList = [x] ∧ P.underlying t = some (.slice e) ∧ zero? P e = some zs ∧ 0 < zs.length ∧ m = .clr x zs.length zs := by
 cases ho : o.op with
 | store t x y =>
   simp only [ho, compOp0, Option.bind_eq_some_iff] at hc
   obtain ⟨n, hn, hc⟩ := hc
   split at hc
   ·cases hc
   ·split at hc
    ·rename_i hcm
     cases hc
     exact .inr (.inr (.inr (.inl ⟨t, x, y, n, rfl, hn, by omega, hcm, rfl⟩)))
    ·cases hc
     exact .inl ⟨t, x, y, n, rfl, hn, by omega, rfl⟩
 | load t x =>
   simp only [ho, compOp0, Option.bind_eq_some_iff] at hc
   obtain ⟨n, hn, g, hg, hc⟩ := hc
   split at hc
   ·cases hc
   ·split at hc
    ·cases hc; cases hm
    ·cases hc; cases hm
 | call c =>
   simp only [ho, compOp0] at hc
   split at hc
   ·split at hc
    ·split at hc <;> first | (cases hc; cases hm; done) | (cases hc; done)
    ·cases hc
   ·split at hc
    ·split at hc <;> first | (cases hc; cases hm; done) | (cases hc; done)
    ·cases hc
   ·rename_i hcal
    split at hc
    ·rename_i t x ht ha
     simp only [Option.bind_eq_some_iff] at hc
     obtain ⟨e, he, zs, hz, hc⟩ := hc
     split at hc
     ·rename_i hh
      cases hc
      exact .inr (.inr (.inr (.inr (.inr (.inr (.inr ⟨c, t, e, x, zs, rfl, hcal, ht, ha, elem_slice he, hz, hh.2, rfl⟩))))))
     ·cases hc
    ·cases hc
   ·split at hc <;> first | (cases hc; cases hm; done) | (cases hc; done)
   ·split at hc <;> first | (cases hc; cases hm; done) | (cases hc; done)
   ·rename_i hcal
    split at hc
    ·rename_i t u x y ht ha
     simp only [Option.bind_eq_some_iff] at hc
     obtain ⟨e, he, i, hi, zs, hz, hc⟩ := hc
     split at hc
     ·rename_i e' hu
      split at hc
      ·rename_i hh
       cases hc
       refine .inr (.inl ⟨x, y, i.size, i.bytes, ⟨?_, hh.2.2.2.2⟩, rfl⟩)
       have he' : P.underlying t = some (.slice e) := by
        unfold elem? at he
        split at he
        ·rename_i hu'; cases he; exact hu'
        ·cases he
       unfold zero? at hz
       rw [hi, Option.bind_some, Option.map_eq_some_iff] at hz
       obtain ⟨z, hz, hzs⟩ := hz
       refine ⟨c, t, u, e, e', i, z, ho, hcal, ?_, ?_, he', hu, hi, hz, rfl, rfl, ?_, hh.2.1, hh.2.2.1, hh.2.2.2.1⟩
       ·apply Array.ext'; exact ht
       ·apply Array.ext'; exact ha
       ·have := hh.1; rw [← hzs] at this; simpa using this
      ·cases hc
     ·cases hc
    ·cases hc
   ·rename_i f hcal
    split at hc
    ·cases hc; exact .inr (.inr (.inr (.inr (.inl ⟨c, f, rfl, hcal, rfl⟩))))
    split at hc
    ·split at hc
     ·rename_i hcm
      cases hc; exact .inr (.inr (.inr (.inr (.inr (.inl ⟨c, f, rfl, hcal, hcm, rfl⟩)))))
     ·cases hc
    split at hc
    ·split at hc
     ·cases hc
     ·rename_i hcm
      cases hc; exact .inr (.inr (.inl ⟨c, f, rfl, hcal, by simpa using hcm, rfl⟩))
    split at hc
    ·split at hc
     ·rename_i x i y ha
      cases hc; exact .inr (.inr (.inr (.inr (.inr (.inr (.inl ⟨c, f, x, i, y, rfl, hcal, ha, rfl⟩))))))
     ·cases hc
    ·cases hc; cases hm
   ·cases hc; cases hm
   ·cases hc
 | unOp u t x => cases u <;> simp only [ho, compOp0, Option.some.injEq] at hc <;> first | (cases hc; done) | (subst hc; cases hm)
 | binOp op t x y t' =>
   simp only [ho, compOp0] at hc
   split at hc
   ·rw [Option.bind_eq_some_iff] at hc
    obtain ⟨ks, _, hc⟩ := hc
    split at hc <;> first | (cases hc; cases hm) | cases hc
   ·split at hc <;> first | (cases hc; cases hm; done) | (cases hc; done)
   ·cases hc; cases hm
   ·cases hc; cases hm
   ·cases hc; cases hm
   ·cases hc
 | makeFunc f first caps =>
   cases f <;> simp only [ho, compOp0] at hc <;> first | (cases hc; done) | (split at hc <;> first | (cases hc; cases hm) | cases hc)
 | _ =>
   simp only [ho, compOp0] at hc
   first
    | (cases hc; done)
    | (simp only [Option.some.injEq] at hc; subst hc; cases hm; done)
    | (simp only [Option.map_eq_some_iff] at hc; obtain ⟨_, _, rfl⟩ := hc; cases hm; done)
    | (simp only [Option.bind_eq_some_iff, Option.map_eq_some_iff] at hc; obtain ⟨_, _, _, _, rfl⟩ := hc; cases hm; done)
    | (simp only [Option.bind_eq_some_iff] at hc; obtain ⟨_, _, hc⟩ := hc; split at hc <;> first | (cases hc; cases hm; done) | (cases hc; done))
    | (simp only [Option.bind_eq_some_iff] at hc; obtain ⟨_, _, _, _, hc⟩ := hc; split at hc <;> first | (cases hc; cases hm; done) | (cases hc; done))
    | (simp only [Option.bind_eq_some_iff] at hc; obtain ⟨_, _, _, _, _, _, hc⟩ := hc; split at hc <;> first | (cases hc; cases hm; done) | (cases hc; done))
    | (split at hc <;> first
        | (cases hc; cases hm; done)
        | (cases hc; done)
        | (split at hc <;> first | (cases hc; cases hm; done) | (cases hc; done))
        | (simp only [Option.map_eq_some_iff] at hc; obtain ⟨_, _, rfl⟩ := hc; cases hm; done)
        | (split at hc <;> first | (cases hc; done) | (simp only [Option.map_eq_some_iff] at hc; obtain ⟨_, _, rfl⟩ := hc; cases hm; done))
        | (simp only [Option.bind_eq_some_iff, Option.map_eq_some_iff] at hc; obtain ⟨_, _, _, _, _, _, rfl⟩ := hc; cases hm; done)
        | (simp only [Option.bind_eq_some_iff, Option.some.injEq] at hc; obtain ⟨_, _, _, _, rfl⟩ := hc; cases hm; done))
theorem sat_need {p : Unit → Prop} {c : Unit → Tree} (h : Sat P Q As (.need p c)) : p () ∧ Sat P Q As (c ()) := by
 cases h with
 | need h1 h2 => exact ⟨h1, h2⟩
theorem sat_typ {cells : List AV} {c : (α : Type) → (enc : α → Nat → AV) → α → Tree} (h : Sat P Q As (.typ cells c)) : ∃ α enc z, (∀ (j : Nat) (x : AV), cells[j]? = some x → LeD x (enc z j)) ∧ Sat P Q As (c α enc z) := by
 cases h with
 | typ enc z h1 h2 => exact ⟨_, enc, z, h1, h2⟩
theorem sat_typed {α : Type} {sz : Nat} {enc : α → Nat → AV} {cells : List AV} {c : α → Tree} (h : Sat P Q As (.typed sz enc cells c)) : ∃ z, (∀ (j : Nat) (x : AV), cells[j]? = some x → LeD x (enc z j)) ∧ Sat P Q As (c z) := by
 cases h with
 | typed z h1 h2 => exact ⟨z, h1, h2⟩
theorem sat_idx {α : Type} {xs : Unit → List α} {i : Unit → Nat} {c : α → Tree} (h : Sat P Q As (.idx xs i c)) : ∃ x, (xs ())[i ()]? = some x ∧ Sat P Q As (c x) := by
 cases h with
 | idx h0 h1 => exact ⟨_, List.getElem?_eq_getElem h0, h1 _ (List.getElem?_eq_getElem h0)⟩
theorem beq_ne {b c : Nat} (h : (!(Nat.beq b c)) = true) : b ≠ c := fun e => by subst e; rw [Nat.beq_refl] at h; cases h
theorem and3 {a b : Bool} (h : (a && b) = true) : a = true ∧ b = true := by simpa using h
theorem flatS_cellOk {l : List AV} (h : l.all flatS = true) : l.all cellOk = true := List.all_eq_true.2 (fun x hx => by
 have := List.all_eq_true.1 h x hx
 cases x <;> first | rfl | cases this)
theorem sto_ptr_tree {t : TypeId} {x y : Operand} {n b j sz k : Nat} {cs : List AV} {s : St} {K : AV → St → Tree} {w0 : Base} {w : World} {N : Nat} {a : Act} (ho : o.op = .store t x y) (hn : sizeOf? P t = some n) (h0 : 0 < n) (hx : ev s.tm x = .ptr b j) (hb : look b s.st = some (.lit sz cs))
 (h : Sat P Q As (bif Nat.beq (cellsOf (ev s.tm y)).length n && Nat.ble (j + n) cs.length && (bif Nat.beq sz 99 then (cellsOf (ev s.tm y)).all flatS else (cellsOf (ev s.tm y)).all cellOk) then K .undef { s with st := setB b (.lit sz (fillC cs j (cellsOf (ev s.tm y)))) s.st } else .bad k))
 (hr : Rel w0 N s.tm (fun b => look b s.st) a w) (hfr : ∀ b k, look b s.st = some k → b < nid) : MD P Q As o s nid K w0 N a w := by
 cases e : (Nat.beq (cellsOf (ev s.tm y)).length n && Nat.ble (j + n) cs.length && (bif Nat.beq sz 99 then (cellsOf (ev s.tm y)).all flatS else (cellsOf (ev s.tm y)).all cellOk)) with
 | false => rw [e, cond_false] at h; exact (no_bad h).elim
 | true =>
   rw [e, cond_true] at h
   obtain ⟨e1, e3⟩ := and3 e
   obtain ⟨e1, e2⟩ := and3 e1
   refine m_sto_ptr ho hn h0 hx hb (Nat.eq_of_beq_eq_true e1) (Nat.le_of_ble_eq_true e2) ?_ ?_ h hr hfr
   ·cases e9 : Nat.beq sz 99 with
    | true => rw [e9, cond_true] at e3; exact flatS_cellOk e3
    | false => rw [e9, cond_false] at e3; exact e3
   ·intro e9
    subst e9
    exact e3
theorem comp_mut0 {m : MOp} {s : St} {K : AV → St → Tree} {w0 : Base} [TbOk P w0] {w : World} {N : Nat} {a : Act} (hc : compOp0 P mu o.op = some m) (hm : isMut m = true) (h : Sat P Q As (mop m s nid K))
 (hr : Rel w0 N s.tm (fun b => look b s.st) a w) (hfr : ∀ b k, look b s.st = some k → b < nid) (hmo : ModeOk (cm mu) w0) : MDX (cm mu) P Q As o s nid K w0 N a w := by
 rcases mut_key hc hm with ⟨t, x, y, n, ho, hn, h0, rfl⟩ | ⟨x, y, size, bytes, hI, rfl⟩ | ⟨c, f, ho, hcal, hcm, rfl⟩ | ⟨t, x, y, n, ho, hn, h0, hcm, rfl⟩ | ⟨c, f, ho, hcal, rfl⟩ | ⟨c, f, ho, hcal, hcm, rfl⟩ | ⟨c, f, x, i, y, ho, hcal, ha, rfl⟩ | ⟨c, t, e, x, zs, ho, hcal, ht, ha, hu, hz, hzp, rfl⟩
 ·refine MD.x ?_ hmo
  simp only [mop] at h
  split at h
  ·rename_i b j hx
   split at h
   ·rename_i sz cs hb
    exact sto_ptr_tree ho hn h0 hx hb h hr hfr
   ·exact (no_bad h).elim
  ·rename_i b i j hx
   split at h
   ·rename_i α sz enc xs fx hb
    split at h
    ·rename_i p hp
     obtain ⟨ys, rest⟩ := p
     cases e : (Nat.beq ys.length n && Nat.ble (j + n) sz && ys.all cellOk) with
     | false => simp only [e, cond_false] at h; exact (no_bad h).elim
     | true =>
       simp only [e, cond_true] at h
       obtain ⟨e1, e3⟩ := and3 e
       obtain ⟨e1, e2⟩ := and3 e1
       obtain ⟨z, hz, h⟩ := sat_idx h
       cases e5 : (bif fx then ys.all flatS && (List.range n).all (fun q => flat (enc z (j + q))) else true) with
       | false => simp only [e5, Bool.not_false, cond_true] at h; exact (no_bad h).elim
       | true =>
         simp only [e5, Bool.not_true, cond_false] at h
         obtain ⟨z', hty, h⟩ := sat_typed h
         refine m_sto_eptr ho hn h0 hx hb hp (Nat.eq_of_beq_eq_true e1) (Nat.le_of_ble_eq_true e2) hz (expL_cellOk _ _ _ _ hp e3) (fun hf => ?_) hty h hr hfr
         subst hf
         rw [cond_true] at e5
         obtain ⟨e6, e7⟩ := and3 e5
         refine ⟨e6, fun q h1 h2 => ?_⟩
         have := List.all_eq_true.1 e7 (q - j) (List.mem_range.2 (by omega))
         rwa [show j + (q - j) = q by omega] at this
    ·exact (no_bad h).elim
   ·exact (no_bad h).elim
  ·exact (no_bad h).elim
 ·refine MD.x ?_ hmo
  have hsl : ∀ {α : Type} {z : Nat} {enc : α → Nat → AV} {ys : Unit → List α}, ev s.tm y = .sl z enc ys → ∀ at_ FP, Here w0 N s.tm (fun b => look b s.st) a w at_ FP → ∃ fp, Deep w (.sl z enc ys) (a.eval y) fp := fun e at_ FP hh => by
   have hl := hh.ev y
   rw [e] at hl
   cases hl with
   | sl hd => exact ⟨_, hd.under hh.good.below⟩
  have hrf : ∀ {α : Type} {z : Nat} {enc : α → Nat → AV} {xs : Unit → List α} {fx : Bool} {b : Nat} {off n : Unit → Nat}, ev s.tm y = .ref b off n → look b s.st = some (.row z enc xs fx) → ∀ at_ FP, Here w0 N s.tm (fun b => look b s.st) a w at_ FP →
   (∃ fp, Deep w (.sl z enc (fun _ => ((xs ()).drop (off ())).take (n ()))) (a.eval y) fp) ∧ (((xs ()).drop (off ())).take (n ())).length = n () := fun e hb at_ FP hh => by
   have hl := hh.ev y
   rw [e] at hl
   obtain ⟨fp, hd, _⟩ := ref_deep hh.good hb hl
   obtain ⟨_, _, _, _, hle, _⟩ := ref_row hh.good hb hl
   exact ⟨⟨fp, hd⟩, by rw [List.length_take, List.length_drop]; omega⟩
  have hnew : (ev s.tm x = .nil ∨ ev s.tm x = .emp) → Sat P Q As (match ev s.tm y with
   | .nil => K (ev s.tm x) s
   | .emp => K (ev s.tm x) s
   | .sl z enc ys => bif Nat.beq z size then .need (fun _ => (∀ y ∈ ys (), ∀ j, j < z → flat (enc y j) = true) ∧ (ys ()).length * bytes ≤ 140737488351232) (fun _ => K (.ref nid (fun _ => 0) (fun _ => (ys ()).length)) { s with st := (nid, .row z enc ys false) :: s.st }) else .bad 71
   | .ref b off n => match look b s.st with
     | some (.row z enc xs _) => bif Nat.beq z size then .need (fun _ => (∀ y ∈ xs (), ∀ j, j < z → flat (enc y j) = true) ∧ n () * bytes ≤ 140737488351232) (fun _ => K (.ref nid (fun _ => 0) n) { s with st := (nid, .row z enc (fun _ => ((xs ()).drop (off ())).take (n ())) false) :: s.st }) else .bad 72
     | some (.lit z cs) => bif Nat.beq z size && Nat.beq (cs.length) size then
      match expL (exp 3) (drop_ b s.st) cs with
      | some a => bif !(a.1.all cellOk) then .bad 86 else .need (fun _ => off () = 0 ∧ n () = 1) (fun _ => .typ a.1 (fun _ enc x =>
       let gone : Nat → Bool := fun q => match look q s.st, look q a.2 with | some _, none => true | _, _ => false
       K (.ref nid (fun _ => 0) (fun _ => 1)) { tm := scrubT gone s.tm, st := (nid, .row size enc (fun _ => [x]) false) :: a.2.map (scrubB gone), nx := s.nx }))
      | none => .bad 73
       else .bad 74
     | _ => .bad 75
   | _ => .bad 76) → MD P Q As o s nid K w0 N a w := by
   clear h
   intro hx h
   split at h
   ·rename_i hy
    exact m_app_none hI (hx.elim .inl (fun e => .inr (.inl e))) (.inl hy) h hr hfr
   ·rename_i hy
    exact m_app_none hI (hx.elim .inl (fun e => .inr (.inl e))) (.inr hy) h hr hfr
   ·rename_i α z enc ys hy
    cases e : Nat.beq z size with
    | false => rw [e, cond_false] at h; exact (no_bad h).elim
    | true =>
      rw [e, cond_true] at h
      obtain rfl := Nat.eq_of_beq_eq_true e
      obtain ⟨⟨h1, h2⟩, h⟩ := sat_need h
      exact m_app_new hI hx (hsl hy) h1 rfl h2 h hr hfr
   ·rename_i b off n hy
    split at h
    ·rename_i α z enc xs fx hb
     cases e : Nat.beq z size with
     | false => rw [e, cond_false] at h; exact (no_bad h).elim
     | true =>
       rw [e, cond_true] at h
       obtain rfl := Nat.eq_of_beq_eq_true e
       obtain ⟨⟨h1, h2⟩, h⟩ := sat_need h
       obtain ⟨at_, FP, hh⟩ := hr
       have hlen := (hrf hy hb at_ FP hh).2
       exact m_app_new hI hx (fun at_ FP hh => (hrf hy hb at_ FP hh).1) (fun y hy j hj => h1 y (List.mem_of_mem_drop (List.mem_of_mem_take hy)) j hj) hlen.symm (by rw [hlen]; exact h2) h ⟨at_, FP, hh⟩ hfr
    ·rename_i z cs hb
     cases e : (Nat.beq z size && Nat.beq cs.length size) with
     | false => rw [e, cond_false] at h; exact (no_bad h).elim
     | true =>
       rw [e, cond_true] at h
       obtain ⟨e1, e2⟩ := and3 e
       obtain rfl := Nat.eq_of_beq_eq_true e1
       have e2 := Nat.eq_of_beq_eq_true e2
       split at h
       ·rename_i p hp
        obtain ⟨ys, rest⟩ := p
        cases e3 : ys.all cellOk with
        | false => simp only [e3, Bool.not_false, cond_true] at h; exact (no_bad h).elim
        | true =>
          simp only [e3, Bool.not_true, cond_false] at h
          obtain ⟨⟨h1, h2⟩, h⟩ := sat_need h
          obtain ⟨α, enc, z', hty, h⟩ := sat_typ h
          exact m_app_lit_new hI hx hy hb e2 hp e3 h1 h2 hty h hr hfr
       ·exact (no_bad h).elim
    ·exact (no_bad h).elim
   ·exact (no_bad h).elim
  simp only [mop] at h
  split at h
  ·rename_i hx
   exact hnew (.inl hx) h
  ·rename_i hx
   exact hnew (.inr hx) h
  ·rename_i b off n hx
   split at h
   ·rename_i α z enc xs hb
    split at h
    ·rename_i hy
     cases e : Nat.beq z size with
     | false => rw [e, cond_false] at h; exact (no_bad h).elim
     | true =>
       rw [e, cond_true] at h
       obtain rfl := Nat.eq_of_beq_eq_true e
       exact m_app_none hI (.inr (.inr ⟨b, off, n, α, enc, xs, false, hx, hb⟩)) (.inl hy) (by rw [hx]; exact h) hr hfr
    ·rename_i hy
     cases e : Nat.beq z size with
     | false => rw [e, cond_false] at h; exact (no_bad h).elim
     | true =>
       rw [e, cond_true] at h
       obtain rfl := Nat.eq_of_beq_eq_true e
       exact m_app_none hI (.inr (.inr ⟨b, off, n, α, enc, xs, false, hx, hb⟩)) (.inr hy) (by rw [hx]; exact h) hr hfr
    ·rename_i β z' enc' ys hy
     cases e : (Nat.beq z size && Nat.beq z' size) with
     | false => rw [e, cond_false] at h; exact (no_bad h).elim
     | true =>
       rw [e, cond_true] at h
       obtain ⟨e1, e2⟩ := and3 e
       obtain rfl := Nat.eq_of_beq_eq_true e1
       obtain rfl := Nat.eq_of_beq_eq_true e2
       obtain ⟨⟨h1, h2, h3⟩, h⟩ := sat_need h
       cases h with
       | same h => exact m_app_row hI hx hb h1 (hsl hy) h2 rfl h3 h hr hfr
    ·rename_i b' off' n' hy
     split at h
     ·rename_i β z' enc' ys fx hb'
      cases e : (Nat.beq z size && Nat.beq z' size && !(Nat.beq b' b)) with
      | false => rw [e, cond_false] at h; exact (no_bad h).elim
      | true =>
        rw [e, cond_true] at h
        obtain ⟨e1, _⟩ := and3 e
        obtain ⟨e1, e2⟩ := and3 e1
        obtain rfl := Nat.eq_of_beq_eq_true e1
        obtain rfl := Nat.eq_of_beq_eq_true e2
        obtain ⟨⟨h1, h2, h3⟩, h⟩ := sat_need h
        obtain ⟨at_, FP, hh⟩ := hr
        have hlen := (hrf hy hb' at_ FP hh).2
        cases h with
        | same h => exact m_app_row hI hx hb h1 (fun at_ FP hh => (hrf hy hb' at_ FP hh).1) (fun y hy j hj => h2 y (List.mem_of_mem_drop (List.mem_of_mem_take hy)) j hj) rfl (by rw [hlen]; exact h3) h ⟨at_, FP, hh⟩ hfr
     ·rename_i z' cs hb'
      cases e : (Nat.beq z size && Nat.beq z' size && Nat.beq cs.length size && !(Nat.beq b' b)) with
      | false => rw [e, cond_false] at h; exact (no_bad h).elim
      | true =>
        rw [e, cond_true] at h
        obtain ⟨e1, e4⟩ := and3 e
        obtain ⟨e1, e3⟩ := and3 e1
        obtain ⟨e1, e2⟩ := and3 e1
        obtain rfl := Nat.eq_of_beq_eq_true e1
        obtain rfl := Nat.eq_of_beq_eq_true e2
        have e3 := Nat.eq_of_beq_eq_true e3
        split at h
        ·rename_i p hp
         obtain ⟨zs, rest⟩ := p
         cases e5 : zs.all cellOk with
         | false => simp only [e5, Bool.not_false, cond_true] at h; exact (no_bad h).elim
         | true =>
           simp only [e5, Bool.not_true, cond_false] at h
           obtain ⟨⟨h1, h2, h3, h4⟩, h⟩ := sat_need h
           obtain ⟨z', hty, h⟩ := sat_typed h
           exact m_app_lit_row hI hx hb h1 hy hb' e3 (beq_ne e4) hp e5 h2 h3 hty h4 h hr hfr
        ·exact (no_bad h).elim
     ·exact (no_bad h).elim
    ·exact (no_bad h).elim
   ·exact (no_bad h).elim
  ·exact (no_bad h).elim
 ·exact MD.x (m_callm ho hcal h hr hfr (hmo.more hcm)) hmo
 ·have hnl := hmo.nol hcm
  simp only [mop] at h
  split at h
  ·rename_i b j hx
   split at h
   ·rename_i sz cs hb
    exact MD.x (sto_ptr_tree ho hn h0 hx hb h hr hfr) hmo
   ·exact (no_bad h).elim
  ·rename_i b i j hx
   split at h
   ·rename_i α sz enc xs hb
    split at h
    ·rename_i p hp
     obtain ⟨ys, rest⟩ := p
     cases e : (Nat.beq ys.length n && Nat.ble (j + n) sz && ys.all cellOk) with
     | false => simp only [e, cond_false] at h; exact (no_bad h).elim
     | true =>
       simp only [e, cond_true] at h
       obtain ⟨e1, e3⟩ := and3 e
       obtain ⟨e1, e2⟩ := and3 e1
       obtain ⟨z, hz, h⟩ := sat_idx h
       obtain ⟨z', hty, h⟩ := sat_typed h
       rw [hcm]
       exact m_stoc ho hn h0 hx hb hp (Nat.eq_of_beq_eq_true e1) (Nat.le_of_ble_eq_true e2) hz (expL_cellOk _ _ _ _ hp e3) hty h hr hfr hnl
    ·exact (no_bad h).elim
   ·exact (no_bad h).elim
  ·exact (no_bad h).elim
 ·exact MD.x (m_callp ho hcal h hr hfr) hmo
 ·rw [hcm]
  exact m_calln ho hcal h hr hfr (hmo.nol hcm)
 ·refine MD.x ?_ hmo
  simp only [mop] at h
  split at h
  ·rename_i b off n k j b' off' n' hx hi hy
   split at h
   ·rename_i α z enc xs z' cs hbx hby
    cases e : (kindEq k .i64 && Nat.beq z' z && Nat.beq cs.length z && Nat.blt 0 z && Nat.blt z 99 && cs.all flatS && !(Nat.beq b' b)) with
    | false => rw [e, cond_false] at h; exact (no_bad h).elim
    | true =>
      rw [e, cond_true] at h
      obtain ⟨e0, e7⟩ := and3 e
      obtain ⟨e0, e6⟩ := and3 e0
      obtain ⟨e0, e5⟩ := and3 e0
      obtain ⟨e0, e4⟩ := and3 e0
      obtain ⟨e0, e3⟩ := and3 e0
      obtain ⟨e1, e2⟩ := and3 e0
      obtain rfl := Nat.eq_of_beq_eq_true e2
      obtain ⟨h1, h⟩ := sat_need h
      obtain ⟨z', hty, h⟩ := sat_typed h
      cases h with
      | ins hF h =>
        exact m_ins ho hcal ha hx hi hy hbx hby (by cases k <;> first | rfl | cases e1) (Nat.eq_of_beq_eq_true e3) (Nat.le_of_ble_eq_true e4) (Nat.le_of_ble_eq_true e5) e6 (beq_ne e7) h1 hty hF h hr hfr
   ·exact (no_bad h).elim
  ·exact (no_bad h).elim
 ·refine MD.x ?_ hmo
  simp only [mop] at h
  have none_ : (ev s.tm x = .nil ∨ ev s.tm x = .emp) → Sat P Q As (K (.tup []) s) → MD P Q As o s nid K w0 N a w := fun hx h => by
   obtain ⟨at_, FP, hh⟩ := hr
   obtain ⟨A, hxv⟩ : ∃ A, a.eval x = .slice A 0 0 := by
    have h1 := hh.ev x
    rcases hx with e | e <;> rw [e] at h1
    ·exact ⟨none, h1.nil_inv⟩
    ·exact h1.emp_inv
   exact .inl ⟨_, w, .inl (clear_none ho hcal ht ha hu hxv), .tup [], s, h, rfl, fun b k hb => by have := hfr b k hb; omega, at_, FP, hh, .tup rfl (fun i y hy => by simp at hy)⟩
  split at h
  ·rename_i hx
   exact none_ (.inl hx) h
  ·rename_i hx
   exact none_ (.inr hx) h
  ·rename_i b off n hx
   split at h
   ·rename_i α z enc xs fx hb
    cases e : (Nat.beq z zs.length && (zs.map ofVal).all flatS) with
    | false => rw [e, cond_false] at h; exact (no_bad h).elim
    | true =>
      rw [e, cond_true] at h
      obtain ⟨e1, e2⟩ := and3 e
      obtain rfl := Nat.eq_of_beq_eq_true e1
      obtain ⟨h1, h⟩ := sat_need h
      obtain ⟨z', hty, h⟩ := sat_typed h
      exact m_clr ho hcal ht ha hu hz rfl hzp hx hb e2 h1 hty h hr hfr
   ·exact (no_bad h).elim
  ·exact (no_bad h).elim
theorem sat_may {p : Unit → Prop} {c d : Unit → Tree} (h : Sat P Q As (.may p c d)) : (p () → Sat P Q As (c ())) ∧ Sat P Q As (d ()) := by
 cases h with
 | may h1 h2 => exact ⟨h1, h2⟩
theorem comp_nbin0 {m : MOp} {tm : List (Nat × AV)} {st : List (Nat × Blk)} {K : AV → List (Nat × Blk) → Tree} {w0 : Base} [TbOk P w0] {w : World} {N : Nat} {a : Act} {st' : Nat → Option Blk} (hc : compOp0 P mu o.op = some m) (hm : isNbin m = true) (h : Sat P Q As (qop m tm st nid K))
 (hr : Rel w0 N tm st' a w) :
 Does P o a w (fun u w' => ∃ v, Sat P Q As (K v []) ∧ ∃ at_ FP, Here w0 N tm st' a w' at_ FP ∧ Loc ⟨w0, w', at_, st'⟩ v u) := by
 have key : ∃ op t e x y t', o.op = .binOp op t x y t' ∧ P.underlying t = some (.slice e) ∧ m = .nbin op x y := by
  cases ho : o.op with
  | binOp op t x y t' =>
    simp only [ho, compOp0] at hc
    split at hc
    ·rw [Option.bind_eq_some_iff] at hc
     obtain ⟨ks, _, hc⟩ := hc
     split at hc <;> first | (cases hc; cases hm) | cases hc
    ·split at hc <;> first | (cases hc; cases hm; done) | (cases hc; done)
    ·cases hc; cases hm
    ·cases hc; cases hm
    ·rename_i e hu
     cases hc
     exact ⟨op, t, e, x, y, t', rfl, hu, rfl⟩
    ·cases hc
  | call c =>
    simp only [ho, compOp0] at hc
    split at hc
    ·split at hc
     ·split at hc <;> first | (cases hc; cases hm; done) | (cases hc; done)
     ·cases hc
    ·split at hc
     ·split at hc <;> first | (cases hc; cases hm; done) | (cases hc; done)
     ·cases hc
    ·split at hc
     ·simp only [Option.bind_eq_some_iff] at hc
      obtain ⟨_, _, _, _, hc⟩ := hc
      split at hc <;> first | (cases hc; cases hm; done) | (cases hc; done)
     ·cases hc
    ·split at hc <;> first | (cases hc; cases hm; done) | (cases hc; done)
    ·split at hc <;> first | (cases hc; cases hm; done) | (cases hc; done)
    ·split at hc
     ·simp only [Option.bind_eq_some_iff] at hc
      obtain ⟨_, _, _, _, _, _, hc⟩ := hc
      split at hc
      ·split at hc <;> first | (cases hc; cases hm; done) | (cases hc; done)
      ·cases hc
     ·cases hc
    ·split at hc
     ·cases hc; cases hm
     ·split at hc
      ·split at hc <;> first | (cases hc; cases hm; done) | (cases hc; done)
      ·split at hc
       ·split at hc <;> first | (cases hc; cases hm; done) | (cases hc; done)
       ·split at hc
        ·split at hc <;> first | (cases hc; cases hm; done) | (cases hc; done)
        ·cases hc; cases hm
    ·cases hc; cases hm
    ·cases hc
  | unOp u t x => cases u <;> simp only [ho, compOp0, Option.some.injEq] at hc <;> first | (cases hc; done) | (subst hc; cases hm)
  | store t x y =>
    simp only [ho, compOp0, Option.bind_eq_some_iff] at hc
    obtain ⟨n, hn, hc⟩ := hc
    split at hc
    ·cases hc
    ·split at hc <;> first | (cases hc; cases hm; done) | (cases hc; done)
  | load t x =>
    simp only [ho, compOp0, Option.bind_eq_some_iff] at hc
    obtain ⟨n, hn, g, hg, hc⟩ := hc
    split at hc
    ·cases hc
    ·split at hc <;> first | (cases hc; cases hm; done) | (cases hc; done)
  | makeFunc f first caps =>
    cases f <;> simp only [ho, compOp0] at hc <;> first | (cases hc; done) | (split at hc <;> first | (cases hc; cases hm) | cases hc)
  | _ =>
    simp only [ho, compOp0] at hc
    first
     | (cases hc; done)
     | (simp only [Option.some.injEq] at hc; subst hc; cases hm; done)
     | (simp only [Option.map_eq_some_iff] at hc; obtain ⟨_, _, rfl⟩ := hc; cases hm; done)
     | (simp only [Option.bind_eq_some_iff, Option.map_eq_some_iff] at hc; obtain ⟨_, _, _, _, rfl⟩ := hc; cases hm; done)
     | (simp only [Option.bind_eq_some_iff] at hc; obtain ⟨_, _, hc⟩ := hc; split at hc <;> first | (cases hc; cases hm; done) | (cases hc; done))
     | (simp only [Option.bind_eq_some_iff] at hc; obtain ⟨_, _, _, _, hc⟩ := hc; split at hc <;> first | (cases hc; cases hm; done) | (cases hc; done))
     | (simp only [Option.bind_eq_some_iff] at hc; obtain ⟨_, _, _, _, _, _, hc⟩ := hc; split at hc <;> first | (cases hc; cases hm; done) | (cases hc; done))
     | (split at hc <;> first
         | (cases hc; cases hm; done)
         | (cases hc; done)
         | (split at hc <;> first | (cases hc; cases hm; done) | (cases hc; done))
         | (simp only [Option.map_eq_some_iff] at hc; obtain ⟨_, _, rfl⟩ := hc; cases hm; done)
         | (split at hc <;> first | (cases hc; done) | (simp only [Option.map_eq_some_iff] at hc; obtain ⟨_, _, rfl⟩ := hc; cases hm; done))
         | (simp only [Option.bind_eq_some_iff, Option.map_eq_some_iff] at hc; obtain ⟨_, _, _, _, _, _, rfl⟩ := hc; cases hm; done)
         | (simp only [Option.bind_eq_some_iff, Option.some.injEq] at hc; obtain ⟨_, _, _, _, rfl⟩ := hc; cases hm; done))
 obtain ⟨op, t, e, x, y, t', ho, hu, rfl⟩ := key
 obtain ⟨at_, FP, hh⟩ := hr
 have fin : ∀ p : Unit → Prop, nilP (ev tm x) = some p → ev tm y = .nil → Sat P Q As (nilT op p K) → Does P o a w (fun u w' => ∃ v, Sat P Q As (K v []) ∧ ∃ at_ FP, Here w0 N tm st' a w' at_ FP ∧ Loc ⟨w0, w', at_, st'⟩ v u) := by
  intro p hp hy h
  have h2 := hh.ev y
  rw [hy] at h2
  unfold nilT at h
  split at h
  ·obtain ⟨r, hr, hrun⟩ := nbin_run ho (.inl rfl) hu hh (hh.ev x) hp h2.nil_inv
   obtain ⟨h3, h4⟩ := sat_may h
   refine .inl ⟨_, w, .inl hrun, ?_⟩
   simp only [if_true]
   cases r with
   | true => exact ⟨_, h3 (hr rfl), at_, FP, hh, .bo _⟩
   | false => exact ⟨_, h4, at_, FP, hh, .bo _⟩
  ·obtain ⟨r, hr, hrun⟩ := nbin_run ho (.inr rfl) hu hh (hh.ev x) hp h2.nil_inv
   obtain ⟨h3, h4⟩ := sat_may h
   refine .inl ⟨_, w, .inl hrun, ?_⟩
   simp only [reduceCtorEq, if_false]
   cases r with
   | true => exact ⟨_, h3 (hr rfl), at_, FP, hh, .bo _⟩
   | false => exact ⟨_, h4, at_, FP, hh, .bo _⟩
  ·exact (no_bad h).elim
 simp only [qop] at h
 split at h
 ·rename_i hx hy
  have h1 := hh.ev x
  rw [hx] at h1
  have h2 := hh.ev y
  rw [hy] at h2
  split at h
  ·exact .inl ⟨_, w, .inl (by simp [execOp, ho, h1.nil_inv, h2.nil_inv, eqGuard, binOp, equal_nil hu]), _, h, at_, FP, hh, .bo _⟩
  ·exact .inl ⟨_, w, .inl (by simp [execOp, ho, h1.nil_inv, h2.nil_inv, eqGuard, binOp, equal_nil hu]), _, h, at_, FP, hh, .bo _⟩
  ·exact (no_bad h).elim
 ·rename_i hx hy
  exact fin _ (by rw [hx]; rfl) hy h
 ·rename_i hx hy
  exact fin _ (by rw [hx]; rfl) hy h
 ·rename_i hx hy
  exact fin _ (by rw [hx]; rfl) hy h
 ·exact (no_bad h).elim
theorem comp_mut {m : MOp} {s : St} {K : AV → St → Tree} {w0 : Base} [TbOk P w0] {w : World} {N : Nat} {a : Act} (hc : compOp P mu o.op = some m) (hm : isMut m = true) (h : Sat P Q As (mop m s nid K))
 (hr : Rel w0 N s.tm (fun b => look b s.st) a w) (hfr : ∀ b k, look b s.st = some k → b < nid) (hmo : ModeOk (cm mu) w0) : MDX (cm mu) P Q As o s nid K w0 N a w := by
 rcases compOp_of hc with hc | rfl
 ·exact comp_mut0 hc hm h hr hfr hmo
 ·cases hm
theorem comp_nbin {m : MOp} {tm : List (Nat × AV)} {st : List (Nat × Blk)} {K : AV → List (Nat × Blk) → Tree} {w0 : Base} [TbOk P w0] {w : World} {N : Nat} {a : Act} {st' : Nat → Option Blk} (hc : compOp P mu o.op = some m) (hm : isNbin m = true) (h : Sat P Q As (qop m tm st nid K))
 (hr : Rel w0 N tm st' a w) :
 Does P o a w (fun u w' => ∃ v, Sat P Q As (K v []) ∧ ∃ at_ FP, Here w0 N tm st' a w' at_ FP ∧ Loc ⟨w0, w', at_, st'⟩ v u) := by
 rcases compOp_of hc with hc | rfl
 ·exact comp_nbin0 hc hm h hr
 ·cases hm
end
end Go.V
namespace Go.V
open Go Go.RowKit
def qapp (h : List Nat) : MOp → MOp
 | .app x y a b => bif memN 1000000 h then .appn x y a b else .app x y a b
 | .ldc x n g => bif memN 2000000 h then .ldc x n g else .ld x n g
 | m => m
structure AppzInfo (P : Program) (o : Oper) (x y : Operand) (size bytes : Nat) (zs : List Value) : Prop where
 ok : ∃ c t tn e i z k, o.op = .call c ∧ c.callee = .builtin .append ∧ c.argTypes = #[t, tn] ∧ c.args = #[x, y] ∧ P.underlying t = some (.slice e) ∧ P.underlying tn = some (.int k) ∧ P.info? e = some i ∧ i.zero = some z ∧ i.size = size ∧ i.bytes = bytes ∧ z.cells.toList = zs ∧ zs.length = size ∧ 0 < size ∧ 0 < bytes
def appz? (P : Program) : Op → Option MOp
 | .call c => match c.callee with
   | .builtin .append => match c.argTypes.toList, c.args.toList with
     | [t, u], [x, y] => match P.underlying u with
       | some (.int _) => (elem? P t).bind fun e => (P.info? e).bind fun i => (zero? P e).bind fun zs => if zs.length = i.size ∧ 0 < i.size ∧ 0 < i.bytes then some (.appz x y i.size i.bytes zs) else none
       | _ => none
     | _, _ => none
   | _ => none
 | _ => none
theorem appz_info {P : Program} {o : Oper} {m : MOp} (h : appz? P o.op = some m) : ∃ x y size bytes zs, AppzInfo P o x y size bytes zs ∧ m = .appz x y size bytes zs := by
 unfold appz? at h
 split at h
 ·rename_i c ho
  split at h
  ·rename_i hc
   split at h
   ·rename_i t u x y ht ha
    split at h
    ·rename_i k hu
     simp only [Option.bind_eq_some_iff] at h
     obtain ⟨e, he, i, hi, zs, hz, h⟩ := h
     split at h
     ·rename_i hh
      cases h
      refine ⟨x, y, i.size, i.bytes, zs, ⟨?_⟩, rfl⟩
      unfold zero? at hz
      rw [hi, Option.bind_some, Option.map_eq_some_iff] at hz
      obtain ⟨z, hz, hzs⟩ := hz
      exact ⟨c, t, u, e, i, z, k, ho, hc, Array.ext' ht, Array.ext' ha, elem_slice he, hu, hi, hz, rfl, rfl, hzs, hh.1, hh.2.1, hh.2.2⟩
     ·cases h
    ·cases h
   ·cases h
  ·cases h
 ·cases h
def Cop (P : Program) (mu : Nat → Bool) (o : Oper) (m : MOp) : Prop := compOp P mu o.op = some m ∨ (∃ x y a b, compOp P mu o.op = some (.app x y a b) ∧ m = .appn x y a b) ∨ (∃ x y size bytes zs, AppzInfo P o x y size bytes zs ∧ m = .appz x y size bytes zs) ∨ ∃ x n g, compOp P mu o.op = some (.ldc x n g) ∧ m = .ld x n g
def compX (P : Program) (mu : Nat → Bool) (h : List Nat) (o : Op) : Option MOp := match appz? P o with
 | some m => some m
 | none => (compOp P mu o).map (qapp h)
theorem cop_qapp {P : Program} {mu : Nat → Bool} {o : Oper} {m : MOp} {h : List Nat} (hc : compOp P mu o.op = some m) : Cop P mu o (qapp h m) := by
 cases m <;> first | exact .inl hc | skip
 ·rename_i x y a b
  rw [qapp]
  cases memN 1000000 h with
  | true => exact .inr (.inl ⟨x, y, a, b, hc, rfl⟩)
  | false => exact .inl hc
 ·rename_i x n g
  rw [qapp]
  cases memN 2000000 h with
  | true => exact .inl hc
  | false => exact .inr (.inr (.inr ⟨x, n, g, hc, rfl⟩))
theorem cop_of {P : Program} {mu : Nat → Bool} {o : Oper} {m : MOp} {h : List Nat} (hc : compX P mu h o.op = some m) : Cop P mu o m := by
 unfold compX at hc
 split at hc
 ·rename_i m' e
  cases hc
  exact .inr (.inr (.inl (appz_info e)))
 ·rw [Option.map_eq_some_iff] at hc
  obtain ⟨m', e, rfl⟩ := hc
  exact cop_qapp e
section
variable {P : Program} {Q : AV → Prop} {As : List (St → Prop)} {mu : Nat → Bool} {tm : List (Nat × AV)} {st : List (Nat × Blk)} {nid : Nat} {K : AV → List (Nat × Blk) → Tree} {o : Oper}
theorem app_mem {x y : Operand} {size bytes : Nat} (hI : AppInfo P o x y size bytes) : x ∈ o.op.operands.toList ∧ y ∈ o.op.operands.toList := by
 obtain ⟨c, t, tx, e, e', i, z, h1, h2, h3, h4, _⟩ := hI.ok
 constructor <;> simp [h1, Op.operands, Go.Call.operands, h2, h4]
theorem q_appn {x y : Operand} {size bytes : Nat} (hI : AppInfo P o x y size bytes) {α : Type} {enc : α → Nat → AV} {ys : Unit → List α} {m : Unit → Nat} (hx0 : ev tm x = .nil ∨ ev tm x = .emp)
 (hd : ∀ (E : Env) (FP : Nat → List Nat) (u : Value), Good E FP → (∀ b k, look b st = some k → E.st b = some k) → Loc E (ev tm y) u → m () = (ys ()).length ∧ ∃ fp, Deep E.w (.sl size enc ys) u fp)
 (hf : ∀ y ∈ ys (), ∀ j, j < size → flat (enc y j) = true) (hby : m () * bytes ≤ 140737488351232) : QOK P o tm st nid (.ref nid (fun _ => 0) m) [(nid, .row size enc ys false)] := by
 refine ⟨fun p hp => (by simp at hp; subst hp; exact ⟨Nat.le_refl _, by omega⟩), fun w0 _ N tm' st' a w hx hst hf' ⟨at_, FP, hh⟩ => ?_⟩
 obtain ⟨hmx, hmy⟩ := app_mem hI
 have hy := hh.ev y
 rw [hx y hmy] at hy
 obtain ⟨hm, fp, hdy⟩ := hd _ FP _ hh.good hst hy
 have hdy : Deep w (.sl size enc ys) (a.eval y) fp := hdy
 have hnone : st' nid = none := hf' nid (Nat.le_refl _) (by omega)
 obtain ⟨A, hxv⟩ : ∃ A, a.eval x = .slice A 0 0 := by
  have h1 := hh.ev x
  rw [hx x hmx] at h1
  rcases hx0 with e | e <;> rw [e] at h1
  ·exact ⟨none, h1.nil_inv⟩
  ·exact h1.emp_inv
 have hpick : ∃ tx e', P.underlying tx = some (.slice e') := by
  obtain ⟨c, t, tx, e, e', i, z, h1, h2, h3, h4, h5, h6, _⟩ := hI.ok
  exact ⟨tx, e', h6⟩
 obtain ⟨tx0, e0, hk0⟩ := hpick
 obtain ⟨news, hs0, hel⟩ := deep_src hdy hk0 hf
 have hsrc : ∀ tx e', P.underlying tx = some (.slice e') → Src P size tx (a.eval y) (ys ()).length news w := fun tx e' hk => ⟨.inl ⟨e', hk⟩, hs0.len, hs0.cells, hs0.cellsD, hs0.newsLen, hs0.one⟩
 obtain ⟨u, w', e, hrun, hg⟩ := app_does (m := (ys ()).length) (olds := []) hI hxv (Nat.le_refl 0) hsrc (by simp) (fun j u hj => by simp at hj) (fun h => absurd h (Nat.lt_irrefl 0)) (by rw [Nat.zero_add, ← hm]; exact hby)
 obtain ⟨at', FP', hh2, hl2⟩ := app_rebuild (b := nid) (sz := size) (enc := enc) (os := []) (ns := ys ()) (F := fun _ _ => []) (G := fun _ _ => []) (gone := fun _ => false) (st' := addAll [(nid, .row size enc ys false)] st') (place := none) (len := m) hh hg ⟨by simp, fun p x hx => by simp at hx⟩ hel
  (fun c hc => by
    have e : Nat.beq nid c = false := by
     cases e : Nat.beq nid c with
     | false => rfl
     | true => exact absurd (Nat.eq_of_beq_eq_true e).symm hc
    simp only [addAll, look, e, cond_false]
    rw [if_neg (fun h => by cases h), show scrubK (fun _ => false) = id from funext scrubK_id]
    cases st' c <;> rfl)
  (by simp only [addAll, look, beq_self, cond_true]; rfl) (.inr hnone) (by rw [hm]; simp) (fun _ => ⟨rfl, rfl⟩) (fun g base h => by cases h) (flat_nodup (fun p hp => by rw [show ((List.range size).flatMap (both ([] : List α).length (fun _ _ => []) (fun _ _ => []) p)) = [] from by simp [both]]; exact List.nodup_nil) (fun p q _ _ _ v hv => by simp [both] at hv))
  (fun p q _ _ v hv => by simp [both] at hv) (fun c k hq _ => ⟨fun e => (by subst e; rw [hnone] at hq; cases hq), rfl⟩)
 exact .inl ⟨u, w', .inl hrun, at', FP', hh2.congr (fun t => scrubT_id) (fun _ => rfl), hl2⟩
theorem q_appn_none {x y : Operand} {size bytes : Nat} (hI : AppInfo P o x y size bytes) (hx0 : ev tm x = .nil ∨ ev tm x = .emp) (hy0 : ev tm y = .nil ∨ ev tm y = .emp) : QOK P o tm st nid (ev tm x) [] := by
 obtain ⟨hmx, hmy⟩ := app_mem hI
 refine QOK.pure (fun w0 N tm' st' a w at_ FP hx hst hh => ?_)
 have h1 := hh.ev x
 rw [hx x hmx] at h1
 have h2 := hh.ev y
 rw [hx y hmy] at h2
 obtain ⟨A, hxv⟩ : ∃ A, a.eval x = .slice A 0 0 := by
  rcases hx0 with e | e <;> rw [e] at h1
  ·exact ⟨none, h1.nil_inv⟩
  ·exact h1.emp_inv
 obtain ⟨B, hyv⟩ : ∃ B, a.eval y = .slice B 0 0 := by
  rcases hy0 with e | e <;> rw [e] at h2
  ·exact ⟨none, h2.nil_inv⟩
  ·exact h2.emp_inv
 obtain ⟨c, t, tx, e, e', i, z, h3, h4, h5, h6, h7, h8, h9, h10, h11, _⟩ := hI.ok
 have hrun := app_zero (ty := o.type) (A := A) (n := 0) (cap := 0) h7 h9 h11 (Nat.le_refl 0) (src_zero (w := w) h8 B)
 exact ⟨_, app_op h3 h4 h5 h6 (by rw [hxv, hyv]; exact hrun), by rw [← hxv]; exact h1⟩
theorem d_appn {x y : Operand} {size bytes : Nat} (hI : AppInfo P o x y size bytes) (h : Sat P Q As (qop (.appn x y size bytes) tm st nid K)) : QD P Q As o tm st nid K := by
 simp only [qop] at h
 have go : (ev tm x = .nil ∨ ev tm x = .emp) → Sat P Q As (match ev tm y with
  | .nil => K (ev tm x) []
  | .emp => K (ev tm x) []
  | .sl z enc ys => bif Nat.beq z size then .need (fun _ => (∀ y ∈ ys (), ∀ j, j < z → flat (enc y j) = true) ∧ (ys ()).length * bytes ≤ 140737488351232) (fun _ => K (.ref nid (fun _ => 0) (fun _ => (ys ()).length)) [(nid, .row z enc ys false)]) else .bad 118
  | .ref b off n => match look b st with
    | some (.row z enc xs _) => bif Nat.beq z size then .need (fun _ => (∀ y ∈ xs (), ∀ j, j < z → flat (enc y j) = true) ∧ n () * bytes ≤ 140737488351232) (fun _ => K (.ref nid (fun _ => 0) n) [(nid, .row z enc (fun _ => ((xs ()).drop (off ())).take (n ())) false)]) else .bad 119
    | _ => .bad 120
  | _ => .bad 121) → QD P Q As o tm st nid K := by
  clear h
  intro hx h
  split at h
  ·rename_i hy
   exact ⟨_, _, q_appn_none hI hx (.inl hy), h⟩
  ·rename_i hy
   exact ⟨_, _, q_appn_none hI hx (.inr hy), h⟩
  ·rename_i α z enc ys hy
   cases e : Nat.beq z size with
   | false => rw [e, cond_false] at h; exact (no_bad h).elim
   | true =>
     rw [e, cond_true] at h
     obtain rfl := Nat.eq_of_beq_eq_true e
     obtain ⟨⟨h1, h2⟩, h⟩ := sat_need h
     exact ⟨_, _, q_appn hI hx (fun E FP u hG hst hl => by
      rw [hy] at hl
      cases hl with
      | sl hd => exact ⟨rfl, _, hd.under hG.below⟩) h1 h2, h⟩
  ·rename_i b off n hy
   split at h
   ·rename_i α z enc xs fx hb
    cases e : Nat.beq z size with
    | false => rw [e, cond_false] at h; exact (no_bad h).elim
    | true =>
      rw [e, cond_true] at h
      obtain rfl := Nat.eq_of_beq_eq_true e
      obtain ⟨⟨h1, h2⟩, h⟩ := sat_need h
      exact ⟨_, _, q_appn hI hx (fun E FP u hG hst hl => by
       rw [hy] at hl
       obtain ⟨fp, hd, _⟩ := ref_deep hG (hst _ _ hb) hl
       obtain ⟨_, _, _, _, hle, _⟩ := ref_row hG (hst _ _ hb) hl
       exact ⟨by rw [List.length_take, List.length_drop]; omega, fp, hd⟩) (fun y hy j hj => h1 y (List.mem_of_mem_drop (List.mem_of_mem_take hy)) j hj) h2, h⟩
   ·exact (no_bad h).elim
  ·exact (no_bad h).elim
 split at h
 ·rename_i hx
  exact go (.inl hx) h
 ·rename_i hx
  exact go (.inr hx) h
 ·exact (no_bad h).elim
theorem q_appz {x y : Operand} {size bytes : Nat} {zs : List Value} (hI : AppzInfo P o x y size bytes zs) {α : Type} {enc : α → Nat → AV} {z : α} {k : IntKind} {p : Unit → Int} (hx0 : ev tm x = .nil) (hy0 : ev tm y = .int k p) (hp : 0 < p ()) (hby : p () * bytes ≤ 140737488351232)
 (hfl : (zs.map ofVal).all flat = true) (hty : ∀ (j : Nat) (x : AV), (zs.map ofVal)[j]? = some x → LeD x (enc z j)) : QOK P o tm st nid (.ref nid (fun _ => 0) (fun _ => (p ()).toNat)) [(nid, .row size enc (fun _ => List.replicate (p ()).toNat z) false)] := by
 refine ⟨fun p hp => (by simp at hp; subst hp; exact ⟨Nat.le_refl _, by omega⟩), fun w0 _ N tm' st' a w hx hst hf' ⟨at_, FP, hh⟩ => ?_⟩
 obtain ⟨c, t, tn, e, i, zv, kn, ho, hc, hts, has, hu, hun, hi, hz, rfl, rfl, rfl, hzl, h0, hb⟩ := hI.ok
 have h1 := hh.ev x
 rw [hx x (by simp [ho, Op.operands, Go.Call.operands, hc, has]), hx0] at h1
 have h2 := hh.ev y
 rw [hx y (by simp [ho, Op.operands, Go.Call.operands, hc, has]), hy0] at h2
 have hnone : st' nid = none := hf' nid (Nat.le_refl _) (by omega)
 generalize hn : (p ()).toNat = n
 have hpn : p () = (n : Int) := by omega
 have hsz' : n * i.bytes ≤ 140737488351232 := by
  have : ((n * i.bytes : Nat) : Int) = p () * i.bytes := by rw [hpn, Int.natCast_mul]
  omega
 have hnn : n ≤ n * i.bytes := Nat.le_mul_of_pos_right _ hb
 have hzs : zv.cells.size = i.size := by simpa using hzl
 obtain ⟨fs, fg⟩ := fresh_cells (len := n) hzs h0
 have fs' : (Builtin.zeroCells zv.cells n).size = n * i.size := by unfold Builtin.zeroCells; rw [hzs] at fs ⊢; exact fs
 have fg' : ∀ q, q < n * i.size → (Builtin.zeroCells zv.cells n)[q]? = zv.cells[q % i.size]? := fun q hq => by
  have := fg q hq
  unfold Builtin.zeroCells
  rw [hzs] at this ⊢
  exact this
 have hrun := Lib.run_append_nil_zeros (P := P) w t tn o.type e i zv k kn hu hun hi hz n (by omega) h0 (by omega) (by omega)
 have hop : (execOp a.eval o).run P w = .ok (.value (.slice (some ⟨w.heap.size, 0, none⟩) n (grownCap w n 0 e))) (w.drew.alloc (.cells (Builtin.zeroCells zv.cells n ++ Builtin.zeroCells zv.cells (grownCap w n 0 e - n)) e)) := by
  simp only [execOp, ho, resolve, hc, has, hts, Sem.run_bind, Sem.run_pure, Result.andThen_ok, invoke, builtin, List.map_toArray, List.map_cons, List.map_nil, h1.nil_inv, h2.int_inv, hpn, hrun]
 have hge := grownCap_ge w n 0 e
 have hg : Grown w e i.size none ([] : List α).length 0 (List.replicate n z).length [] (Builtin.zeroCells zv.cells n).toList (.slice (some ⟨w.heap.size, 0, none⟩) (([] : List α).length + (List.replicate n z).length) (grownCap w n 0 e)) (w.drew.alloc (.cells (Builtin.zeroCells zv.cells n ++ Builtin.zeroCells zv.cells (grownCap w n 0 e - n)) e)) := by
  refine .grow (by rw [List.length_replicate]; omega) (by rw [List.length_replicate]; omega) (by rw [List.length_replicate, List.length_nil, Nat.zero_add]; exact hge) ?_ (fun q hq => ?_)
  ·rw [Array.size_append, fs']
   simp only [Builtin.zeroCells, Array.size_map, Array.size_range, hzs]
   rw [← Nat.add_mul]
   congr 1
   omega
  ·rw [List.length_replicate, List.length_nil, Nat.zero_add] at hq
   rw [Array.getElem?_append_left (by rw [fs']; exact hq), List.nil_append, Array.getElem?_toList]
 have hel : Elems w i.size enc (List.replicate n z) (Builtin.zeroCells zv.cells n).toList (fun _ _ => []) := ⟨by rw [Array.length_toList, fs', List.length_replicate], fun q x hq j hj => by
  have hqn := lt_of_get hq
  rw [List.length_replicate] at hqn
  have : x = z := by
   rw [List.getElem?_replicate, if_pos hqn] at hq
   exact (Option.some.inj hq).symm
  subst this
  have hlt : q * i.size + j < n * i.size := by
   have : (q + 1) * i.size ≤ n * i.size := Nat.mul_le_mul_right _ (by omega)
   rw [Nat.add_mul] at this; omega
  have hmod : (q * i.size + j) % i.size = j := by rw [Nat.mul_comm, Nat.mul_add_mod]; exact Nat.mod_eq_of_lt hj
  have hjz : j < zv.cells.size := by omega
  refine ⟨zv.cells[j], ?_, ?_⟩
  ·rw [Array.getElem?_toList, fg' _ hlt, hmod]
   exact Array.getElem?_eq_getElem hjz
  ·have hget : (zv.cells.toList.map ofVal)[j]? = some (ofVal zv.cells[j]) := by simp [hjz]
   refine (hty j _ hget).deep (ofVal_deep ?_)
   exact List.all_eq_true.1 hfl _ (List.mem_of_getElem? hget)⟩
 obtain ⟨at', FP', hh2, hl2⟩ := app_rebuild (b := nid) (sz := i.size) (enc := enc) (os := []) (ns := List.replicate n z) (F := fun _ _ => []) (G := fun _ _ => []) (gone := fun _ => false) (st' := addAll [(nid, .row i.size enc (fun _ => List.replicate n z) false)] st') (place := none) (len := fun _ => n) hh hg ⟨by simp, fun p x hx => by simp at hx⟩ hel
  (fun c hc => by
    have e : Nat.beq nid c = false := by
     cases e : Nat.beq nid c with
     | false => rfl
     | true => exact absurd (Nat.eq_of_beq_eq_true e).symm hc
    simp only [addAll, look, e, cond_false]
    rw [if_neg (fun h => by cases h), show scrubK (fun _ => false) = id from funext scrubK_id]
    cases st' c <;> rfl)
  (by simp only [addAll, look, beq_self, cond_true]; rfl) (.inr hnone) (by simp) (fun _ => ⟨rfl, rfl⟩) (fun g base h => by cases h) (flat_nodup (fun p hp => by rw [show ((List.range i.size).flatMap (both ([] : List α).length (fun _ _ => []) (fun _ _ => []) p)) = [] from by simp [both]]; exact List.nodup_nil) (fun p q _ _ _ v hv => by simp [both] at hv))
  (fun p q _ _ v hv => by simp [both] at hv) (fun c k hq _ => ⟨fun e => (by subst e; rw [hnone] at hq; cases hq), rfl⟩)
 rw [List.length_replicate, List.length_nil, Nat.zero_add] at hl2
 exact .inl ⟨_, _, .inl hop, at', FP', hh2.congr (fun t => scrubT_id) (fun _ => rfl), hl2⟩
theorem d_appz {x y : Operand} {size bytes : Nat} {zs : List Value} (hI : AppzInfo P o x y size bytes zs) (h : Sat P Q As (qop (.appz x y size bytes zs) tm st nid K)) : QD P Q As o tm st nid K := by
 simp only [qop] at h
 split at h
 ·rename_i k p hx hy
  cases hfl : (zs.map ofVal).all flat with
  | false => rw [hfl, cond_false] at h; exact (no_bad h).elim
  | true =>
    rw [hfl, cond_true] at h
    obtain ⟨hp, h⟩ := sat_need h
    obtain ⟨α, enc, z, hty, h⟩ := sat_typ h
    exact ⟨_, _, q_appz hI hx hy hp.1 hp.2 hfl hty, h⟩
 ·exact (no_bad h).elim
theorem app_info {x y : Operand} {size bytes : Nat} (hc : compOp P mu o.op = some (.app x y size bytes)) : AppInfo P o x y size bytes := by
 rcases compOp_of hc with hc | hc
 ·rcases mut_key hc rfl with ⟨_, _, _, _, _, _, _, e⟩ | ⟨x', y', s', b', hI, e⟩ | ⟨_, _, _, _, _, e⟩ | ⟨_, _, _, _, _, _, _, _, e⟩ | ⟨_, _, _, _, e⟩ | ⟨_, _, _, _, _, e⟩ | ⟨_, _, _, _, _, _, _, _, e⟩ | ⟨_, _, _, _, _, _, _, _, _, _, _, _, e⟩
  ·cases e
  ·cases e; exact hI
  ·cases e
  ·cases e
  ·cases e
  ·cases e
  ·cases e
  ·cases e
 ·cases hc
theorem ldc_key {x : Operand} {n : Nat} {g : Bool} (hc : compOp0 P mu o.op = some (.ldc x n g)) : ∃ t, o.op = .load t x ∧ sizeOf? P t = some n ∧ agg? P t = some true ∧ g = true ∧ cm mu = true := by
 cases ho : o.op with
 | load t y =>
   simp only [ho, compOp0, Option.bind_eq_some_iff] at hc
   obtain ⟨n', hn, g', hg, hc⟩ := hc
   split at hc
   ·cases hc
   ·split at hc
    ·rename_i hcm
     rw [Bool.and_eq_true] at hcm
     obtain ⟨hcm, rfl⟩ := hcm
     cases hc
     exact ⟨t, rfl, hn, hg, rfl, hcm⟩
    ·cases hc
 | store t x y =>
   simp only [ho, compOp0, Option.bind_eq_some_iff] at hc
   obtain ⟨n, hn, hc⟩ := hc
   split at hc
   ·cases hc
   ·split at hc <;> cases hc
 | call c =>
   simp only [ho, compOp0] at hc
   split at hc
   ·split at hc
    ·split at hc <;> cases hc
    ·cases hc
   ·split at hc
    ·split at hc <;> cases hc
    ·cases hc
   ·split at hc
    ·simp only [Option.bind_eq_some_iff] at hc
     obtain ⟨_, _, _, _, hc⟩ := hc
     split at hc <;> cases hc
    ·cases hc
   ·split at hc <;> cases hc
   ·split at hc <;> cases hc
   ·split at hc
    ·simp only [Option.bind_eq_some_iff] at hc
     obtain ⟨_, _, _, _, _, _, hc⟩ := hc
     split at hc
     ·split at hc <;> cases hc
     ·cases hc
    ·cases hc
   ·split at hc
    ·cases hc
    ·split at hc
     ·split at hc <;> cases hc
     ·split at hc
      ·split at hc <;> cases hc
      ·split at hc
       ·split at hc <;> cases hc
       ·cases hc
   ·cases hc
   ·cases hc
 | unOp u t x => cases u <;> simp only [ho, compOp0, Option.some.injEq] at hc <;> first | (cases hc; done) | (subst hc; done)
 | binOp op t x y t' =>
   simp only [ho, compOp0] at hc
   split at hc
   ·rw [Option.bind_eq_some_iff] at hc
    obtain ⟨ks, _, hc⟩ := hc
    split at hc <;> cases hc
   ·split at hc <;> cases hc
   ·cases hc
   ·cases hc
   ·cases hc
   ·cases hc
 | makeFunc f first caps =>
   cases f <;> simp only [ho, compOp0] at hc <;> first | (cases hc; done) | (split at hc <;> cases hc)
 | _ =>
   simp only [ho, compOp0] at hc
   first
    | (cases hc; done)
    | (simp only [Option.some.injEq] at hc; cases hc; done)
    | (simp only [Option.map_eq_some_iff] at hc; obtain ⟨_, _, hc⟩ := hc; cases hc; done)
    | (simp only [Option.bind_eq_some_iff, Option.map_eq_some_iff] at hc; obtain ⟨_, _, _, _, hc⟩ := hc; cases hc; done)
    | (simp only [Option.bind_eq_some_iff] at hc; obtain ⟨_, _, hc⟩ := hc; split at hc <;> cases hc; done)
    | (simp only [Option.bind_eq_some_iff] at hc; obtain ⟨_, _, _, _, hc⟩ := hc; split at hc <;> cases hc; done)
    | (simp only [Option.bind_eq_some_iff] at hc; obtain ⟨_, _, _, _, _, _, hc⟩ := hc; split at hc <;> cases hc; done)
    | (split at hc <;> first
        | (cases hc; done)
        | (split at hc <;> cases hc; done)
        | (simp only [Option.map_eq_some_iff] at hc; obtain ⟨_, _, hc⟩ := hc; cases hc; done)
        | (split at hc <;> first | (cases hc; done) | (simp only [Option.map_eq_some_iff] at hc; obtain ⟨_, _, hc⟩ := hc; cases hc; done))
        | (simp only [Option.bind_eq_some_iff, Option.map_eq_some_iff] at hc; obtain ⟨_, _, _, _, _, _, hc⟩ := hc; cases hc; done)
        | (simp only [Option.bind_eq_some_iff, Option.some.injEq] at hc; obtain ⟨_, _, _, _, hc⟩ := hc; cases hc; done))
theorem comp_quietC {m : MOp} (hc : Cop P mu o m) (hm : isMut m = false) (hn : isNbin m = false) (h : Sat P Q As (qop m tm st nid K)) : QDX (cm mu) P Q As o tm st nid K := by
 rcases hc with hc | ⟨x, y, a, b, hc, rfl⟩ | ⟨x, y, size, bytes, zs, hI, rfl⟩ | ⟨x, n, g, hc, rfl⟩
 ·cases hq : isLdc m with
  | false => exact (comp_quiet hc hm hn hq h).x
  | true =>
    cases m <;> first | (cases hq; done) | skip
    rename_i x n g
    rcases compOp_of hc with hc | hc
    ·obtain ⟨t, ho, hn', hg, rfl, hcm⟩ := ldc_key hc
     rw [hcm]
     simp only [qop] at h
     split at h
     ·rename_i b i j hx
      split at h
      ·rename_i α sz enc xs hb
       cases e : (Nat.ble (j + n) sz && true) with
       | false => rw [e, cond_false] at h; exact (no_bad h).elim
       | true =>
         rw [e, cond_true] at h
         obtain ⟨e1, _⟩ := and3 e
         obtain ⟨z, hz, h⟩ := sat_idx h
         exact ⟨_, _, q_ldc ho hn' hg hx hb (Nat.le_of_ble_eq_true e1) hz, h⟩
      ·exact (no_bad h).elim
     ·exact (no_bad h).elim
    ·cases hc
 ·exact (d_appn (app_info hc) h).x
 ·exact (d_appz hI h).x
 ·rcases compOp_of hc with hc | hc
  ·obtain ⟨t, ho, hn', hg, rfl, _⟩ := ldc_key hc
   exact (d_ld ho hn' hg (fun e => by cases e) h).x
  ·cases hc
theorem comp_mutC {m : MOp} {s : St} {K : AV → St → Tree} {w0 : Base} [TbOk P w0] {w : World} {N : Nat} {a : Act} (hc : Cop P mu o m) (hm : isMut m = true) (h : Sat P Q As (mop m s nid K))
 (hr : Rel w0 N s.tm (fun b => look b s.st) a w) (hfr : ∀ b k, look b s.st = some k → b < nid) (hmo : ModeOk (cm mu) w0) : MDX (cm mu) P Q As o s nid K w0 N a w := by
 rcases hc with hc | ⟨x, y, _, _, hc, rfl⟩ | ⟨x, y, _, _, _, _, rfl⟩ | ⟨_, _, _, _, rfl⟩
 ·exact comp_mut hc hm h hr hfr hmo
 ·cases hm
 ·cases hm
 ·cases hm
theorem comp_nbinC {m : MOp} {tm : List (Nat × AV)} {st : List (Nat × Blk)} {K : AV → List (Nat × Blk) → Tree} {w0 : Base} [TbOk P w0] {w : World} {N : Nat} {a : Act} {st' : Nat → Option Blk} (hc : Cop P mu o m) (hm : isNbin m = true) (h : Sat P Q As (qop m tm st nid K))
 (hr : Rel w0 N tm st' a w) :
 Does P o a w (fun u w' => ∃ v, Sat P Q As (K v []) ∧ ∃ at_ FP, Here w0 N tm st' a w' at_ FP ∧ Loc ⟨w0, w', at_, st'⟩ v u) := by
 rcases hc with hc | ⟨x, y, _, _, hc, rfl⟩ | ⟨x, y, _, _, _, _, rfl⟩ | ⟨_, _, _, _, rfl⟩
 ·exact comp_nbin hc hm h hr
 ·cases hm
 ·cases hm
 ·cases hm
end
end Go.V
namespace Go.V
open Go Go.RowKit
def compGd (ops : Array Oper) (N : Nat) : Option (Nat × Bool) → Option (Option (Nat × Bool))
 | none => some none
 | some (g, want) => match (ops[g]?).bind (·.dst) with
   | some d => if d < N then some (some (d, want)) else none
   | none => none
def compO (P : Program) (mu : Nat → Bool) (ops : Array Oper) (N : Nat) (o : Oper) (h : List Nat) : Option MOper :=
 (compX P mu h o.op).bind fun m => (compGd ops N o.guard).bind fun gd => match o.dst with
   | none => some ⟨none, m, gd, h⟩
   | some d => if d < N then some ⟨some d, m, gd, h⟩ else none
def compOps (P : Program) (mu : Nat → Bool) (ops : Array Oper) (N : Nat) : List Oper → List (List Nat) → Option (List MOper)
 | [], _ => some []
 | o :: r, hs => (compO P mu ops N o (hs.headD [])).bind fun m => (compOps P mu ops N r hs.tail).map fun l => m :: l
section
variable {P : Program} {Q : AV → Prop} {As : List (St → Prop)} {mu : Nat → Bool} {N nx : Nat} {ops : Array Oper} {w0 : Base} {w : World} {a : Act}
structure CompO (P : Program) (mu : Nat → Bool) (ops : Array Oper) (N : Nat) (o : Oper) (m : MOper) : Prop where
 op : Cop P mu o m.op
 dst : o.dst = m.dst
 lt : ∀ d, o.dst = some d → d < N
 gd : ∀ d want, m.gd = some (d, want) → ∃ g, o.guard = some (g, want) ∧ (ops[g]?).bind (·.dst) = some d ∧ d < N
 gd0 : m.gd = none → o.guard = none
theorem compO_spec {o : Oper} {h : List Nat} {m : MOper} (hc : compO P mu ops N o h = some m) : CompO P mu ops N o m := by
 unfold compO at hc
 simp only [Option.bind_eq_some_iff] at hc
 obtain ⟨mm, h1, gd, h2, hc⟩ := hc
 have hg : (∀ d want, gd = some (d, want) → ∃ g, o.guard = some (g, want) ∧ (ops[g]?).bind (·.dst) = some d ∧ d < N) ∧ (gd = none → o.guard = none) := by
  unfold compGd at h2
  split at h2
  ·rename_i hg
   cases h2
   exact ⟨fun d want h => (by cases h), fun _ => hg⟩
  ·rename_i g want hg
   split at h2
   ·rename_i d hd
    split at h2
    ·cases h2
     refine ⟨fun d' want' h => ?_, fun h => by cases h⟩
     cases h
     exact ⟨g, hg, hd, ‹_›⟩
    ·cases h2
   ·cases h2
 split at hc
 ·rename_i hd
  cases hc
  exact ⟨cop_of h1, hd, fun d h => (by rw [hd] at h; cases h), hg.1, hg.2⟩
 ·rename_i d hd
  split at hc
  ·cases hc
   exact ⟨cop_of h1, hd, fun d' h => (by rw [hd] at h; cases h; assumption), hg.1, hg.2⟩
  ·cases hc
theorem guard_run {tm : List (Nat × AV)} {st : Nat → Option Blk} {at_ : Nat → Option (Nat × Nat)} {FP : Nat → List Nat} (hh : Here w0 N tm st a w at_ FP) {o : Oper} {m : MOper} (hc : CompO P mu ops N o m) {d : Nat} {want : Bool} (hg : m.gd = some (d, want)) :
 (∀ b, slot d tm = .bo b → Region.wanted o (yielded ops a.tmps) = (b == want)) ∧ (slot d tm = .undef → Region.wanted o (yielded ops a.tmps) = false) := by
 obtain ⟨g, h1, h2, h3⟩ := hc.gd d want hg
 have hl := hh.loc d
 have hd : a.tmps[d]? = some (a.tmps.getD d Go.undef) := by
  have : d < a.tmps.size := by rw [hh.size]; exact h3
  simp [Array.getD, this]
 refine ⟨fun b hb => ?_, fun hb => ?_⟩
 ·rw [hb] at hl
  have := hl.bo_inv
  rw [this] at hd
  simp [Region.wanted, h1, yielded, h2, hd]
 ·rw [hb] at hl
  have := hl.undef_inv
  rw [this] at hd
  simp [Region.wanted, h1, yielded, h2, hd, Go.undef]
theorem guard_none {o : Oper} {m : MOper} (hc : CompO P mu ops N o m) (hg : m.gd = none) (y : Nat → Option Bool) : Region.wanted o y = true := by
 simp [Region.wanted, hc.gd0 hg]
def hid (nx : Nat) (h : List Nat) (st : List (Nat × Blk)) : List (Nat × Blk) := match h with | [] => st | h => hidden nx h st
theorem look_hidden {h : List Nat} {b : Nat} : ∀ {st : List (Nat × Blk)}, look b (hidden nx h st) = bif Nat.blt b nx then look b st else bif memN ((b - nx) / 16) h then none else look b st
 | [] => by
   cases h1 : Nat.blt b nx <;> cases h2 : memN ((b - nx) / 16) h <;> simp [hidden, look]
 | p :: r => by
   rw [hidden]
   cases h1 : Nat.blt p.1 nx with
   | true =>
     rw [cond_true, look, look_hidden (st := r)]
     cases e : Nat.beq p.1 b with
     | true =>
       have := Nat.eq_of_beq_eq_true e
       subst this
       rw [h1]
       simp [look, beq_self]
     | false => simp [look, e]
   | false =>
     rw [cond_false]
     cases h2 : memN ((p.1 - nx) / 16) h with
     | true =>
       rw [cond_true, look_hidden (st := r)]
       cases e : Nat.beq p.1 b with
       | true =>
         have := Nat.eq_of_beq_eq_true e
         subst this
         rw [h1, h2]
         simp
       | false => simp [look, e]
     | false =>
       rw [cond_false, look, look_hidden (st := r)]
       cases e : Nat.beq p.1 b with
       | true =>
         have := Nat.eq_of_beq_eq_true e
         subst this
         rw [h1, h2]
         simp [look, beq_self]
       | false => simp [look, e]
theorem hid_look {h : List Nat} {st : List (Nat × Blk)} {b : Nat} {k : Blk} (hk : look b (hid nx h st) = some k) : look b st = some k := by
 unfold hid at hk
 split at hk
 ·exact hk
 ·rw [look_hidden] at hk
  cases h1 : Nat.blt b nx with
  | true => rw [h1] at hk; exact hk
  | false =>
    rw [h1, cond_false] at hk
    cases h2 : memN ((b - nx) / 16) h with
    | true => rw [h2] at hk; cases hk
    | false => rw [h2] at hk; exact hk
def RelS0 (w0 : Base) (N : Nat) (tm : List (Nat × AV)) (st : List (Nat × Blk)) (n : Nat) (a : Act) (w : World) : Prop :=
 Rel w0 N tm (fun b => look b st) a w ∧ ∀ b k, look b st = some k → b < n
def RelS (mu : Nat → Bool) (w0 : Base) (N : Nat) (tm : List (Nat × AV)) (st : List (Nat × Blk)) (n : Nat) (a : Act) (w : World) : Prop :=
 ∃ B, Ext (cm mu) w0 B ∧ RelS0 B N tm st n a w
theorem addAll_look {new st : List (Nat × Blk)} : addAll new (fun b => look b st) = fun b => look b (new ++ st) := by
 funext b
 rw [look_append]
 unfold addAll
 cases look b new <;> rfl
theorem look_none {l : List (Nat × Blk)} {b : Nat} (h : ∀ p ∈ l, p.1 ≠ b) : look b l = none := by
 cases e : look b l with
 | none => rfl
 | some k => exact absurd rfl (h _ (look_mem e))
theorem Here.putS {tm : List (Nat × AV)} {st : Nat → Option Blk} {at_ : Nat → Option (Nat × Nat)} {FP : Nat → List Nat} {s : St} {x : AV} {v : Value} {o : Option Nat} (hs : s.tm = tm) (h : Here w0 N tm st a w at_ FP) (hx : Loc ⟨w0, w, at_, st⟩ x v) (hd : ∀ d, o = some d → d < N) : Here w0 N (putS s o x) st (a.put o v) w at_ FP := by
 subst hs
 cases o with
 | none => exact h
 | some d => exact h.put hx (hd d rfl)
theorem seq_ops [TbOk P w0] {K : St → Tree} {R : Exit → Act → World → Prop} (n : Nat) (hK : ∀ s' a' w', Sat P Q As (K s') → s'.nx = n → RelS mu w0 N s'.tm s'.st (nx + 16 * ops.size) a' w' → R .normal a' w') :
 ∀ (l : List Oper) (ml : List MOper) (hs : List (List Nat)) (i : Nat), (∀ j, l[j]? = ops[i + j]?) → i + l.length = ops.size → compOps P mu ops N l hs = some ml →
   ∀ (s : St) (a : Act) (w : World), s.nx = n → Sat P Q As (opsT nx ml i K s) → RelS mu w0 N s.tm s.st (nx + 16 * i) a w → wpOps P ops R (List.range' i l.length) a w
 | [], ml, hs, i, _, hsz, hc, s, a, w, hn, h, hr => by
   simp only [compOps, Option.some.injEq] at hc
   subst hc
   have hsz' : i = ops.size := by simpa using hsz
   subst hsz'
   exact hK s a w h hn hr
 | o :: l, ml, hs, i, hl, hsz, hc, s, a, w, hn, h, hr => by
   simp only [compOps, Option.bind_eq_some_iff, Option.map_eq_some_iff] at hc
   obtain ⟨m, hm, ml', hml, rfl⟩ := hc
   have cs := compO_spec hm
   have ho : ops[i]? = some o := by have := hl 0; simpa using this.symm
   have next : ∀ (s' : St) (a' : Act) (w' : World), s'.nx = n → Sat P Q As (opsT nx ml' (i + 1) K s') → RelS mu w0 N s'.tm s'.st (nx + 16 * (i + 1)) a' w' → wpOps P ops R (List.range' (i + 1) l.length) a' w' :=
    seq_ops n hK l ml' hs.tail (i + 1) (fun j => by have := hl (j + 1); rw [show i + 1 + j = i + (j + 1) by omega]; simpa using this) (by simp at hsz; omega) hml
   obtain ⟨B, hX, ⟨at_, FP, hh⟩, hfr⟩ := hr
   haveI := TbOk.ext (P := P) hX
   have go : Sat P Q As (bif isMut m.op then mop m.op s (nx + 16 * i) (fun v s' => opsT nx ml' (i + 1) K { s' with tm := putS s' m.dst v })
    else qop m.op s.tm (hid nx m.hide s.st) (nx + 16 * i) (fun v new => opsT nx ml' (i + 1) K { s with tm := putS s m.dst v, st := new ++ s.st })) → o.wp P a w (wpOps P ops R (List.range' (i + 1) l.length)) R := by
    intro h
    cases hmu : isMut m.op with
    | true =>
      rw [hmu, cond_true] at h
      refine (comp_mutC cs.op hmu h ⟨at_, FP, hh⟩ hfr hX.mode).wp (fun u w' hu => ?_)
      obtain ⟨v, s', hsat, hnx, hfr', B', hX', at1, FP1, hh1, hl1⟩ := hu
      refine next { s' with tm := putS s' m.dst v } _ _ (hnx.trans hn) hsat ⟨B', hX.trans hX', ⟨at1, FP1, ?_⟩, fun b k hb => by have := hfr' b k hb; omega⟩
      rw [cs.dst]
      exact Here.putS rfl hh1 hl1 (fun d hd => cs.lt d (cs.dst.trans hd))
    | false =>
      rw [hmu, cond_false] at h
      cases hnb : isNbin m.op with
      | true =>
        refine (comp_nbinC cs.op hnb h ⟨at_, FP, hh⟩).wp (fun u w' hu => ?_)
        obtain ⟨v, hsat, at1, FP1, hh1, hl1⟩ := hu
        refine next { s with tm := putS s m.dst v, st := [] ++ s.st } _ _ hn hsat ⟨B, hX, ⟨at1, FP1, ?_⟩, fun b k hb => by have := hfr b k hb; omega⟩
        rw [cs.dst]
        exact Here.putS rfl hh1 hl1 (fun d hd => cs.lt d (cs.dst.trans hd))
      | false =>
        obtain ⟨v, new, ⟨hid, hok⟩, hsat⟩ := comp_quietC cs.op hmu hnb h
        refine (hok B N s.tm (fun b => look b s.st) a w (fun _ _ => rfl) (fun b k hb => hid_look hb) (fun b h1 h2 => ?_) ⟨at_, FP, hh⟩ hX.mode).wp (fun u w' hu => ?_)
        ·cases e : look b s.st with
         | none => rfl
         | some k => exact absurd (hfr b k e) (by omega)
        ·obtain ⟨B', hX', at1, FP1, hh1, hl1⟩ := hu
         rw [addAll_look] at hh1 hl1
         refine next { s with tm := putS s m.dst v, st := new ++ s.st } _ _ hn hsat ⟨B', hX.trans hX', ⟨at1, FP1, ?_⟩, fun b k hb => ?_⟩
         ·rw [cs.dst]
          exact Here.putS rfl hh1 hl1 (fun d hd => cs.lt d (cs.dst.trans hd))
         ·have hb' : look b (new ++ s.st) = some k := hb
          rw [look_append] at hb'
          split at hb'
          ·rename_i k' hk'
           have := (hid _ (look_mem hk')).2
           simp only at this
           omega
          ·have := hfr b k hb'
           omega
   have skip : Sat P Q As (opsT nx ml' (i + 1) K { s with tm := putS s m.dst .undef }) → wpOps P ops R (List.range' (i + 1) l.length) (a.put o.dst undef) w := by
    intro h
    refine next { s with tm := putS s m.dst .undef } _ _ hn h ⟨B, hX, ⟨at_, FP, ?_⟩, fun b k hb => by have := hfr b k hb; omega⟩
    rw [cs.dst]
    exact Here.putS rfl hh .undef (fun d hd => cs.lt d (cs.dst.trans hd))
   rw [List.length_cons, List.range'_succ, wpOps_cons]
   unfold wpOp
   rw [ho]
   simp only
   unfold opsT at h
   simp only at h
   cases hg : m.gd with
   | none =>
     rw [hg] at h
     simp only at h
     rw [guard_none cs hg, if_pos rfl]
     exact .inl (go h)
   | some q =>
     obtain ⟨d, want⟩ := q
     rw [hg] at h
     simp only at h
     obtain ⟨g1, g2⟩ := guard_run hh cs hg
     split at h
     ·rename_i b hb
      rw [g1 b hb]
      split at h
      ·rename_i e1; exact .inl (go h)
      ·exact .inl (go h)
      ·rename_i n1 n2
       have : (b == want) = false := by
        cases b <;> cases want <;> first | rfl | (exact absurd rfl (n1 rfl)) | (exact absurd rfl (n2 rfl))
       rw [this]
       exact skip h
     ·rename_i hb
      rw [g2 hb]
      exact skip h
     ·exact (no_bad h).elim
end
end Go.V
namespace Go.V
open Go Go.RowKit
def addN (x : Nat) (l : List Nat) : List Nat := bif memN x l then l else x :: l
def unionN : List Nat → List Nat → List Nat
 | [], b => b
 | x :: a, b => addN x (unionN a b)
def rowOf (rows : List (List Nat)) : List Edge → List Nat
 | [] => []
 | e :: r => if Region.binds .any e then addN e.on (unionN ((rows[e.on]?).getD []) (rowOf rows r)) else rowOf rows r
def rowsOf : List Oper → List (List Nat) → List (List Nat)
 | [], rows => rows
 | o :: r, rows => rowsOf r (rows ++ [rowOf rows o.after.toList])
def wr (t : Nat) : List (Option Nat) → Nat → Option Nat
 | [], _ => none
 | some d :: r, i => bif Nat.beq d t then some i else wr t r (i + 1)
 | none :: r, i => wr t r (i + 1)
def rowAt (rows : List (List Nat)) (i : Nat) : List Nat := (rows[i]?).getD []
def seeOk (rows : List (List Nat)) (ds : List (Option Nat)) (i t : Nat) : Bool := match wr t ds 0 with
 | none => true
 | some j => Nat.beq j i || memN j (rowAt rows i) || memN i (rowAt rows j)
def tmpsOf : List Operand → List Nat
 | [] => []
 | .tmp t :: r => t :: tmpsOf r
 | _ :: r => tmpsOf r
def gdOf : Option (Nat × Bool) → List Nat
 | some (d, _) => [d]
 | none => []
def noStore : MOp → Bool
 | .mv .. | .pick .. | .not .. | .bin .. | .bbin .. | .aeq .. | .box .. | .alloc .. | .fld .. | .sidx .. | .len .. | .mx .. | .bld .. | .bsl .. | .mks .. | .conv .. | .ext .. | .mkf .. | .nck .. | .bit .. | .neg .. => true
 | _ => false
def ahead (rows : List (List Nat)) (hide : List Nat) (i : Nat) : Nat → Bool
 | 0 => true
 | j + 1 => (memN j (rowAt rows i) || memN j hide) && ahead rows hide i j
theorem memN_spec {n : Nat} : ∀ {l : List Nat}, memN n l = true ↔ n ∈ l
 | [] => by simp [memN]
 | m :: r => by
   rw [memN]
   cases h : Nat.beq m n with
   | true =>
     have := Nat.eq_of_beq_eq_true h
     simp [this]
   | false =>
     rw [cond_false, memN_spec]
     constructor
     ·exact fun h => List.mem_cons_of_mem _ h
     ·intro h'
      rcases List.mem_cons.1 h' with e | e
      ·subst e; rw [Nat.beq_refl] at h; cases h
      ·exact e
inductive Pred (ops : Array Oper) : Nat → Nat → Prop
 | one {i : Nat} {o : Oper} {e : Edge} (ho : ops[i]? = some o) (he : e ∈ o.after) (hb : Region.binds .any e = true) : Pred ops i e.on
 | more {i k : Nat} {o : Oper} {e : Edge} (ho : ops[i]? = some o) (he : e ∈ o.after) (hb : Region.binds .any e = true) (h : Pred ops e.on k) : Pred ops i k
theorem mem_addN {x y : Nat} {l : List Nat} (h : y ∈ addN x l) : y = x ∨ y ∈ l := by
 unfold addN at h
 cases e : memN x l with
 | true => rw [e] at h; exact .inr h
 | false => rw [e] at h; exact List.mem_cons.1 h
theorem mem_unionN {y : Nat} : ∀ {a b : List Nat}, y ∈ unionN a b → y ∈ a ∨ y ∈ b
 | [], b, h => .inr h
 | x :: a, b, h => by
   rcases mem_addN h with e | e
   ·exact .inl (e ▸ List.mem_cons_self ..)
   ·rcases mem_unionN e with e | e
    ·exact .inl (List.mem_cons_of_mem _ e)
    ·exact .inr e
theorem rowOf_spec {ops : Array Oper} {rows : List (List Nat)} (hr : ∀ i r, rows[i]? = some r → ∀ j ∈ r, Pred ops i j) {i : Nat} {o : Oper} (ho : ops[i]? = some o) : ∀ (es : List Edge), (∀ e ∈ es, e ∈ o.after) → ∀ j ∈ rowOf rows es, Pred ops i j
 | [], _, j, hj => by cases hj
 | e :: r, hes, j, hj => by
   rw [rowOf] at hj
   split at hj
   ·rename_i hb
    rcases mem_addN hj with rfl | hj
    ·exact .one ho (hes e (List.mem_cons_self ..)) hb
    ·rcases mem_unionN hj with hj | hj
     ·cases hrow : rows[e.on]? with
      | none => rw [hrow] at hj; cases hj
      | some row => rw [hrow] at hj; exact .more ho (hes e (List.mem_cons_self ..)) hb (hr _ _ hrow j hj)
     ·exact rowOf_spec hr ho r (fun e he => hes e (List.mem_cons_of_mem _ he)) j hj
   ·exact rowOf_spec hr ho r (fun e he => hes e (List.mem_cons_of_mem _ he)) j hj
theorem rowsOf_spec {ops : Array Oper} : ∀ (l : List Oper) (rows : List (List Nat)), (∀ j, l[j]? = ops[rows.length + j]?) → (∀ i r, rows[i]? = some r → ∀ j ∈ r, Pred ops i j) → ∀ i r, (rowsOf l rows)[i]? = some r → ∀ j ∈ r, Pred ops i j
 | [], rows, _, h => h
 | o :: l, rows, hl, h => by
   have ho : ops[rows.length]? = some o := by have := hl 0; simpa using this.symm
   refine rowsOf_spec l _ (fun j => by have := hl (j + 1); rw [List.length_append, List.length_singleton, show rows.length + 1 + j = rows.length + (j + 1) by omega]; simpa using this) (fun i r hi => ?_)
   by_cases hlt : i < rows.length
   ·rw [List.getElem?_append_left hlt] at hi
    exact h i r hi
   ·rw [List.getElem?_append_right (by omega)] at hi
    have : i - rows.length = 0 := by
     have := lt_of_get hi
     simp at this
     omega
    have hii : i = rows.length := by omega
    subst hii
    rw [Nat.sub_self] at hi
    simp only [List.getElem?_cons_zero, Option.some.injEq] at hi
    subst hi
    exact rowOf_spec h ho _ (fun e he => by simpa using he)
theorem rowAt_spec {ops : Array Oper} {i j : Nat} (h : memN j (rowAt (rowsOf ops.toList []) i) = true) : Pred ops i j := by
 have h := memN_spec.1 h
 unfold rowAt at h
 cases hr : (rowsOf ops.toList [])[i]? with
 | none => rw [hr] at h; cases h
 | some r => rw [hr] at h; exact rowsOf_spec ops.toList [] (by simp) (fun i r hi => by simp at hi) i r hr j h
theorem qop_noStore {m : MOp} (h : noStore m = true) (tm : List (Nat × AV)) (st : List (Nat × Blk)) (nid : Nat) (K : AV → List (Nat × Blk) → Tree) : qop m tm st nid K = qop m tm [] nid K := by
 cases m <;> first | rfl | (cases h; done)
theorem wr_some {t : Nat} : ∀ {l : List (Option Nat)} {k j : Nat}, wr t l k = some j → k ≤ j ∧ l[j - k]? = some (some t)
 | [], k, j, h => by cases h
 | some d :: r, k, j, h => by
   rw [wr] at h
   cases e : Nat.beq d t with
   | true =>
     rw [e] at h
     cases h
     have := Nat.eq_of_beq_eq_true e
     subst this
     exact ⟨Nat.le_refl _, by simp⟩
   | false =>
     rw [e, cond_false] at h
     obtain ⟨h1, h2⟩ := wr_some h
     refine ⟨by omega, ?_⟩
     rw [show j - k = (j - (k + 1)) + 1 by omega]
     simpa using h2
 | none :: r, k, j, h => by
   obtain ⟨h1, h2⟩ := wr_some (l := r) (k := k + 1) h
   refine ⟨by omega, ?_⟩
   rw [show j - k = (j - (k + 1)) + 1 by omega]
   simpa using h2
section
variable {P : Program} {Q : AV → Prop} {As : List (St → Prop)} {mu : Nat → Bool} {N nx : Nat} {ops : Array Oper} {w0 : Base}
def used (nx : Nat) (m : MOper) (st : List (Nat × Blk)) : List (Nat × Blk) := bif noStore m.op then [] else hid nx m.hide st
def DStep (c : Bool) (P : Program) (nx i : Nat) (o : Oper) (m : MOper) (tm : List (Nat × AV)) (st : List (Nat × Blk)) (v : AV) (new : List (Nat × Blk)) : Prop :=
 (((m.gd = none) ∨ ∃ d want, m.gd = some (d, want) ∧ slot d tm = .bo want) ∧ QOX c P o tm (used nx m st) (nx + 16 * i) v new) ∨
 (∃ d want, m.gd = some (d, want) ∧ ((∃ b, slot d tm = .bo b ∧ (b == want) = false) ∨ slot d tm = .undef) ∧ v = .undef ∧ new = [])
def putT (d : Option Nat) (v : AV) (tm : List (Nat × AV)) : List (Nat × AV) := match d with | some d => (d, v) :: tm | none => tm
inductive DRun (c : Bool) (P : Program) (nx : Nat) : Nat → List Oper → List MOper → List (Nat × AV) → List (Nat × Blk) → List (AV × List (Nat × Blk)) → List (Nat × AV) → List (Nat × Blk) → Prop
 | nil {i : Nat} {tm : List (Nat × AV)} {st : List (Nat × Blk)} : DRun c P nx i [] [] tm st [] tm st
 | cons {i : Nat} {o : Oper} {m : MOper} {l : List Oper} {ml : List MOper} {tm tm' : List (Nat × AV)} {st st' : List (Nat × Blk)} {v : AV} {new : List (Nat × Blk)} {vs : List (AV × List (Nat × Blk))}
  (h : DStep c P nx i o m tm st v new) (hr : DRun c P nx (i + 1) l ml (putT m.dst v tm) (new ++ st) vs tm' st') : DRun c P nx i (o :: l) (m :: ml) tm st ((v, new) :: vs) tm' st'
def TL (ds : List (Option Nat)) (vs : List (AV × List (Nat × Blk))) (tm0 : List (Nat × AV)) (L : Nat → Bool) (t : Nat) : AV := match wr t ds 0 with
 | some j => bif L j then ((vs[j]?).map (·.1)).getD .any else slot t tm0
 | none => slot t tm0
theorem TL_step {ds : List (Option Nat)} {vs : List (AV × List (Nat × Blk))} {tm0 tm : List (Nat × AV)} {L L' : Nat → Bool} {i : Nat} {dst : Option Nat} {v : AV} {new : List (Nat × Blk)} (h : ∀ t, slot t tm = TL ds vs tm0 L t) (hL : ∀ j, L' j = (L j || Nat.beq j i))
 (hd : ds[i]? = some dst) (hu : ∀ d, dst = some d → wr d ds 0 = some i) (hv : vs[i]? = some (v, new)) (t : Nat) : slot t (putT dst v tm) = TL ds vs tm0 L' t := by
 have other : wr t ds 0 ≠ some i → TL ds vs tm0 L' t = TL ds vs tm0 L t := fun hne => by
  unfold TL
  cases hw : wr t ds 0 with
  | none => rfl
  | some j =>
    have : Nat.beq j i = false := by
     cases e : Nat.beq j i with
     | false => rfl
     | true => exact absurd (by rw [hw, Nat.eq_of_beq_eq_true e]) hne
    simp only [hL, this, Bool.or_false]
 cases dst with
 | none =>
   rw [other (fun hw => by have := (wr_some hw).2; rw [Nat.sub_zero, hd] at this; cases this)]
   exact h t
 | some d =>
   show (bif Nat.beq d t then v else slot t tm) = _
   cases e : Nat.beq d t with
   | true =>
     have := Nat.eq_of_beq_eq_true e
     subst this
     unfold TL
     rw [hu d rfl]
     simp [hL, beq_self, hv]
   | false =>
     rw [other (fun hw => by
      have := (wr_some hw).2
      rw [Nat.sub_zero, hd] at this
      cases this
      rw [Nat.beq_refl] at e
      cases e)]
     exact h t
theorem DStep.ids {i : Nat} {o : Oper} {m : MOper} {tm : List (Nat × AV)} {st new : List (Nat × Blk)} {v : AV} (h : DStep (cm mu) P nx i o m tm st v new) : ∀ p ∈ new, nx + 16 * i ≤ p.1 ∧ p.1 < nx + 16 * i + 16 := by
 rcases h with ⟨_, h⟩ | ⟨_, _, _, _, _, rfl⟩
 ·exact h.1
 ·intro p hp; cases hp
theorem TL_congr {ds : List (Option Nat)} {vs : List (AV × List (Nat × Blk))} {tm0 : List (Nat × AV)} {L L' : Nat → Bool} {t : Nat} (h : ∀ j, wr t ds 0 = some j → L j = L' j) : TL ds vs tm0 L t = TL ds vs tm0 L' t := by
 unfold TL
 cases hw : wr t ds 0 with
 | none => rfl
 | some j => simp only [h j hw]
end
end Go.V
namespace Go.V
open Go Go.RowKit
section
variable {P : Program} {Q : AV → Prop} {As : List (St → Prop)} {mu : Nat → Bool} {N nx : Nat} {ops : Array Oper} {w0 : Base}
theorem blt_iff {a b : Nat} : Nat.blt a b = true ↔ a < b := by rw [Nat.blt_eq]
structure DOne (rows : List (List Nat)) (ds : List (Option Nat)) (i : Nat) (o : Oper) (m : MOper) : Prop where
 quiet : isMut m.op = false ∧ isNbin m.op = false
 see : ∀ t, (t ∈ tmpsOf o.op.operands.toList ∨ t ∈ gdOf m.gd) → seeOk rows ds i t = true
 lt : ∀ j, memN j (rowAt rows i) = true → j < i
 blocks : noStore m.op = true ∨ ahead rows m.hide i i = true
 dst : ∀ d, m.dst = some d → wr d ds 0 = some i
 edges : ∀ e ∈ o.after, Region.binds .any e = true → memN e.on (rowAt rows i) = true
theorem mem_tmpsOf {t : Nat} : ∀ {l : List Operand}, Operand.tmp t ∈ l → t ∈ tmpsOf l
 | x :: r, h => by
   rcases List.mem_cons.1 h with e | e
   ·subst e; exact List.mem_cons_self ..
   ·have := mem_tmpsOf e
    cases x <;> simp [tmpsOf, this]
def Closed (ops : Array Oper) (L : Nat → Bool) : Prop := ∀ i o e, L i = true → ops[i]? = some o → e ∈ o.after → Region.binds .any e = true → L e.on = true
theorem Closed.pred {L : Nat → Bool} (h : Closed ops L) {i j : Nat} (hp : Pred ops i j) : L i = true → L j = true := by
 induction hp with
 | one ho he hb => exact fun hi => h _ _ _ hi ho he hb
 | more ho he hb _ ih => exact fun hi => ih (h _ _ _ hi ho he hb)
theorem getD_setB (listed : Array Bool) (i j : Nat) (hi : i < listed.size) : (listed.setIfInBounds i true).getD j false = (listed.getD j false || Nat.beq j i) := by
 rw [Array.getD_eq_getD_getElem?, Array.getD_eq_getD_getElem?, Array.getElem?_setIfInBounds]
 by_cases h : i = j
 ·subst h
  simp [hi, Nat.beq_refl]
 ·have : Nat.beq j i = false := by
   cases e : Nat.beq j i with
   | false => rfl
   | true => exact absurd (Nat.eq_of_beq_eq_true e).symm h
  rw [if_neg h, this]
  simp
end
end Go.V
namespace Go.V
open Go Go.RowKit
def compFloat (P : Program) (N : Nat) (o : Oper) : Option MOper := match o.guard, o.dst with
 | none, some d => if d < N then (match o.op with
   | .move x => some ⟨some d, .mv x, none, []⟩
   | .assign x => some ⟨some d, .mv x, none, []⟩
   | .extract x i => some ⟨some d, .ext x i, none, []⟩
   | .binOp op t x y _ => match P.underlying t, op with
     | some (.int _), .add => some ⟨some d, .bin .add x y, none, []⟩
     | some (.int _), .sub => some ⟨some d, .bin .sub x y, none, []⟩
     | some (.int _), .mul => some ⟨some d, .bin .mul x y, none, []⟩
     | _, _ => none
   | .slice t x lo hi none => match P.underlying t with
     | some (.slice e) => (sizeOf? P e).map fun n => ⟨some d, .slf x lo hi n, none, []⟩
     | _ => none
   | .fieldAddr s x f => (field? P s f).bind fun fd => if sizeOf? P fd.type = some 0 ∨ sizeOf? P fd.type = none then none else some ⟨some d, .faf x fd.offset, none, []⟩
   | _ => none) else none
 | _, _ => none
def YOK (P : Program) (o : Oper) (tm : List (Nat × AV)) (v : AV) : Prop :=
 ∀ (w0 : Base) (N : Nat) (tm' : List (Nat × AV)) (st' : Nat → Option Blk) (a : Act) (w : World) (at_ : Nat → Option (Nat × Nat)) (FP : Nat → List Nat), (∀ x ∈ o.op.operands.toList, ev tm' x = ev tm x) → Here w0 N tm' st' a w at_ FP →
   ∃ u, (∀ w2, (execOp a.eval o).run P w2 = .ok (.value u) w2) ∧ Loc ⟨w0, w, at_, st'⟩ v u
structure CompF (P : Program) (N : Nat) (o : Oper) (m : MOper) : Prop where
 gd : m.gd = none
 guard : o.guard = none
 dst : o.dst = m.dst
 some_ : ∃ d, m.dst = some d ∧ d < N
 quiet : isMut m.op = false ∧ isNbin m.op = false
 yields : ∀ (Q : AV → Prop) (As : List (St → Prop)) (tm : List (Nat × AV)) (st : List (Nat × Blk)) (nid : Nat) (K : AV → List (Nat × Blk) → Tree), Sat P Q As (qop m.op tm st nid K) → ∃ v, Sat P Q As (K v []) ∧ YOK P o tm v
section
variable {P : Program} {N : Nat}
theorem y_mv {o : Oper} {x : Operand} (ho : o.op = .move x ∨ o.op = .assign x) (tm : List (Nat × AV)) : YOK P o tm (ev tm x) := by
 intro w0 N tm' st' a w at_ FP hx hh
 refine ⟨a.eval x, fun w2 => ?_, ?_⟩
 ·rcases ho with ho | ho <;> simp [execOp, ho]
 ·have hm : x ∈ o.op.operands.toList := by rcases ho with ho | ho <;> simp [ho, Op.operands]
  rw [← hx x hm]
  exact hh.ev x
theorem y_ext {o : Oper} {x : Operand} {i : Nat} {tm : List (Nat × AV)} {vs : List AV} {v : AV} (ho : o.op = .extract x i) (hx0 : ev tm x = .tup vs) (hv : vs[i]? = some v) : YOK P o tm v := by
 intro w0 N tm' st' a w at_ FP hx hh
 have h1 := hh.ev x
 rw [hx x (by simp [ho, Op.operands]), hx0] at h1
 obtain ⟨us, he, hl, hd⟩ := h1.tup_inv
 have hi : i < us.size := by rw [hl]; exact lt_of_get hv
 exact ⟨us.getD i Go.undef, fun w2 => by simp [execOp, ho, he, Instr.extract, Array.getD, hi], hd i v hv⟩
theorem y_arith {o : Oper} {op : BinOp} {t t' : TypeId} {x y : Operand} {tm : List (Nat × AV)} {k : IntKind} {a b v : Unit → Int} {r : Int} (ho : o.op = .binOp op t x y t') (hx0 : ev tm x = .int k a) (hy0 : ev tm y = .int k b)
 (hop : (op = .add ∧ r = a () + b ()) ∨ (op = .sub ∧ r = a () - b ()) ∨ (op = .mul ∧ r = a () * b ())) (hv : k.wrap r = v ()) : YOK P o tm (.int k v) := by
 intro w0 N tm' st' A w at_ FP hx hh
 have h1 := hh.ev x
 rw [hx x (by simp [ho, Op.operands]), hx0] at h1
 have h2 := hh.ev y
 rw [hx y (by simp [ho, Op.operands]), hy0] at h2
 refine ⟨.int k (v ()), fun w2 => ?_, .int k v⟩
 rcases hop with ⟨rfl, rfl⟩ | ⟨rfl, rfl⟩ | ⟨rfl, rfl⟩ <;> simp [execOp, ho, h1.int_inv, h2.int_inv, eqGuard, binOp, Op.intArith, hv]
theorem y_bin {o : Oper} {op : BinOp} {t t' : TypeId} {x y : Operand} (ho : o.op = .binOp op t x y t') (hop : op = .add ∨ op = .sub ∨ op = .mul) (Q : AV → Prop) (As : List (St → Prop)) (tm : List (Nat × AV)) (st : List (Nat × Blk)) (nid : Nat) (K : AV → List (Nat × Blk) → Tree)
 (h : Sat P Q As (qop (.bin op x y) tm st nid K)) : ∃ v, Sat P Q As (K v []) ∧ YOK P o tm v := by
 simp only [qop] at h
 split at h
 ·rename_i k a q b hx hy
  cases hk : kindEq k q with
  | false => rw [hk, cond_false] at h; exact (no_bad h).elim
  | true =>
    rw [hk, cond_true] at h
    obtain rfl := kindEq_eq hk
    rcases hop with rfl | rfl | rfl
    ·obtain ⟨v, hv, h⟩ := sat_ari h
     exact ⟨_, h, y_arith ho hx hy (.inl ⟨rfl, rfl⟩) hv⟩
    ·obtain ⟨v, hv, h⟩ := sat_ari h
     exact ⟨_, h, y_arith ho hx hy (.inr (.inl ⟨rfl, rfl⟩)) hv⟩
    ·obtain ⟨v, hv, h⟩ := sat_ari h
     exact ⟨_, h, y_arith ho hx hy (.inr (.inr ⟨rfl, rfl⟩)) hv⟩
 ·rename_i p q hx hy
  rcases hop with rfl | rfl | rfl
  ·cases h with
   | need hp h =>
     refine ⟨_, h, fun w0 N tm' st' A w at_ FP hx2 hh => ?_⟩
     have h1 := hh.ev x
     rw [hx2 x (by simp [ho, Op.operands]), hx] at h1
     have h2 := hh.ev y
     rw [hx2 y (by simp [ho, Op.operands]), hy] at h2
     have h4 : (((p ()).size : Nat) : Int) + ((q ()).size : Nat) ≤ 9223372036854775807 := by omega
     exact ⟨_, fun w2 => by simp [execOp, ho, h1.str_inv, h2.str_inv, eqGuard, binOp, Op.stringOp, h4], .str _⟩
  ·exact (no_bad h).elim
  ·exact (no_bad h).elim
 ·exact (no_bad h).elim
theorem y_slf {o : Oper} {t e : TypeId} {x : Operand} {lo hi : Option Operand} {n : Nat} (ho : o.op = .slice t x lo hi none) (hu : P.underlying t = some (.slice e)) (hn : sizeOf? P e = some n) (Q : AV → Prop) (As : List (St → Prop)) (tm : List (Nat × AV)) (st : List (Nat × Blk)) (nid : Nat) (K : AV → List (Nat × Blk) → Tree)
 (h : Sat P Q As (qop (.slf x lo hi n) tm st nid K)) : ∃ v, Sat P Q As (K v []) ∧ YOK P o tm v := by
 simp only [qop] at h
 split at h
 ·rename_i l r α z enc xs hlo hhi hx0
  cases hz : Nat.beq z n with
  | false => rw [hz, cond_false] at h; exact (no_bad h).elim
  | true =>
    rw [hz, cond_true] at h
    obtain rfl := Nat.eq_of_beq_eq_true hz
    obtain ⟨p, q, e1, e2, h1, h2, h⟩ := sat_cutT h
    refine ⟨_, h, fun w0 N tm' st' a w at_ FP hx hh => ?_⟩
    have hl := hh.ev x
    rw [hx x (by simp [ho, Op.operands]), hx0] at hl
    have b1 := here_bnd hh (tm := tm) (lo := lo) (d := 0) (n := p) (fun y hy => hx y (by subst hy; simp [ho, Op.operands])) hlo e1
    have b2 := here_bnd hh (tm := tm) (lo := hi) (d := (xs ()).length) (n := q) (fun y hy => hx y (by subst hy; simp [ho, Op.operands])) hhi e2
    generalize a.eval x = u at hl
    have key : ∀ u, Loc ⟨w0, w, at_, st'⟩ (.sl z enc xs) u → a.eval x = u → ∃ u', (∀ w2, (execOp a.eval o).run P w2 = .ok (.value u') w2) ∧ Loc ⟨w0, w, at_, st'⟩ (.sl z enc (fun _ => ((xs ()).drop (p ())).take (q () - p ()))) u' := by
     intro u hl hu0
     cases hl with
     | sl hd =>
       obtain ⟨hd, hold⟩ := hd
       obtain ⟨A, cap, rfl, hc, fp', hd', hs⟩ := cut_deep hd h1 h2
       exact ⟨_, fun w2 => by simp [execOp, ho, hu0]; rw [slice_run hu hn b1 b2 h1 (Nat.le_trans h2 hc) w2]; rfl, .sl ⟨hd', fun g hg => hold g (hs g hg)⟩⟩
    exact key _ (by have hl2 := hh.ev x; rw [hx x (by simp [ho, Op.operands]), hx0] at hl2; exact hl2) rfl
 ·exact (no_bad h).elim
theorem y_faf {o : Oper} {s : TypeId} {x : Operand} {j : Nat} {fd : Field} (ho : o.op = .fieldAddr s x j) (hf : field? P s j = some fd) (hz : ¬ (sizeOf? P fd.type = some 0 ∨ sizeOf? P fd.type = none)) (Q : AV → Prop) (As : List (St → Prop)) (tm : List (Nat × AV)) (st : List (Nat × Blk)) (nid : Nat) (K : AV → List (Nat × Blk) → Tree)
 (h : Sat P Q As (qop (.faf x fd.offset) tm st nid K)) : ∃ v, Sat P Q As (K v []) ∧ YOK P o tm v := by
 simp only [qop] at h
 split at h
 ·rename_i b k hx0
  refine ⟨_, h, fun w0 N tm' st' a w at_ FP hx hh => ?_⟩
  have h1 := hh.ev x
  rw [hx x (by simp [ho, Op.operands]), hx0] at h1
  obtain ⟨g, n, he, hl⟩ := fa_ptr (off := fd.offset) h1
  exact ⟨_, fun w2 => by simp [execOp, ho, he, fa_run hf hz], hl⟩
 ·exact (no_bad h).elim
theorem compFloat_ok {o : Oper} {m : MOper} (h : compFloat P N o = some m) : CompF P N o m := by
 unfold compFloat at h
 split at h
 ·rename_i d hg hd
  split at h
  ·rename_i hlt
   split at h
   ·rename_i x ho
    cases h
    exact ⟨rfl, hg, hd, ⟨d, rfl, hlt⟩, ⟨rfl, rfl⟩, fun Q As tm st nid K h => ⟨_, h, y_mv (.inl ho) tm⟩⟩
   ·rename_i x ho
    cases h
    exact ⟨rfl, hg, hd, ⟨d, rfl, hlt⟩, ⟨rfl, rfl⟩, fun Q As tm st nid K h => ⟨_, h, y_mv (.inr ho) tm⟩⟩
   ·rename_i x i ho
    cases h
    refine ⟨rfl, hg, hd, ⟨d, rfl, hlt⟩, ⟨rfl, rfl⟩, fun Q As tm st nid K h => ?_⟩
    simp only [qop] at h
    split at h
    ·rename_i vs hx
     split at h
     ·rename_i v hv
      exact ⟨v, h, y_ext ho hx hv⟩
     ·exact (no_bad h).elim
    ·exact (no_bad h).elim
   ·rename_i op t x y t' ho
    split at h
    ·cases h
     exact ⟨rfl, hg, hd, ⟨d, rfl, hlt⟩, ⟨rfl, rfl⟩, fun Q As tm st nid K h => y_bin ho (.inl rfl) Q As tm st nid K h⟩
    ·cases h
     exact ⟨rfl, hg, hd, ⟨d, rfl, hlt⟩, ⟨rfl, rfl⟩, fun Q As tm st nid K h => y_bin ho (.inr (.inl rfl)) Q As tm st nid K h⟩
    ·cases h
     exact ⟨rfl, hg, hd, ⟨d, rfl, hlt⟩, ⟨rfl, rfl⟩, fun Q As tm st nid K h => y_bin ho (.inr (.inr rfl)) Q As tm st nid K h⟩
    ·cases h
   ·rename_i t x lo hi ho
    split at h
    ·rename_i e hu
     rw [Option.map_eq_some_iff] at h
     obtain ⟨n, hn, rfl⟩ := h
     exact ⟨rfl, hg, hd, ⟨d, rfl, hlt⟩, ⟨rfl, rfl⟩, fun Q As tm st nid K h => y_slf ho hu hn Q As tm st nid K h⟩
    ·cases h
   ·rename_i s x f ho
    simp only [Option.bind_eq_some_iff] at h
    obtain ⟨fd, hf, h⟩ := h
    split at h
    ·cases h
    ·rename_i hz
     cases h
     exact ⟨rfl, hg, hd, ⟨d, rfl, hlt⟩, ⟨rfl, rfl⟩, fun Q As tm st nid K h => y_faf ho hf hz Q As tm st nid K h⟩
   ·cases h
  ·cases h
 ·cases h
end
end Go.V
