/- A theory of its own: Go code in short, evaluated, with proof that the machine does what the evaluation tells. Conditions: those that each theorem states. Part 3. -/
import Derived.Test.YtgbcdmbnlcnidaaV2
import Derived.Carry
import Derived.ChangeArms
import Derived.ChangeMaps5
import Derived.ChangeOld
import Derived.ChangeSame
import Derived.ChangeShapes
import Derived.ChangeSlices
import Derived.KernelRfl
import Derived.LoopN
import Derived.OpenShut
import Derived.Orders
import Derived.SizedLaws
import Derived.WideShapes
set_option linter.unusedVariables false
set_option linter.unusedSimpArgs false
namespace Go.V
open Go Go.RowKit

/-! ### The code, in short -/
def compGd (ops : Array Oper) (N : Nat) : Option (Nat × Bool) → Option (Option (Nat × Bool))
  | none => some none
  | some (g, want) => match (ops[g]?).bind (·.dst) with
    | some d => if d < N then some (some (d, want)) else none
    | none => none
def compO (P : Program) (mu : Nat → Bool) (ops : Array Oper) (N : Nat) (o : Oper) (h : List Nat) : Option MOper :=
  (compOp P mu o.op).bind fun m => (compGd ops N o.guard).bind fun gd => match o.dst with
    | none => some ⟨none, m, gd, h⟩
    | some d => if d < N then some ⟨some d, m, gd, h⟩ else none
def compOps (P : Program) (mu : Nat → Bool) (ops : Array Oper) (N : Nat) : List Oper → List (List Nat) → Option (List MOper)
  | [], _ => some []
  | o :: r, hs => (compO P mu ops N o (hs.headD [])).bind fun m => (compOps P mu ops N r hs.tail).map fun l => m :: l

section
variable {P : Program} {Q : AV → Prop} {As : List (St → Prop)} {mu : Nat → Bool} {N nx : Nat} {ops : Array Oper} {w0 w : World} {a : Act}

structure CompO (P : Program) (mu : Nat → Bool) (ops : Array Oper) (N : Nat) (o : Oper) (m : MOper) : Prop where
  op : compOp P mu o.op = some m.op
  dst : o.dst = m.dst
  lt : ∀ d, o.dst = some d → d < N
  gd : ∀ d want, m.gd = some (d, want) → ∃ g, o.guard = some (g, want) ∧ (ops[g]?).bind (·.dst) = some d ∧ d < N
  gd0 : m.gd = none → o.guard = none
theorem compO_spec {o : Oper} {h : List Nat} {m : MOper} (hc : compO P mu ops N o h = some m) : CompO P mu ops N o m := by
  unfold compO at hc
  simp only [Option.bind_eq_some_iff] at hc
  obtain ⟨mm, h1, gd, h2, hc⟩ := hc
  have hg : (∀ d want, gd = some (d, want) → ∃ g, o.guard = some (g, want) ∧ (ops[g]?).bind (·.dst) = some d ∧ d < N) ∧ (gd = none → o.guard = none) := by
    unfold compGd at h2
    split at h2
    · rename_i hg
      cases h2
      exact ⟨fun d want h => (by cases h), fun _ => hg⟩
    · rename_i g want hg
      split at h2
      · rename_i d hd
        split at h2
        · cases h2
          refine ⟨fun d' want' h => ?_, fun h => by cases h⟩
          cases h
          exact ⟨g, hg, hd, ‹_›⟩
        · cases h2
      · cases h2
  split at hc
  · rename_i hd
    cases hc
    exact ⟨h1, hd, fun d h => (by rw [hd] at h; cases h), hg.1, hg.2⟩
  · rename_i d hd
    split at hc
    · cases hc
      exact ⟨h1, hd, fun d' h => (by rw [hd] at h; cases h; assumption), hg.1, hg.2⟩
    · cases hc

/-- Whether an operation runs. -/
theorem guard_run {tm : List (Nat × AV)} {st : Nat → Option Blk} {at_ : Nat → Option (Nat × Nat)} {FP : Nat → List Nat} (hh : Here w0 N tm st a w at_ FP) {o : Oper} {m : MOper} (hc : CompO P mu ops N o m) {d : Nat} {want : Bool} (hg : m.gd = some (d, want)) :
    (∀ b, slot d tm = .bo b → Region.wanted o (yielded ops a.tmps) = (b == want)) ∧ (slot d tm = .undef → Region.wanted o (yielded ops a.tmps) = false) := by
  obtain ⟨g, h1, h2, h3⟩ := hc.gd d want hg
  have hl := hh.loc d
  have hd : a.tmps[d]? = some (a.tmps.getD d Go.undef) := by
    have : d < a.tmps.size := by rw [hh.size]; exact h3
    simp [Array.getD, this]
  refine ⟨fun b hb => ?_, fun hb => ?_⟩
  · rw [hb] at hl
    have := hl.bo_inv
    rw [this] at hd
    simp [Region.wanted, h1, yielded, h2, hd]
  · rw [hb] at hl
    have := hl.undef_inv
    rw [this] at hd
    simp [Region.wanted, h1, yielded, h2, hd, Go.undef]
theorem guard_none {o : Oper} {m : MOper} (hc : CompO P mu ops N o m) (hg : m.gd = none) (y : Nat → Option Bool) : Region.wanted o y = true := by
  simp [Region.wanted, hc.gd0 hg]

def hid (nx : Nat) (h : List Nat) (st : List (Nat × Blk)) : List (Nat × Blk) := match h with | [] => st | h => hidden nx h st

/-- Blocks of these numbers are hidden, the others are as they were. -/
theorem look_hidden {h : List Nat} {b : Nat} : ∀ {st : List (Nat × Blk)}, look b (hidden nx h st) = bif Nat.blt b nx then look b st else bif memN ((b - nx) / 16) h then none else look b st
  | [] => by
    cases h1 : Nat.blt b nx <;> cases h2 : memN ((b - nx) / 16) h <;> simp [hidden, look]
  | p :: r => by
    rw [hidden]
    cases h1 : Nat.blt p.1 nx with
    | true =>
      rw [cond_true, look, look_hidden (st := r)]
      cases e : Nat.beq p.1 b with
      | true =>
        have := Nat.eq_of_beq_eq_true e
        subst this
        rw [h1]
        simp [look, beq_self]
      | false => simp [look, e]
    | false =>
      rw [cond_false]
      cases h2 : memN ((p.1 - nx) / 16) h with
      | true =>
        rw [cond_true, look_hidden (st := r)]
        cases e : Nat.beq p.1 b with
        | true =>
          have := Nat.eq_of_beq_eq_true e
          subst this
          rw [h1, h2]
          simp
        | false => simp [look, e]
      | false =>
        rw [cond_false, look, look_hidden (st := r)]
        cases e : Nat.beq p.1 b with
        | true =>
          have := Nat.eq_of_beq_eq_true e
          subst this
          rw [h1, h2]
          simp [look, beq_self]
        | false => simp [look, e]
theorem hid_look {h : List Nat} {st : List (Nat × Blk)} {b : Nat} {k : Blk} (hk : look b (hid nx h st) = some k) : look b st = some k := by
  unfold hid at hk
  split at hk
  · exact hk
  · rw [look_hidden] at hk
    cases h1 : Nat.blt b nx with
    | true => rw [h1] at hk; exact hk
    | false =>
      rw [h1, cond_false] at hk
      cases h2 : memN ((b - nx) / 16) h with
      | true => rw [h2] at hk; cases hk
      | false => rw [h2] at hk; exact hk

/-- Where the call stands, and each of its blocks has a number below. -/
def RelS (w0 : World) (N : Nat) (tm : List (Nat × AV)) (st : List (Nat × Blk)) (n : Nat) (a : Act) (w : World) : Prop :=
  Rel w0 N tm (fun b => look b st) a w ∧ ∀ b k, look b st = some k → b < n

theorem addAll_look {new st : List (Nat × Blk)} : addAll new (fun b => look b st) = fun b => look b (new ++ st) := by
  funext b
  rw [look_append]
  unfold addAll
  cases look b new <;> rfl
theorem look_none {l : List (Nat × Blk)} {b : Nat} (h : ∀ p ∈ l, p.1 ≠ b) : look b l = none := by
  cases e : look b l with
  | none => rfl
  | some k => exact absurd rfl (h _ (look_mem e))

theorem Here.putS {tm : List (Nat × AV)} {st : Nat → Option Blk} {at_ : Nat → Option (Nat × Nat)} {FP : Nat → List Nat} {s : St} {x : AV} {v : Value} {o : Option Nat} (hs : s.tm = tm) (h : Here w0 N tm st a w at_ FP) (hx : Loc ⟨w0, w, at_, st⟩ x v) (hd : ∀ d, o = some d → d < N) : Here w0 N (putS s o x) st (a.put o v) w at_ FP := by
  subst hs
  cases o with
  | none => exact h
  | some d => exact h.put hx (hd d rfl)

/-- A region's operations, in the order of the text. -/
theorem seq_ops {K : St → Tree} {R : Exit → Act → World → Prop} (n : Nat) (hK : ∀ s' a' w', Sat P Q As (K s') → s'.nx = n → RelS w0 N s'.tm s'.st (nx + 16 * ops.size) a' w' → R .normal a' w') :
    ∀ (l : List Oper) (ml : List MOper) (hs : List (List Nat)) (i : Nat), (∀ j, l[j]? = ops[i + j]?) → i + l.length = ops.size → compOps P mu ops N l hs = some ml →
      ∀ (s : St) (a : Act) (w : World), s.nx = n → Sat P Q As (opsT nx ml i K s) → RelS w0 N s.tm s.st (nx + 16 * i) a w → wpOps P ops R (List.range' i l.length) a w
  | [], ml, hs, i, _, hsz, hc, s, a, w, hn, h, hr => by
    simp only [compOps, Option.some.injEq] at hc
    subst hc
    have hsz' : i = ops.size := by simpa using hsz
    subst hsz'
    exact hK s a w h hn hr
  | o :: l, ml, hs, i, hl, hsz, hc, s, a, w, hn, h, hr => by
    simp only [compOps, Option.bind_eq_some_iff, Option.map_eq_some_iff] at hc
    obtain ⟨m, hm, ml', hml, rfl⟩ := hc
    have cs := compO_spec hm
    have ho : ops[i]? = some o := by have := hl 0; simpa using this.symm
    have next : ∀ (s' : St) (a' : Act) (w' : World), s'.nx = n → Sat P Q As (opsT nx ml' (i + 1) K s') → RelS w0 N s'.tm s'.st (nx + 16 * (i + 1)) a' w' → wpOps P ops R (List.range' (i + 1) l.length) a' w' :=
      seq_ops n hK l ml' hs.tail (i + 1) (fun j => by have := hl (j + 1); rw [show i + 1 + j = i + (j + 1) by omega]; simpa using this) (by simp at hsz; omega) hml
    obtain ⟨⟨at_, FP, hh⟩, hfr⟩ := hr
    have go : Sat P Q As (bif isMut m.op then mop m.op s (nx + 16 * i) (fun v s' => opsT nx ml' (i + 1) K { s' with tm := putS s' m.dst v })
        else qop m.op s.tm (hid nx m.hide s.st) (nx + 16 * i) (fun v new => opsT nx ml' (i + 1) K { s with tm := putS s m.dst v, st := new ++ s.st })) → o.wp P a w (wpOps P ops R (List.range' (i + 1) l.length)) R := by
      intro h
      cases hmu : isMut m.op with
      | true =>
        rw [hmu, cond_true] at h
        refine (comp_mut cs.op hmu h ⟨at_, FP, hh⟩ hfr).wp (fun u w' hu => ?_)
        obtain ⟨v, s', hsat, hnx, hfr', at1, FP1, hh1, hl1⟩ := hu
        refine next { s' with tm := putS s' m.dst v } _ _ (hnx.trans hn) hsat ⟨⟨at1, FP1, ?_⟩, fun b k hb => by have := hfr' b k hb; omega⟩
        rw [cs.dst]
        exact Here.putS rfl hh1 hl1 (fun d hd => cs.lt d (cs.dst.trans hd))
      | false =>
        rw [hmu, cond_false] at h
        cases hnb : isNbin m.op with
        | true =>
          refine (comp_nbin cs.op hnb h ⟨at_, FP, hh⟩).wp (fun u w' hu => ?_)
          obtain ⟨v, hsat, at1, FP1, hh1, hl1⟩ := hu
          refine next { s with tm := putS s m.dst v, st := [] ++ s.st } _ _ hn hsat ⟨⟨at1, FP1, ?_⟩, fun b k hb => by have := hfr b k hb; omega⟩
          rw [cs.dst]
          exact Here.putS rfl hh1 hl1 (fun d hd => cs.lt d (cs.dst.trans hd))
        | false =>
          obtain ⟨v, new, ⟨hid, hok⟩, hsat⟩ := comp_quiet cs.op hmu hnb h
          refine (hok w0 N s.tm (fun b => look b s.st) a w (fun _ _ => rfl) (fun b k hb => hid_look hb) (fun b h1 h2 => ?_) ⟨at_, FP, hh⟩).wp (fun u w' hu => ?_)
          · cases e : look b s.st with
            | none => rfl
            | some k => exact absurd (hfr b k e) (by omega)
          · obtain ⟨at1, FP1, hh1, hl1⟩ := hu
            rw [addAll_look] at hh1 hl1
            refine next { s with tm := putS s m.dst v, st := new ++ s.st } _ _ hn hsat ⟨⟨at1, FP1, ?_⟩, fun b k hb => ?_⟩
            · rw [cs.dst]
              exact Here.putS rfl hh1 hl1 (fun d hd => cs.lt d (cs.dst.trans hd))
            · have hb' : look b (new ++ s.st) = some k := hb
              rw [look_append] at hb'
              split at hb'
              · rename_i k' hk'
                have := (hid _ (look_mem hk')).2
                simp only at this
                omega
              · have := hfr b k hb'
                omega
    have skip : Sat P Q As (opsT nx ml' (i + 1) K { s with tm := putS s m.dst .undef }) → wpOps P ops R (List.range' (i + 1) l.length) (a.put o.dst undef) w := by
      intro h
      refine next { s with tm := putS s m.dst .undef } _ _ hn h ⟨⟨at_, FP, ?_⟩, fun b k hb => by have := hfr b k hb; omega⟩
      rw [cs.dst]
      exact Here.putS rfl hh .undef (fun d hd => cs.lt d (cs.dst.trans hd))
    rw [List.length_cons, List.range'_succ, wpOps_cons]
    unfold wpOp
    rw [ho]
    simp only
    unfold opsT at h
    simp only at h
    cases hg : m.gd with
    | none =>
      rw [hg] at h
      simp only at h
      rw [guard_none cs hg, if_pos rfl]
      exact .inl (go h)
    | some q =>
      obtain ⟨d, want⟩ := q
      rw [hg] at h
      simp only at h
      obtain ⟨g1, g2⟩ := guard_run hh cs hg
      split at h
      · rename_i b hb
        rw [g1 b hb]
        split at h
        · rename_i e1; exact .inl (go h)
        · exact .inl (go h)
        · rename_i n1 n2
          have : (b == want) = false := by
            cases b <;> cases want <;> first | rfl | (exact absurd rfl (n1 rfl)) | (exact absurd rfl (n2 rfl))
          rw [this]
          exact skip h
      · rename_i hb
        rw [g2 hb]
        exact skip h
      · exact (no_bad h).elim
end
end Go.V

namespace Go.V
open Go Go.RowKit

/-! ### Regions that draw their order -/
def addN (x : Nat) (l : List Nat) : List Nat := bif memN x l then l else x :: l
def unionN : List Nat → List Nat → List Nat
  | [], b => b
  | x :: a, b => addN x (unionN a b)
def rowOf (rows : List (List Nat)) : List Edge → List Nat
  | [] => []
  | e :: r => if Region.binds .any e then addN e.on (unionN ((rows[e.on]?).getD []) (rowOf rows r)) else rowOf rows r
def rowsOf : List Oper → List (List Nat) → List (List Nat)
  | [], rows => rows
  | o :: r, rows => rowsOf r (rows ++ [rowOf rows o.after.toList])
def wr (t : Nat) : List (Option Nat) → Nat → Option Nat
  | [], _ => none
  | some d :: r, i => bif Nat.beq d t then some i else wr t r (i + 1)
  | none :: r, i => wr t r (i + 1)
def rowAt (rows : List (List Nat)) (i : Nat) : List Nat := (rows[i]?).getD []
def seeOk (rows : List (List Nat)) (ds : List (Option Nat)) (i t : Nat) : Bool := match wr t ds 0 with
  | none => true
  | some j => Nat.beq j i || memN j (rowAt rows i) || memN i (rowAt rows j)
def tmpsOf : List Operand → List Nat
  | [] => []
  | .tmp t :: r => t :: tmpsOf r
  | _ :: r => tmpsOf r
def gdOf : Option (Nat × Bool) → List Nat
  | some (d, _) => [d]
  | none => []
/-- The operations that look at no block of the call's own. -/
def noStore : MOp → Bool
  | .mv .. | .pick .. | .not .. | .bin .. | .bbin .. | .aeq .. | .box .. | .alloc .. | .fld .. | .sidx .. | .len .. | .mx .. | .bld .. | .bsl .. | .mks .. | .conv .. | .ext .. | .mkf .. | .nck .. => true
  | _ => false
def ahead (rows : List (List Nat)) (hide : List Nat) (i : Nat) : Nat → Bool
  | 0 => true
  | j + 1 => (memN j (rowAt rows i) || memN j hide) && ahead rows hide i j
def drawOne (rows : List (List Nat)) (ds : List (Option Nat)) (i : Nat) (o : Oper) (m : MOper) : Bool :=
  !isMut m.op && !isNbin m.op && (tmpsOf o.op.operands.toList ++ gdOf m.gd).all (seeOk rows ds i) && (rowAt rows i).all (fun j => Nat.blt j i) && (noStore m.op || ahead rows m.hide i i) &&
    (match m.dst with | some d => (match wr d ds 0 with | some j => Nat.beq j i | none => false) | none => true) && o.after.toList.all (fun e => !Region.binds .any e || memN e.on (rowAt rows i))
def drawAll (rows : List (List Nat)) (ds : List (Option Nat)) : Nat → List Oper → List MOper → Bool
  | _, [], [] => true
  | i, o :: r, m :: q => drawOne rows ds i o m && drawAll rows ds (i + 1) r q
  | _, _, _ => false
def drawOk (ops : Array Oper) (ml : List MOper) : Bool := drawAll (rowsOf ops.toList []) (ml.map (·.dst)) 0 ops.toList ml

theorem memN_spec {n : Nat} : ∀ {l : List Nat}, memN n l = true ↔ n ∈ l
  | [] => by simp [memN]
  | m :: r => by
    rw [memN]
    cases h : Nat.beq m n with
    | true =>
      have := Nat.eq_of_beq_eq_true h
      simp [this]
    | false =>
      rw [cond_false, memN_spec]
      constructor
      · exact fun h => List.mem_cons_of_mem _ h
      · intro h'
        rcases List.mem_cons.1 h' with e | e
        · subst e; rw [Nat.beq_refl] at h; cases h
        · exact e

/-- j stands ahead of i. -/
inductive Pred (ops : Array Oper) : Nat → Nat → Prop
  | one {i : Nat} {o : Oper} {e : Edge} (ho : ops[i]? = some o) (he : e ∈ o.after) (hb : Region.binds .any e = true) : Pred ops i e.on
  | more {i k : Nat} {o : Oper} {e : Edge} (ho : ops[i]? = some o) (he : e ∈ o.after) (hb : Region.binds .any e = true) (h : Pred ops e.on k) : Pred ops i k

theorem mem_addN {x y : Nat} {l : List Nat} (h : y ∈ addN x l) : y = x ∨ y ∈ l := by
  unfold addN at h
  cases e : memN x l with
  | true => rw [e] at h; exact .inr h
  | false => rw [e] at h; exact List.mem_cons.1 h
theorem mem_unionN {y : Nat} : ∀ {a b : List Nat}, y ∈ unionN a b → y ∈ a ∨ y ∈ b
  | [], b, h => .inr h
  | x :: a, b, h => by
    rcases mem_addN h with e | e
    · exact .inl (e ▸ List.mem_cons_self ..)
    · rcases mem_unionN e with e | e
      · exact .inl (List.mem_cons_of_mem _ e)
      · exact .inr e
theorem rowOf_spec {ops : Array Oper} {rows : List (List Nat)} (hr : ∀ i r, rows[i]? = some r → ∀ j ∈ r, Pred ops i j) {i : Nat} {o : Oper} (ho : ops[i]? = some o) : ∀ (es : List Edge), (∀ e ∈ es, e ∈ o.after) → ∀ j ∈ rowOf rows es, Pred ops i j
  | [], _, j, hj => by cases hj
  | e :: r, hes, j, hj => by
    rw [rowOf] at hj
    split at hj
    · rename_i hb
      rcases mem_addN hj with rfl | hj
      · exact .one ho (hes e (List.mem_cons_self ..)) hb
      · rcases mem_unionN hj with hj | hj
        · cases hrow : rows[e.on]? with
          | none => rw [hrow] at hj; cases hj
          | some row => rw [hrow] at hj; exact .more ho (hes e (List.mem_cons_self ..)) hb (hr _ _ hrow j hj)
        · exact rowOf_spec hr ho r (fun e he => hes e (List.mem_cons_of_mem _ he)) j hj
    · exact rowOf_spec hr ho r (fun e he => hes e (List.mem_cons_of_mem _ he)) j hj
theorem rowsOf_spec {ops : Array Oper} : ∀ (l : List Oper) (rows : List (List Nat)), (∀ j, l[j]? = ops[rows.length + j]?) → (∀ i r, rows[i]? = some r → ∀ j ∈ r, Pred ops i j) → ∀ i r, (rowsOf l rows)[i]? = some r → ∀ j ∈ r, Pred ops i j
  | [], rows, _, h => h
  | o :: l, rows, hl, h => by
    have ho : ops[rows.length]? = some o := by have := hl 0; simpa using this.symm
    refine rowsOf_spec l _ (fun j => by have := hl (j + 1); rw [List.length_append, List.length_singleton, show rows.length + 1 + j = rows.length + (j + 1) by omega]; simpa using this) (fun i r hi => ?_)
    by_cases hlt : i < rows.length
    · rw [List.getElem?_append_left hlt] at hi
      exact h i r hi
    · rw [List.getElem?_append_right (by omega)] at hi
      have : i - rows.length = 0 := by
        have := lt_of_get hi
        simp at this
        omega
      have hii : i = rows.length := by omega
      subst hii
      rw [Nat.sub_self] at hi
      simp only [List.getElem?_cons_zero, Option.some.injEq] at hi
      subst hi
      exact rowOf_spec h ho _ (fun e he => by simpa using he)
theorem rowAt_spec {ops : Array Oper} {i j : Nat} (h : memN j (rowAt (rowsOf ops.toList []) i) = true) : Pred ops i j := by
  have h := memN_spec.1 h
  unfold rowAt at h
  cases hr : (rowsOf ops.toList [])[i]? with
  | none => rw [hr] at h; cases h
  | some r => rw [hr] at h; exact rowsOf_spec ops.toList [] (by simp) (fun i r hi => by simp at hi) i r hr j h

theorem drawAll_spec {rows : List (List Nat)} {ds : List (Option Nat)} : ∀ (i : Nat) (l : List Oper) (ml : List MOper), drawAll rows ds i l ml = true → ml.length = l.length ∧ ∀ j o m, l[j]? = some o → ml[j]? = some m → drawOne rows ds (i + j) o m = true
  | _, [], [], _ => ⟨rfl, fun j o m h => by simp at h⟩
  | _, [], _ :: _, h => by cases h
  | _, _ :: _, [], h => by cases h
  | i, o :: r, m :: q, h => by
    rw [drawAll, Bool.and_eq_true] at h
    obtain ⟨h1, h2⟩ := drawAll_spec (i + 1) r q h.2
    refine ⟨by simp [h1], fun j o' m' hj hm => ?_⟩
    cases j with
    | zero => simp at hj hm; subst hj hm; exact h.1
    | succ j =>
      have := h2 j o' m' (by simpa using hj) (by simpa using hm)
      rw [show i + (j + 1) = i + 1 + j by omega]
      exact this

theorem qop_noStore {m : MOp} (h : noStore m = true) (tm : List (Nat × AV)) (st : List (Nat × Blk)) (nid : Nat) (K : AV → List (Nat × Blk) → Tree) : qop m tm st nid K = qop m tm [] nid K := by
  cases m <;> first | rfl | (cases h; done)

theorem wr_none {t : Nat} : ∀ {l : List (Option Nat)} {k : Nat}, wr t l k = none → ∀ i : Nat, l[i]? ≠ some (some t)
  | [], k, h, i, c => by simp at c
  | some d :: r, k, h, i, c => by
    rw [wr] at h
    cases e : Nat.beq d t with
    | true => rw [e] at h; cases h
    | false =>
      rw [e] at h
      cases i with
      | zero => simp at c; subst c; rw [Nat.beq_refl] at e; cases e
      | succ i => exact wr_none h i (by simpa using c)
  | none :: r, k, h, i, c => by
    cases i with
    | zero => simp at c
    | succ i => exact wr_none (k := k + 1) h i (by simpa using c)
theorem wr_some {t : Nat} : ∀ {l : List (Option Nat)} {k j : Nat}, wr t l k = some j → k ≤ j ∧ l[j - k]? = some (some t)
  | [], k, j, h => by cases h
  | some d :: r, k, j, h => by
    rw [wr] at h
    cases e : Nat.beq d t with
    | true =>
      rw [e] at h
      cases h
      have := Nat.eq_of_beq_eq_true e
      subst this
      exact ⟨Nat.le_refl _, by simp⟩
    | false =>
      rw [e, cond_false] at h
      obtain ⟨h1, h2⟩ := wr_some h
      refine ⟨by omega, ?_⟩
      rw [show j - k = (j - (k + 1)) + 1 by omega]
      simpa using h2
  | none :: r, k, j, h => by
    obtain ⟨h1, h2⟩ := wr_some (l := r) (k := k + 1) h
    refine ⟨by omega, ?_⟩
    rw [show j - k = (j - (k + 1)) + 1 by omega]
    simpa using h2

section
variable {P : Program} {Q : AV → Prop} {As : List (St → Prop)} {mu : Nat → Bool} {N nx : Nat} {ops : Array Oper} {w0 : World}

def used (nx : Nat) (m : MOper) (st : List (Nat × Blk)) : List (Nat × Blk) := bif noStore m.op then [] else hid nx m.hide st

/-- One operation, as the text has it. -/
def DStep (P : Program) (nx i : Nat) (o : Oper) (m : MOper) (tm : List (Nat × AV)) (st : List (Nat × Blk)) (v : AV) (new : List (Nat × Blk)) : Prop :=
  (((m.gd = none) ∨ ∃ d want, m.gd = some (d, want) ∧ slot d tm = .bo want) ∧ QOK P o tm (used nx m st) (nx + 16 * i) v new) ∨
  (∃ d want, m.gd = some (d, want) ∧ ((∃ b, slot d tm = .bo b ∧ (b == want) = false) ∨ slot d tm = .undef) ∧ v = .undef ∧ new = [])

def putT (d : Option Nat) (v : AV) (tm : List (Nat × AV)) : List (Nat × AV) := match d with | some d => (d, v) :: tm | none => tm
/-- The text's run. -/
inductive DRun (P : Program) (nx : Nat) : Nat → List Oper → List MOper → List (Nat × AV) → List (Nat × Blk) → List (AV × List (Nat × Blk)) → List (Nat × AV) → List (Nat × Blk) → Prop
  | nil {i : Nat} {tm : List (Nat × AV)} {st : List (Nat × Blk)} : DRun P nx i [] [] tm st [] tm st
  | cons {i : Nat} {o : Oper} {m : MOper} {l : List Oper} {ml : List MOper} {tm tm' : List (Nat × AV)} {st st' : List (Nat × Blk)} {v : AV} {new : List (Nat × Blk)} {vs : List (AV × List (Nat × Blk))}
      (h : DStep P nx i o m tm st v new) (hr : DRun P nx (i + 1) l ml (putT m.dst v tm) (new ++ st) vs tm' st') : DRun P nx i (o :: l) (m :: ml) tm st ((v, new) :: vs) tm' st'

theorem drun_of {K : St → Tree} : ∀ (l : List Oper) (ml : List MOper) (hs : List (List Nat)) (i : Nat), compOps P mu ops N l hs = some ml → (∀ m ∈ ml, isMut m.op = false ∧ isNbin m.op = false) →
    ∀ s, Sat P Q As (opsT nx ml i K s) → ∃ vs tm' st', DRun P nx i l ml s.tm s.st vs tm' st' ∧ Sat P Q As (K { tm := tm', st := st', nx := s.nx })
  | [], ml, hs, i, hc, _, s, h => by
    simp only [compOps, Option.some.injEq] at hc
    subst hc
    exact ⟨[], s.tm, s.st, .nil, h⟩
  | o :: l, ml, hs, i, hc, hq, s, h => by
    simp only [compOps, Option.bind_eq_some_iff, Option.map_eq_some_iff] at hc
    obtain ⟨m, hm, ml', hml, rfl⟩ := hc
    have cs := compO_spec hm
    obtain ⟨q1, q2⟩ := hq m (List.mem_cons_self ..)
    have go : (m.gd = none ∨ ∃ d want, m.gd = some (d, want) ∧ slot d s.tm = .bo want) → Sat P Q As (bif isMut m.op then mop m.op s (nx + 16 * i) (fun v s' => opsT nx ml' (i + 1) K { s' with tm := putS s' m.dst v })
        else qop m.op s.tm (hid nx m.hide s.st) (nx + 16 * i) (fun v new => opsT nx ml' (i + 1) K { s with tm := putS s m.dst v, st := new ++ s.st })) →
        ∃ vs tm' st', DRun P nx i (o :: l) (m :: ml') s.tm s.st vs tm' st' ∧ Sat P Q As (K { tm := tm', st := st', nx := s.nx }) := by
      intro hg h
      rw [q1, cond_false] at h
      have h' : Sat P Q As (qop m.op s.tm (used nx m s.st) (nx + 16 * i) (fun v new => opsT nx ml' (i + 1) K { s with tm := putS s m.dst v, st := new ++ s.st })) := by
        unfold used
        cases e : noStore m.op with
        | true => rw [cond_true, ← qop_noStore e]; exact h
        | false => exact h
      obtain ⟨v, new, hok, hsat⟩ := comp_quiet cs.op q1 q2 h'
      obtain ⟨vs, tm', st', hr, hs⟩ := drun_of l ml' hs.tail (i + 1) hml (fun m hm => hq m (List.mem_cons_of_mem _ hm)) _ hsat
      exact ⟨(v, new) :: vs, tm', st', .cons (.inl ⟨hg, hok⟩) hr, hs⟩
    have skip : (∃ d want, m.gd = some (d, want) ∧ ((∃ b, slot d s.tm = .bo b ∧ (b == want) = false) ∨ slot d s.tm = .undef)) → Sat P Q As (opsT nx ml' (i + 1) K { s with tm := putS s m.dst .undef }) →
        ∃ vs tm' st', DRun P nx i (o :: l) (m :: ml') s.tm s.st vs tm' st' ∧ Sat P Q As (K { tm := tm', st := st', nx := s.nx }) := by
      intro hg h
      obtain ⟨vs, tm', st', hr, hs⟩ := drun_of l ml' hs.tail (i + 1) hml (fun m hm => hq m (List.mem_cons_of_mem _ hm)) _ h
      obtain ⟨d, want, h1, h2⟩ := hg
      exact ⟨(.undef, []) :: vs, tm', st', .cons (.inr ⟨d, want, h1, h2, rfl, rfl⟩) hr, hs⟩
    unfold opsT at h
    simp only at h
    cases hg : m.gd with
    | none => rw [hg] at h; exact go (.inl hg) h
    | some q =>
      obtain ⟨d, want⟩ := q
      rw [hg] at h
      simp only at h
      split at h
      · rename_i b hb
        split at h
        · exact go (.inr ⟨d, true, hg, hb⟩) h
        · exact go (.inr ⟨d, false, hg, hb⟩) h
        · rename_i n1 n2
          have : (b == want) = false := by
            cases b <;> cases want <;> first | rfl | (exact absurd rfl (n1 rfl)) | (exact absurd rfl (n2 rfl))
          exact skip ⟨d, want, hg, .inl ⟨b, hb, this⟩⟩ h
      · rename_i hb
        exact skip ⟨d, want, hg, .inr hb⟩ h
      · exact (no_bad h).elim

/-- What the temps, the blocks are behind the operations of L. -/
def TL (ds : List (Option Nat)) (vs : List (AV × List (Nat × Blk))) (tm0 : List (Nat × AV)) (L : Nat → Bool) (t : Nat) : AV := match wr t ds 0 with
  | some j => bif L j then ((vs[j]?).map (·.1)).getD .any else slot t tm0
  | none => slot t tm0
def SL (nx : Nat) (vs : List (AV × List (Nat × Blk))) (st0 : List (Nat × Blk)) (L : Nat → Bool) (b : Nat) : Option Blk :=
  if b < nx then look b st0 else bif L ((b - nx) / 16) then look b (((vs[(b - nx) / 16]?).map (·.2)).getD []) else none

theorem TL_step {ds : List (Option Nat)} {vs : List (AV × List (Nat × Blk))} {tm0 tm : List (Nat × AV)} {L L' : Nat → Bool} {i : Nat} {dst : Option Nat} {v : AV} {new : List (Nat × Blk)} (h : ∀ t, slot t tm = TL ds vs tm0 L t) (hL : ∀ j, L' j = (L j || Nat.beq j i))
    (hd : ds[i]? = some dst) (hu : ∀ d, dst = some d → wr d ds 0 = some i) (hv : vs[i]? = some (v, new)) (t : Nat) : slot t (putT dst v tm) = TL ds vs tm0 L' t := by
  have other : wr t ds 0 ≠ some i → TL ds vs tm0 L' t = TL ds vs tm0 L t := fun hne => by
    unfold TL
    cases hw : wr t ds 0 with
    | none => rfl
    | some j =>
      have : Nat.beq j i = false := by
        cases e : Nat.beq j i with
        | false => rfl
        | true => exact absurd (by rw [hw, Nat.eq_of_beq_eq_true e]) hne
      simp only [hL, this, Bool.or_false]
  cases dst with
  | none =>
    rw [other (fun hw => by have := (wr_some hw).2; rw [Nat.sub_zero, hd] at this; cases this)]
    exact h t
  | some d =>
    show (bif Nat.beq d t then v else slot t tm) = _
    cases e : Nat.beq d t with
    | true =>
      have := Nat.eq_of_beq_eq_true e
      subst this
      unfold TL
      rw [hu d rfl]
      simp [hL, beq_self, hv]
    | false =>
      rw [other (fun hw => by
        have := (wr_some hw).2
        rw [Nat.sub_zero, hd] at this
        cases this
        rw [Nat.beq_refl] at e
        cases e)]
      exact h t
theorem SL_step {vs : List (AV × List (Nat × Blk))} {st0 : List (Nat × Blk)} {st : Nat → Option Blk} {L L' : Nat → Bool} {i : Nat} {v : AV} {new : List (Nat × Blk)} (h : ∀ b, st b = SL nx vs st0 L b) (hL : ∀ j, L' j = (L j || Nat.beq j i)) (hi : L i = false)
    (hv : vs[i]? = some (v, new)) (hn : ∀ p ∈ new, nx + 16 * i ≤ p.1 ∧ p.1 < nx + 16 * i + 16) (b : Nat) : addAll new st b = SL nx vs st0 L' b := by
  unfold addAll SL
  by_cases hb : b < nx
  · have e : look b new = none := look_none (fun p hp e => by have := hn p hp; omega)
    rw [e, if_pos hb]
    have := h b
    unfold SL at this
    rw [if_pos hb] at this
    exact this
  · rw [if_neg hb]
    have hb2 := h b
    unfold SL at hb2
    rw [if_neg hb] at hb2
    by_cases hq : (b - nx) / 16 = i
    · rw [hq, hL, Nat.beq_refl, Bool.or_true, cond_true, hv]
      rw [hq, hi] at hb2
      simp only [Option.map_some, Option.getD_some]
      cases e : look b new with
      | some k => rfl
      | none => simpa using hb2
    · have e : look b new = none := look_none (fun p hp e => by have := hn p hp; omega)
      have e2 : Nat.beq ((b - nx) / 16) i = false := by
        cases e : Nat.beq ((b - nx) / 16) i with
        | false => rfl
        | true => exact absurd (Nat.eq_of_beq_eq_true e) hq
      rw [e, hL, e2, Bool.or_false]
      exact hb2
theorem DStep.ids {i : Nat} {o : Oper} {m : MOper} {tm : List (Nat × AV)} {st new : List (Nat × Blk)} {v : AV} (h : DStep P nx i o m tm st v new) : ∀ p ∈ new, nx + 16 * i ≤ p.1 ∧ p.1 < nx + 16 * i + 16 := by
  rcases h with ⟨_, h⟩ | ⟨_, _, _, _, _, rfl⟩
  · exact h.1
  · intro p hp; cases hp

theorem drun_facts {ds : List (Option Nat)} {VS : List (AV × List (Nat × Blk))} {tm0 : List (Nat × AV)} {st0 : List (Nat × Blk)} (hu : ∀ i d, ds[i]? = some (some d) → wr d ds 0 = some i) :
    ∀ {i : Nat} {l : List Oper} {ml : List MOper} {tm tm' : List (Nat × AV)} {st st' : List (Nat × Blk)} {vs : List (AV × List (Nat × Blk))}, DRun P nx i l ml tm st vs tm' st' → (∀ j : Nat, (ml[j]?).map (·.dst) = ds[i + j]?) → (∀ j : Nat, vs[j]? = VS[i + j]?) →
      (∀ t, slot t tm = TL ds VS tm0 (fun q => Nat.blt q i) t) → (∀ b, look b st = SL nx VS st0 (fun q => Nat.blt q i) b) →
      vs.length = l.length ∧ (∀ (j : Nat) (o : Oper) (m : MOper), l[j]? = some o → ml[j]? = some m → ∃ tmj stj v new, vs[j]? = some (v, new) ∧ DStep P nx (i + j) o m tmj stj v new ∧ (∀ t, slot t tmj = TL ds VS tm0 (fun q => Nat.blt q (i + j)) t) ∧ (∀ b, look b stj = SL nx VS st0 (fun q => Nat.blt q (i + j)) b)) ∧
      (∀ t, slot t tm' = TL ds VS tm0 (fun q => Nat.blt q (i + l.length)) t) ∧ (∀ b, look b st' = SL nx VS st0 (fun q => Nat.blt q (i + l.length)) b) := by
  intro i l ml tm tm' st st' vs h
  induction h with
  | nil => exact fun _ _ h1 h2 => ⟨rfl, fun j o m hj => by simp at hj, h1, h2⟩
  | @cons i o m l ml tm tm' st st' v new vs h hr ih =>
    intro hds hvs h1 h2
    have hvi : VS[i]? = some (v, new) := by have := hvs 0; simpa using this.symm
    have hdi : ds[i]? = some m.dst := by have := hds 0; simpa using this.symm
    have hL : ∀ j, Nat.blt j (i + 1) = (Nat.blt j i || Nat.beq j i) := fun j => by
      rw [Bool.eq_iff_iff, Bool.or_eq_true, Nat.blt_eq, Nat.blt_eq, Nat.beq_eq]
      omega
    have hi0 : Nat.blt i i = false := by
      cases e : Nat.blt i i with
      | false => rfl
      | true => rw [Nat.blt_eq] at e; omega
    have g1 := TL_step (v := v) (new := new) h1 hL hdi (fun d hd => hu i d (by rw [hdi, hd])) hvi
    have g2 := SL_step (nx := nx) (st := fun b => look b st) h2 hL hi0 hvi h.ids
    obtain ⟨r0, r1, r2, r3⟩ := ih (fun j => by have := hds (j + 1); rw [show i + 1 + j = i + (j + 1) by omega]; simpa using this) (fun j => by have := hvs (j + 1); rw [show i + 1 + j = i + (j + 1) by omega]; simpa using this) g1
      (fun b => by have := g2 b; rw [addAll_look] at this; exact this)
    refine ⟨by simp [r0], fun j o' m' hj hm => ?_, ?_, ?_⟩
    · cases j with
      | zero =>
        simp at hj hm
        subst hj hm
        exact ⟨tm, st, v, new, rfl, h, h1, h2⟩
      | succ j =>
        obtain ⟨tmj, stj, v', new', e1, e2, e3, e4⟩ := r1 j o' m' (by simpa using hj) (by simpa using hm)
        rw [show i + 1 + j = i + (j + 1) by omega] at e2 e3 e4
        exact ⟨tmj, stj, v', new', by simpa using e1, e2, e3, e4⟩
    · rw [List.length_cons, show i + (l.length + 1) = i + 1 + l.length by omega]; exact r2
    · rw [List.length_cons, show i + (l.length + 1) = i + 1 + l.length by omega]; exact r3

theorem TL_congr {ds : List (Option Nat)} {vs : List (AV × List (Nat × Blk))} {tm0 : List (Nat × AV)} {L L' : Nat → Bool} {t : Nat} (h : ∀ j, wr t ds 0 = some j → L j = L' j) : TL ds vs tm0 L t = TL ds vs tm0 L' t := by
  unfold TL
  cases hw : wr t ds 0 with
  | none => rfl
  | some j => simp only [h j hw]

theorem unl_lt {p q : Nat → Bool} {i : Nat} (hpq : ∀ j, q j = true → p j = true) (hi : p i = true) (hi' : q i = false) : ∀ {l : List Nat}, i ∈ l → (l.filter q).length < (l.filter p).length
  | [], h => by cases h
  | x :: l, h => by
    have le : ∀ l : List Nat, (l.filter q).length ≤ (l.filter p).length := by
      intro l
      induction l with
      | nil => exact Nat.le_refl _
      | cons y l ih =>
        rw [List.filter_cons, List.filter_cons]
        cases hq : q y with
        | true => rw [hpq y hq]; simpa using ih
        | false => cases p y <;> simp <;> omega
    rw [List.filter_cons, List.filter_cons]
    rcases List.mem_cons.1 h with e | e
    · subst e
      rw [hi, hi']
      have := le l
      simp
      omega
    · have ih := unl_lt hpq hi hi' e
      cases hq : q x with
      | true => rw [hpq x hq]; simpa using ih
      | false => cases p x <;> simp <;> omega
end
end Go.V

namespace Go.V
open Go Go.RowKit
section
variable {P : Program} {Q : AV → Prop} {As : List (St → Prop)} {mu : Nat → Bool} {N nx : Nat} {ops : Array Oper} {w0 : World}

theorem blt_iff {a b : Nat} : Nat.blt a b = true ↔ a < b := by rw [Nat.blt_eq]
structure DOne (rows : List (List Nat)) (ds : List (Option Nat)) (i : Nat) (o : Oper) (m : MOper) : Prop where
  quiet : isMut m.op = false ∧ isNbin m.op = false
  see : ∀ t, (t ∈ tmpsOf o.op.operands.toList ∨ t ∈ gdOf m.gd) → seeOk rows ds i t = true
  lt : ∀ j, memN j (rowAt rows i) = true → j < i
  blocks : noStore m.op = true ∨ ahead rows m.hide i i = true
  dst : ∀ d, m.dst = some d → wr d ds 0 = some i
  edges : ∀ e ∈ o.after, Region.binds .any e = true → memN e.on (rowAt rows i) = true
theorem drawOne_spec {rows : List (List Nat)} {ds : List (Option Nat)} {i : Nat} {o : Oper} {m : MOper} (h : drawOne rows ds i o m = true) : DOne rows ds i o m := by
  unfold drawOne at h
  simp only [Bool.and_eq_true, Bool.not_eq_true', Bool.or_eq_true, List.all_eq_true, List.mem_append] at h
  obtain ⟨⟨⟨⟨⟨⟨h1, h2⟩, h3⟩, h4⟩, h5⟩, h6⟩, h7⟩ := h
  refine ⟨⟨h1, h2⟩, h3, fun j hj => ?_, h5, fun d hd => ?_, fun e he hb => ?_⟩
  · have := h4 j (memN_spec.1 hj)
    rwa [Nat.blt_eq] at this
  · rw [hd] at h6
    simp only at h6
    cases hw : wr d ds 0 with
    | none => rw [hw] at h6; cases h6
    | some j => rw [hw] at h6; rw [Nat.eq_of_beq_eq_true h6]
  · rcases h7 e (by simpa using he) with h | h
    · rw [hb] at h; cases h
    · exact h
theorem ahead_spec {rows : List (List Nat)} {hide : List Nat} {i : Nat} : ∀ {k : Nat}, ahead rows hide i k = true → ∀ j, j < k → memN j (rowAt rows i) = true ∨ memN j hide = true
  | 0, _, j, hj => by omega
  | k + 1, h, j, hj => by
    rw [ahead, Bool.and_eq_true, Bool.or_eq_true] at h
    by_cases e : j = k
    · subst e; exact h.1
    · exact ahead_spec h.2 j (by omega)
theorem mem_tmpsOf {t : Nat} : ∀ {l : List Operand}, Operand.tmp t ∈ l → t ∈ tmpsOf l
  | x :: r, h => by
    rcases List.mem_cons.1 h with e | e
    · subst e; exact List.mem_cons_self ..
    · have := mem_tmpsOf e
      cases x <;> simp [tmpsOf, this]

/-- Listed, and all that stands ahead of it. -/
def Closed (ops : Array Oper) (L : Nat → Bool) : Prop := ∀ i o e, L i = true → ops[i]? = some o → e ∈ o.after → Region.binds .any e = true → L e.on = true
theorem Closed.pred {L : Nat → Bool} (h : Closed ops L) {i j : Nat} (hp : Pred ops i j) : L i = true → L j = true := by
  induction hp with
  | one ho he hb => exact fun hi => h _ _ _ hi ho he hb
  | more ho he hb _ ih => exact fun hi => ih (h _ _ _ hi ho he hb)

theorem getD_setB (listed : Array Bool) (i j : Nat) (hi : i < listed.size) : (listed.setIfInBounds i true).getD j false = (listed.getD j false || Nat.beq j i) := by
  rw [Array.getD_eq_getD_getElem?, Array.getD_eq_getD_getElem?, Array.getElem?_setIfInBounds]
  by_cases h : i = j
  · subst h
    simp [hi, Nat.beq_refl]
  · have : Nat.beq j i = false := by
      cases e : Nat.beq j i with
      | false => rfl
      | true => exact absurd (Nat.eq_of_beq_eq_true e).symm h
    rw [if_neg h, this]
    simp

theorem any_ops {K : St → Tree} {R : Exit → Act → World → Prop} {ml : List MOper} {hs : List (List Nat)} {s : St} (hc : compOps P mu ops N ops.toList hs = some ml) (hd : drawOk ops ml = true) (hnx : ∀ b k, look b s.st = some k → b < nx)
    (hK : ∀ s' a' w', Sat P Q As (K s') → s'.nx = s.nx → RelS w0 N s'.tm s'.st (nx + 16 * ops.size) a' w' → R .normal a' w')
    (h : Sat P Q As (opsT nx ml 0 K s)) : ∀ (a : Act) (w : World), RelS w0 N s.tm s.st nx a w → wpAny P .any ops R ops.size (Array.replicate ops.size false) a w := by
  have hall := drawAll_spec 0 ops.toList ml hd
  obtain ⟨hlen, hone⟩ := hall
  have hlen' : ml.length = ops.size := by simpa using hlen
  have one : ∀ i o m, ops[i]? = some o → ml[i]? = some m → DOne (rowsOf ops.toList []) (ml.map (·.dst)) i o m := fun i o m ho hm => by
    have := hone i o m (by simpa using ho) hm
    rw [Nat.zero_add] at this
    exact drawOne_spec this
  have mlAt : ∀ i o, ops[i]? = some o → ∃ m, ml[i]? = some m := fun i o ho => by
    have := (Array.getElem?_eq_some_iff.1 ho).1
    exact ⟨ml[i]'(by omega), List.getElem?_eq_getElem _⟩
  have opsAt : ∀ i m, ml[i]? = some m → ∃ o, ops[i]? = some o := fun i m hm => by
    have := lt_of_get hm
    exact ⟨ops[i]'(by omega), Array.getElem?_eq_getElem _⟩
  obtain ⟨vs, tme, ste, hrun, hsat⟩ := drun_of ops.toList ml hs 0 hc (fun m hm => by
    obtain ⟨i, hi⟩ := List.getElem?_of_mem hm
    obtain ⟨o, ho⟩ := opsAt i m hi
    exact (one i o m ho hi).quiet) s h
  have hu : ∀ i d, (ml.map (·.dst))[i]? = some (some d) → wr d (ml.map (·.dst)) 0 = some i := fun i d hi => by
    rw [List.getElem?_map, Option.map_eq_some_iff] at hi
    obtain ⟨m, hm, hmd⟩ := hi
    obtain ⟨o, ho⟩ := opsAt i m hm
    exact (one i o m ho hm).dst d hmd
  have z1 : ∀ t, TL (ml.map (·.dst)) vs s.tm (fun q => Nat.blt q 0) t = slot t s.tm := fun t => by
    unfold TL
    cases wr t (ml.map (·.dst)) 0 with
    | none => rfl
    | some j =>
      have : Nat.blt j 0 = false := by
        cases e : Nat.blt j 0 with
        | false => rfl
        | true => rw [Nat.blt_eq] at e; omega
      simp only [this, cond_false]
  have z2 : ∀ (L : Nat → Bool), (∀ j, L j = false) → ∀ b, SL nx vs s.st L b = look b s.st := fun L hL b => by
    unfold SL
    by_cases hb : b < nx
    · rw [if_pos hb]
    · rw [if_neg hb, hL]
      cases e : look b s.st with
      | none => rfl
      | some k => exact absurd (hnx b k e) hb
  have z1' : ∀ (L : Nat → Bool), (∀ j, L j = false) → ∀ t, TL (ml.map (·.dst)) vs s.tm L t = slot t s.tm := fun L hL t => by
    unfold TL
    cases wr t (ml.map (·.dst)) 0 with
    | none => rfl
    | some j => simp only [hL, cond_false]
  have b0 : ∀ j, Nat.blt j 0 = false := fun j => by
    cases e : Nat.blt j 0 with
    | false => rfl
    | true => rw [Nat.blt_eq] at e; omega
  obtain ⟨hvl, hfacts, hend1, hend2⟩ := drun_facts (nx := nx) (ds := ml.map (·.dst)) (VS := vs) (tm0 := s.tm) (st0 := s.st) hu hrun (fun j => by simp) (fun j => by rw [Nat.zero_add]) (fun t => (z1 t).symm) (fun b => (z2 _ b0 b).symm)
  simp only [Nat.zero_add, Array.length_toList] at hfacts hend1 hend2 hvl
  -- the end
  have fin : ∀ (L : Nat → Bool) (a : Act) (w : World), (∀ j, j < ops.size → L j = true) → (∃ tm' st', Rel w0 N tm' st' a w ∧ (∀ t, slot t tm' = TL (ml.map (·.dst)) vs s.tm L t) ∧ (∀ b, st' b = SL nx vs s.st L b)) → R .normal a w := by
    intro L a w hL ⟨tm', st', ⟨at_, FP, hh⟩, h1, h2⟩
    refine hK _ a w hsat rfl ⟨⟨at_, FP, hh.congr (fun t => ?_) (fun b => ?_)⟩, fun b k hb => ?_⟩
    · rw [h1, hend1]
      refine TL_congr (fun j hj => ?_)
      have := lt_of_get (wr_some hj).2
      simp at this
      have hj' : j < ops.size := by omega
      rw [hL j hj']
      exact (blt_iff.2 hj').symm
    · rw [h2, hend2]
      unfold SL
      by_cases hb : b < nx
      · rw [if_pos hb, if_pos hb]
      · rw [if_neg hb, if_neg hb]
        by_cases hq : (b - nx) / 16 < ops.size
        · rw [hL _ hq]
          dsimp only
          rw [blt_iff.2 hq]
        · have e : vs[(b - nx) / 16]? = none := by
            rw [List.getElem?_eq_none_iff]
            omega
          rw [e]
          simp [look]
    · have hb' := hend2 b
      rw [show look b ste = some k from hb] at hb'
      unfold SL at hb'
      by_cases hbx : b < nx
      · omega
      · rw [if_neg hbx] at hb'
        cases e : Nat.blt ((b - nx) / 16) ops.size with
        | true => rw [Nat.blt_eq] at e; omega
        | false => dsimp only at hb'; rw [e] at hb'; simp at hb'
  -- the way
  have way : ∀ (fuel : Nat) (listed : Array Bool) (a : Act) (w : World), listed.size = ops.size → Closed ops (fun j => listed.getD j false) → ((List.range ops.size).filter (fun j => !(listed.getD j false))).length ≤ fuel →
      (∃ tm' st', Rel w0 N tm' st' a w ∧ (∀ t, slot t tm' = TL (ml.map (·.dst)) vs s.tm (fun j => listed.getD j false) t) ∧ (∀ b, st' b = SL nx vs s.st (fun j => listed.getD j false) b)) → wpAny P .any ops R fuel listed a w := by
    have unl : ∀ (listed : Array Bool) (j : Nat), listed.size = ops.size → j < ops.size → listed.getD j true = listed.getD j false := fun listed j h1 h2 => by
      rw [Array.getD_eq_getD_getElem?, Array.getD_eq_getD_getElem?, Array.getElem?_eq_getElem (by omega)]
      rfl
    have done : ∀ (listed : Array Bool), listed.size = ops.size → Region.ready .any ops listed = [] → ∀ j, j < ops.size → listed.getD j false = true := by
      intro listed hsz hr j
      induction j using Nat.strongRecOn with
      | _ j ih =>
        intro hj
        have ho : ops[j]? = some ops[j] := Array.getElem?_eq_getElem hj
        obtain ⟨m, hm⟩ := mlAt j _ ho
        cases e : listed.getD j false with
        | true => rfl
        | false =>
          have : j ∈ Region.ready .any ops listed := mem_ready.2 ⟨by rw [unl listed j hsz hj]; exact e, _, ho, fun e he hb => by
            have hlt := (one j _ m ho hm).lt e.on ((one j _ m ho hm).edges e he hb)
            exact ih e.on hlt (by omega)⟩
          rw [hr] at this
          cases this
    intro fuel
    induction fuel with
    | zero =>
      intro listed a w hsz hcl hf hst
      have hL : ∀ j, j < ops.size → listed.getD j false = true := fun j hj => by
        cases e : listed.getD j false with
        | true => rfl
        | false =>
          have : j ∈ (List.range ops.size).filter (fun j => !(listed.getD j false)) := List.mem_filter.2 ⟨List.mem_range.2 hj, by rw [e]; rfl⟩
          have := List.length_pos_of_mem this
          omega
      refine ⟨?_, fin _ a w hL hst⟩
      cases hr : Region.ready .any ops listed with
      | nil => rfl
      | cons i r =>
        have hi : i ∈ Region.ready .any ops listed := by rw [hr]; exact List.mem_cons_self ..
        obtain ⟨h1, o, ho, _⟩ := mem_ready.1 hi
        have hlt := (Array.getElem?_eq_some_iff.1 ho).1
        rw [unl listed i hsz hlt, hL i hlt] at h1
        cases h1
    | succ fuel ih =>
      intro listed a w hsz hcl hf hst
      refine ⟨fun hr => fin _ a w (done listed hsz hr) hst, fun i hi => ?_⟩
      obtain ⟨hun, o, ho, hpre⟩ := mem_ready.1 hi
      have hlt := (Array.getElem?_eq_some_iff.1 ho).1
      rw [unl listed i hsz hlt] at hun
      obtain ⟨m, hm⟩ := mlAt i o ho
      have d1 := one i o m ho hm
      obtain ⟨tmj, stj, v, new, hv, hstep, f1, f2⟩ := hfacts i o m (by simpa using ho) hm
      obtain ⟨tm', st', ⟨at_, FP, hh⟩, h1, h2⟩ := hst
      have pre : ∀ j, Pred ops i j → listed.getD j false = true := fun j hp => by
        cases hp with
        | one ho' he hb =>
          rw [ho] at ho'
          cases ho'
          exact hpre _ he hb
        | more ho' he hb hp =>
          rw [ho] at ho'
          cases ho'
          exact hcl.pred hp (hpre _ he hb)
      have post : ∀ j, Pred ops j i → listed.getD j false = false := fun j hp => by
        cases e : listed.getD j false with
        | false => rfl
        | true =>
          have := hcl.pred hp e
          rw [hun] at this
          cases this
      have same : ∀ t, (t ∈ tmpsOf o.op.operands.toList ∨ t ∈ gdOf m.gd) → slot t tm' = slot t tmj := fun t ht => by
        rw [h1, f1]
        refine TL_congr (fun j hj => ?_)
        have hs := d1.see t ht
        unfold seeOk at hs
        rw [hj] at hs
        simp only [Bool.or_eq_true] at hs
        rcases hs with (e | e) | e
        · have := Nat.eq_of_beq_eq_true e
          subst this
          show listed.getD j false = Nat.blt j j
          rw [hun]
          cases e2 : Nat.blt j j with
          | false => rfl
          | true => rw [Nat.blt_eq] at e2; omega
        · show listed.getD j false = Nat.blt j i
          rw [pre j (rowAt_spec e), blt_iff.2 (d1.lt j e)]
        · show listed.getD j false = Nat.blt j i
          rw [post j (rowAt_spec e)]
          have hjm : j < ops.size := by
            have := lt_of_get (wr_some hj).2
            simp at this
            omega
          have hoj : ops[j]? = some ops[j] := Array.getElem?_eq_getElem hjm
          obtain ⟨mj, hmj⟩ := mlAt j _ hoj
          have := (one j _ mj hoj hmj).lt i e
          cases e2 : Nat.blt j i with
          | false => rfl
          | true => rw [Nat.blt_eq] at e2; omega
      have cs : CompO P mu ops N o m := by
        have key : ∀ (l : List Oper) (ml : List MOper) (hs : List (List Nat)), compOps P mu ops N l hs = some ml → ∀ (i : Nat) (o : Oper) (m : MOper), l[i]? = some o → ml[i]? = some m → CompO P mu ops N o m := by
          intro l
          induction l with
          | nil => intro ml hs _ i o m ho; simp at ho
          | cons x l ihl =>
            intro ml hs hc i o m ho hm
            simp only [compOps, Option.bind_eq_some_iff, Option.map_eq_some_iff] at hc
            obtain ⟨m', hm', ml', hml, rfl⟩ := hc
            cases i with
            | zero => simp at ho hm; subst ho hm; exact compO_spec hm'
            | succ i => exact ihl ml' hs.tail hml i o m (by simpa using ho) (by simpa using hm)
        exact key _ ml hs hc i o m (by simpa using ho) hm
      have hL' : ∀ j, (listed.setIfInBounds i true).getD j false = (listed.getD j false || Nat.beq j i) := fun j => getD_setB listed i j (by omega)
      have next : ∀ (a' : Act) (w' : World) (at1 : Nat → Option (Nat × Nat)) (FP1 : Nat → List Nat), Here w0 N (putT m.dst v tm') (addAll new st') a' w' at1 FP1 → wpAny P .any ops R fuel (listed.setIfInBounds i true) a' w' := by
        intro a' w' at1 FP1 hh1
        refine ih (listed.setIfInBounds i true) a' w' (by simpa using hsz) (fun i' o' e hi' ho' he hb => ?_) ?_ ⟨_, _, ⟨at1, FP1, hh1⟩, fun t => ?_, fun b => ?_⟩
        · simp only [hL', Bool.or_eq_true] at hi' ⊢
          rcases hi' with hi' | hi'
          · exact .inl (hcl i' o' e hi' ho' he hb)
          · have := Nat.eq_of_beq_eq_true hi'
            subst this
            rw [ho] at ho'
            cases ho'
            exact .inl (hpre e he hb)
        · have := unl_lt (p := fun j => !(listed.getD j false)) (q := fun j => !((listed.setIfInBounds i true).getD j false)) (i := i) (fun j hq => by simp only [hL'] at hq ⊢; simp at hq ⊢; exact hq.1) (by simp only [hun]; rfl) (by simp only [hL', Nat.beq_refl]; simp) (l := List.range ops.size) (List.mem_range.2 hlt)
          omega
        · exact TL_step h1 (fun j => hL' j) (by rw [List.getElem?_map, hm]; rfl) d1.dst hv t
        · exact SL_step (nx := nx) h2 (fun j => hL' j) hun hv hstep.ids b
      have hput : ∀ (a' : Act) (w' : World) (st1 : Nat → Option Blk) (at1 : Nat → Option (Nat × Nat)) (FP1 : Nat → List Nat) (u : Value), Here w0 N tm' st1 a' w' at1 FP1 → Loc ⟨w0, w', at1, st1⟩ v u → Here w0 N (putT m.dst v tm') st1 (a'.put o.dst u) w' at1 FP1 := by
        intro a' w' st1 at1 FP1 u hh1 hl1
        rw [cs.dst]
        have hlt := cs.lt
        rw [cs.dst] at hlt
        cases hd : m.dst with
        | none => exact hh1
        | some d => exact hh1.put hl1 (hlt d hd)
      unfold wpOp
      rw [ho]
      simp only
      rcases hstep with ⟨hg, hok⟩ | ⟨d, want, hgd, hsl, rfl, rfl⟩
      · have hw : Region.wanted o (yielded ops a.tmps) = true := by
          rcases hg with hg | ⟨d, want, hg, hs⟩
          · exact guard_none cs hg _
          · have := same d (.inr (by rw [hg]; exact List.mem_cons_self ..))
            rw [(guard_run hh cs hg).1 want (by rw [this, hs])]
            simp
        rw [hw, if_pos rfl]
        refine .inl ((hok.2 w0 N tm' st' a w (fun x hx => ?_) (fun b k hb => ?_) (fun b hb1 hb2 => ?_) ⟨at_, FP, hh⟩).wp (fun u w' hu => ?_))
        · cases x with
          | tmp t => exact same t (.inl (mem_tmpsOf hx))
          | const => rfl
          | global => rfl
          | func => rfl
        · unfold used at hb
          cases hns : noStore m.op with
          | true => rw [hns] at hb; cases hb
          | false =>
            rw [hns, cond_false] at hb
            have hah := ahead_spec (d1.blocks.resolve_left (by rw [hns]; exact fun h => by cases h))
            have hb1 := hid_look hb
            rw [f2] at hb1
            rw [h2, ← hb1]
            unfold SL at hb1 ⊢
            by_cases hbx : b < nx
            · rw [if_pos hbx, if_pos hbx]
            · rw [if_neg hbx] at hb1
              rw [if_neg hbx, if_neg hbx]
              cases e : Nat.blt ((b - nx) / 16) i with
              | false => dsimp only at hb1; rw [e] at hb1; simp at hb1
              | true =>
                dsimp only
                rw [e, cond_true]
                rcases hah _ (blt_iff.1 e) with hp | hp
                · rw [pre _ (rowAt_spec hp), cond_true]
                · exfalso
                  unfold hid at hb
                  split at hb
                  · rename_i hnil
                    rw [hnil] at hp
                    cases hp
                  · rw [look_hidden] at hb
                    have : Nat.blt b nx = false := by
                      cases e : Nat.blt b nx with
                      | false => rfl
                      | true => rw [Nat.blt_eq] at e; omega
                    rw [this, cond_false, hp, cond_true] at hb
                    cases hb
        · rw [h2]
          unfold SL
          have : (b - nx) / 16 = i := by omega
          rw [if_neg (by omega), this]
          dsimp only
          rw [hun]
          rfl
        · obtain ⟨at1, FP1, hh1, hl1⟩ := hu
          exact next _ _ _ _ (hput _ _ _ _ _ _ hh1 hl1)
      · have hw : Region.wanted o (yielded ops a.tmps) = false := by
          have := same d (.inr (by rw [hgd]; exact List.mem_cons_self ..))
          rcases hsl with ⟨b, hb, hbw⟩ | hsl
          · rw [(guard_run hh cs hgd).1 b (by rw [this, hb])]
            exact hbw
          · exact (guard_run hh cs hgd).2 (by rw [this, hsl])
        rw [hw]
        simp only [Bool.false_eq_true, if_false]
        exact next _ _ at_ FP (hput _ _ _ _ _ _ hh .undef)
  intro a w hrel
  refine way ops.size (Array.replicate ops.size false) a w (by simp) (fun i o e hi => ?_) ?_ ⟨s.tm, fun b => look b s.st, hrel.1, fun t => (z1' _ (fun j => ?_) t).symm, fun b => (z2 _ (fun j => ?_) b).symm⟩
  · dsimp only at hi
    rw [Array.getD_eq_getD_getElem?, Array.getElem?_replicate] at hi
    split at hi <;> simp at hi
  · refine Nat.le_trans (List.length_filter_le _ _) (by simp)
  · rw [Array.getD_eq_getD_getElem?, Array.getElem?_replicate]
    split <;> rfl
  · rw [Array.getD_eq_getD_getElem?, Array.getElem?_replicate]
    split <;> rfl
end
end Go.V

namespace Go.V
open Go Go.RowKit
section
variable {P : Program} {Q : AV → Prop} {w0 w : World} {N : Nat} {a : Act}

/-! ### A state that knows less -/
theorem LeV.loc {E E1 : Env} {st st1 : List (Nat × Blk)} (h0 : E1.w0 = E.w0) (hw : E1.w = E.w) (hE : ∀ b, E.st b = look b st) (hE1 : ∀ b, E1.st b = look b st1)
    (hk : ∀ b k, look b st1 = some k → (∃ k', look b st = some k' ∧ LeK st st1 k' k) ∨ (look b st = none ∧ phantom k))
    (ha : ∀ b, look b st ≠ none → E1.at_ b = E.at_ b) (ha' : ∀ b, look b st = none → E1.at_ b = none) {x y : AV} (h : LeV st st1 x y) : ∀ {v : Value}, Loc E x v → Loc E1 y v := by
  have refat : ∀ {b off n len sz : Nat} {v : Value}, look b st ≠ none → RefAt E b off n len sz v → RefAt E1 b off n len sz v := by
    intro b off n len sz v hb hr
    obtain ⟨h1, h2⟩ := hr
    refine ⟨h1, ?_⟩
    rw [ha b hb, hw]
    exact h2
  have ph : ∀ {b : Nat} {A : Option Addr} {off n : Unit → Nat}, look b st1 ≠ none → look b st = none → off () = 0 → n () = 0 → Loc E1 (.ref b off n) (.slice A 0 0) := by
    intro b A off n hb1 hb h1 h2
    cases e : look b st1 with
    | none => exact absurd e hb1
    | some k =>
      rcases hk b k e with ⟨k', hk', _⟩ | ⟨_, hp⟩
      · rw [hb] at hk'; cases hk'
      · cases k with
        | lit => exact hp.elim
        | row sz enc xs fx => exact .ref ((hE1 b).trans e) (.ofNone (ha' b hb) (by rw [h1, h2]; exact Nat.zero_le _))
  induction h with
  | any x => exact fun _ => .any _
  | undef => intro v hl; cases hl; exact .undef
  | int h => intro v hl; rw [hl.int_inv, h]; exact .int _ _
  | bo b => intro v hl; cases hl; exact .bo _
  | str h => intro v hl; rw [hl.str_inv, h]; exact .str _
  | nil => intro v hl; cases hl; exact .nil
  | emp => intro v hl; cases hl; exact .emp _
  | @sl α sz enc xs ys h =>
    intro v hl
    cases hl with
    | sl hd => exact .sl (h0 ▸ (LeD.sl (sz := sz) (enc := enc) h).deep hd)
  | @ref b off n off' n' hb hb' h hn =>
    intro v hl
    cases e : look b st1 with
    | none => exact absurd e hb
    | some k =>
      rcases hk b k e with ⟨k', hk', hle⟩ | ⟨hno, _⟩
      · cases hl with
        | ref hbb hr =>
          rw [hE, hk'] at hbb
          cases hbb
          cases hle with
          | row hxs => exact .ref ((hE1 b).trans e) (by rw [← h, ← hn, ← hxs]; exact refat hb' hr)
        | refl hbb hr =>
          rw [hE, hk'] at hbb
          cases hbb
          cases hle with
          | lit hl _ => exact .refl ((hE1 b).trans e) (by rw [← h, ← hn, hl]; exact refat hb' hr)
      · exact absurd hno hb'
  | nilref hb hb' h hn => intro v hl; cases hl; exact ph hb hb' h hn
  | empref hb hb' h hn => intro v hl; cases hl; exact ph hb hb' h hn
  | @ptr b j hb =>
    intro v hl
    cases e : look b st1 with
    | none => exact absurd e hb
    | some k =>
      cases hl with
      | @ptr sz cs _ _ g base hbb hat =>
        rcases hk b k e with ⟨k', hk', hle⟩ | ⟨hno, _⟩
        · rw [hE, hk'] at hbb
          cases hbb
          cases hle with
          | lit hl _ => exact .ptr ((hE1 b).trans e) ((ha b (by rw [hk']; exact fun h => by cases h)).trans hat)
        · rw [hE, hno] at hbb; cases hbb
  | rptr cs => intro v hl; cases hl with | rptr hd => exact .rptr (h0 ▸ hd)
  | lsl cs => intro v hl; cases hl with | lsl hd => exact .lsl (h0 ▸ hd)
  | agg hl h ih =>
    intro v hx
    obtain ⟨us, rfl, hs, hd⟩ := hx.agg_inv
    refine .agg (hs.trans hl.symm) (fun i y hy => ?_)
    obtain ⟨x, hx⟩ := get_of_len hl hy
    exact ih i x y hx hy (hd i x hx)
  | clo hl h ih =>
    intro v hx
    obtain ⟨us, rfl, hs, hd⟩ := hx.clo_inv
    refine .clo (hs.trans hl.symm) (fun i y hy => ?_)
    obtain ⟨x, hx⟩ := get_of_len hl hy
    exact ih i x y hx hy (hd i x hx)

theorem RelS.weak {s s1 : St} (h : RelS w0 N s.tm s.st s.nx a w) (hs : LeS s s1) : RelS w0 N s1.tm s1.st s1.nx a w := by
  obtain ⟨⟨at_, FP, hh⟩, hfr⟩ := h
  refine ⟨?_, hs.fresh⟩
  let at1 : Nat → Option (Nat × Nat) := fun b => match look b s.st with | none => none | some _ => at_ b
  let FP1 : Nat → List Nat := fun b => match look b s.st with | none => [] | some _ => FP b
  have e1 : ∀ b, look b s.st ≠ none → at1 b = at_ b ∧ FP1 b = FP b := fun b hb => by
    simp only [at1, FP1]
    cases e : look b s.st with
    | none => exact absurd e hb
    | some k => exact ⟨rfl, rfl⟩
  have e2 : ∀ b, look b s.st = none → at1 b = none ∧ FP1 b = [] := fun b hb => by
    simp only [at1, FP1, hb]
    exact ⟨trivial, trivial⟩
  have loc : ∀ {x y : AV} {v : Value}, LeV s.st s1.st x y → Loc ⟨w0, w, at_, fun b => look b s.st⟩ x v → Loc ⟨w0, w, at1, fun b => look b s1.st⟩ y v := fun h =>
    LeV.loc (E := ⟨w0, w, at_, fun b => look b s.st⟩) (E1 := ⟨w0, w, at1, fun b => look b s1.st⟩) rfl rfl (fun _ => rfl) (fun _ => rfl) hs.st (fun b hb => (e1 b hb).1) (fun b hb => (e2 b hb).1) h
  have own1 : ∀ b, look b s.st ≠ none → (⟨w0, w, at1, fun b => look b s1.st⟩ : Env).own FP1 b = (⟨w0, w, at_, fun b => look b s.st⟩ : Env).own FP b := fun b hb => by
    show ownOf (at1 b) (FP1 b) = ownOf (at_ b) (FP b)
    rw [(e1 b hb).1, (e1 b hb).2]
  have own2 : ∀ b, look b s.st = none → (⟨w0, w, at1, fun b => look b s1.st⟩ : Env).own FP1 b = [] := fun b hb => by
    show ownOf (at1 b) (FP1 b) = []
    rw [(e2 b hb).1]
    rfl
  have some_ne : ∀ {b : Nat} {k : Blk}, look b s.st = some k → look b s.st ≠ none := fun h => by rw [h]; exact fun c => by cases c
  refine ⟨at1, FP1, ⟨hh.good.below, fun b k hb => ?_, fun b k hb => ?_, fun b k hb => ?_, fun b b' k k' hb hb' hne => ?_, fun b k hb => ?_⟩, hh.defers, hh.size, fun t => loc (hs.tm t) (hh.loc t)⟩
  · rcases hs.st b k hb with ⟨k', hk', hle⟩ | ⟨hno, hp⟩
    · rw [(e1 b (some_ne hk')).2]
      have r := hh.good.rep b k' hk'
      cases hle with
      | lit hl hle =>
        generalize FP b = fp at r
        cases r with
        | lit hat hg hc =>
          refine .lit ((e1 b (some_ne hk')).1.trans hat) hg (fun j y hy => ?_)
          obtain ⟨x, hx⟩ := get_of_len hl hy
          obtain ⟨u, hu, hlx⟩ := hc j x hx
          exact ⟨u, hu, loc (hle j x y hx hy) hlx⟩
      | row hxs =>
        generalize FP b = fp at r
        cases r with
        | row0 hat hx => exact .row0 ((e1 b (some_ne hk')).1.trans hat) (hxs ▸ hx)
        | row F hat hg hr hc =>
          rw [hxs] at hr hc ⊢
          exact .row F ((e1 b (some_ne hk')).1.trans hat) hg hr hc
    · rw [(e2 b hno).2]
      cases k with
      | lit => exact hp.elim
      | row sz enc xs fx => exact .row0 (e2 b hno).1 hp
  · rcases hs.st b k hb with ⟨k', hk', _⟩ | ⟨hno, _⟩
    · rw [own1 b (some_ne hk')]; exact hh.good.nodup b k' hk'
    · rw [own2 b hno]; exact List.nodup_nil
  · rcases hs.st b k hb with ⟨k', hk', _⟩ | ⟨hno, _⟩
    · rw [own1 b (some_ne hk')]; exact hh.good.base b k' hk'
    · rw [own2 b hno]; exact fun g hg => by cases hg
  · rcases hs.st b k hb with ⟨q, hq, _⟩ | ⟨hno, _⟩
    · rcases hs.st b' k' hb' with ⟨q', hq', _⟩ | ⟨hno', _⟩
      · rw [own1 b (some_ne hq), own1 b' (some_ne hq')]; exact hh.good.apart b b' q q' hq hq' hne
      · rw [own2 b' hno']; exact fun g _ hg => by cases hg
    · rw [own2 b hno]; exact fun g hg => by cases hg
  · rcases hs.st b k hb with ⟨k', hk', _⟩ | ⟨hno, _⟩
    · rw [own1 b (some_ne hk')]; exact hh.good.fresh b k' hk'
    · rw [own2 b hno]; exact fun g hg => by cases hg

theorem slot_keep {tm : List (Nat × AV)} {t : Nat} : ∀ {l : List Nat}, slot t (keepT tm l) = slot t tm ∨ slot t (keepT tm l) = .any
  | [] => .inr rfl
  | x :: r => by
    rw [keepT, slot]
    cases e : Nat.beq x t with
    | true => rw [Nat.eq_of_beq_eq_true e]; exact .inl rfl
    | false => exact slot_keep
theorem RelS.keep {tm : List (Nat × AV)} {st : List (Nat × Blk)} {n : Nat} (h : RelS w0 N tm st n a w) (l : List Nat) : RelS w0 N (keepT tm l) st n a w := by
  obtain ⟨⟨at_, FP, hh⟩, hfr⟩ := h
  refine ⟨⟨at_, FP, hh.good, hh.defers, hh.size, fun t => ?_⟩, hfr⟩
  rcases slot_keep (tm := tm) (t := t) (l := l) with e | e
  · rw [e]; exact hh.loc t
  · rw [e]; exact .any _
theorem RelS.drawn {tm : List (Nat × AV)} {st : List (Nat × Blk)} {n : Nat} (h : RelS w0 N tm st n a w) : RelS w0 N tm st n a { w with drawn := w.drawn + 1 } := by
  obtain ⟨⟨at_, FP, hh⟩, hfr⟩ := h
  exact ⟨⟨at_, FP, hh.world ⟨rfl, rfl, rfl, Nat.le_refl _, fun _ _ => rfl⟩⟩, hfr⟩
end

/-! ### The code -/
abbrev Hints := List (Nat × List Nat × List (List Nat))
def hintOf (id : Nat) : Hints → List Nat × List (List Nat)
  | [] => ([], [])
  | p :: r => bif Nat.beq p.1 id then p.2 else hintOf id r
def compC (P : Program) (mu : Nat → Bool) (N : Nat) (H : Hints) : Code → Option MCode
  | .skip => some .skip
  | .region id ops draw => (compOps P mu ops N ops.toList (hintOf id H).2).bind fun l => if (draw && !drawOk ops l) = true then none else some (.region l (hintOf id H).1)
  | .seq a b => (compC P mu N H a).bind fun x => (compC P mu N H b).map fun y => .seq (fun _ => x) (fun _ => y)
  | .cond c t e => (compC P mu N H t).bind fun x => (compC P mu N H e).map fun y => .cond c (fun _ => x) (fun _ => y)
  | .block id c => (compC P mu N H c).map fun x => .block id (fun _ => x)
  | .loop c => (compC P mu N H c).map fun x => .loop (fun _ => x)
  | .exit id => some (.exit id)
  | .ret => some .ret
  | _ => none

def exOf : Ex → Exit
  | .normal => .normal
  | .exit i => .exit i
  | .ret => .ret

theorem compOps_length {P : Program} {mu : Nat → Bool} {N : Nat} {ops : Array Oper} : ∀ {l : List Oper} {hs : List (List Nat)} {ml : List MOper}, compOps P mu ops N l hs = some ml → ml.length = l.length
  | [], hs, ml, h => by
    simp only [compOps, Option.some.injEq] at h
    subst h
    rfl
  | o :: l, hs, ml, h => by
    simp only [compOps, Option.bind_eq_some_iff, Option.map_eq_some_iff] at h
    obtain ⟨m, _, ml', hml, rfl⟩ := h
    simp [compOps_length hml]

theorem code_ok {P : Program} {Q : AV → Prop} {mu : Nat → Bool} {N : Nat} {H : Hints} {w0 : World} (hm : P.follows .mixedOrders = true) : ∀ (c : Code) (m : MCode), compC P mu N H c = some m →
    ∀ (As : List (St → Prop)) (K : Ex → St → Tree) (R : Exit → Act → World → Prop) (s : St) (a : Act) (w : World), Sat P Q As (exec m K s) → RelS w0 N s.tm s.st s.nx a w →
      (∀ e s' a' w', Sat P Q As (K e s') → RelS w0 N s'.tm s'.st s'.nx a' w' → R (exOf e) a' w') → c.wp P R a w := by
  intro c
  induction c with
  | skip =>
    intro m hc As K R s a w h hr hK
    cases hc
    exact wp_skip (hK .normal s a w h hr)
  | region id ops draw =>
    intro m hc As K R s a w h hr hK
    simp only [compC, Option.bind_eq_some_iff] at hc
    obtain ⟨l, hl, hc⟩ := hc
    split at hc
    · cases hc
    · rename_i hd
      cases hc
      have hlen := compOps_length hl
      have hlen' : l.length = ops.size := by simpa using hlen
      rw [exec] at h
      have hK' : ∀ s' a' w', Sat P Q As ((fun s' : St => K .normal { tm := keepT s'.tm (hintOf id H).1, st := s'.st, nx := s.nx + 16 * l.length }) s') → s'.nx = s.nx → RelS w0 N s'.tm s'.st (s.nx + 16 * ops.size) a' w' → R .normal a' w' := fun s' a' w' hs _ hr' => by
        refine hK .normal _ a' w' hs ?_
        rw [hlen']
        exact hr'.keep _
      cases draw with
      | false =>
        refine wp_region ?_
        rw [List.range_eq_range']
        exact seq_ops (nx := s.nx) s.nx hK' ops.toList l _ 0 (fun j => by simp) (by simp) hl s a w rfl h hr
      | true =>
        have hd' : drawOk ops l = true := by
          cases e : drawOk ops l with
          | true => rfl
          | false => rw [e] at hd; exact absurd rfl hd
        exact wp_region_any hm (any_ops (nx := s.nx) hl hd' hr.2 hK' h a _ hr.drawn)
  | seq x y ihx ihy =>
    intro m hc As K R s a w h hr hK
    simp only [compC, Option.bind_eq_some_iff, Option.map_eq_some_iff] at hc
    obtain ⟨mx, hx, my, hy, rfl⟩ := hc
    rw [exec] at h
    refine wp_seq (ihx mx hx As _ _ s a w h hr (fun e s' a' w' hs hr' => ?_))
    cases e with
    | normal => exact ihy my hy As K R s' a' w' hs hr' hK
    | exit i => exact hK (.exit i) s' a' w' hs hr'
    | ret => exact hK .ret s' a' w' hs hr'
  | cond c t e iht ihe =>
    intro m hc As K R s a w h hr hK
    simp only [compC, Option.bind_eq_some_iff, Option.map_eq_some_iff] at hc
    obtain ⟨mt, ht, me, he, rfl⟩ := hc
    rw [exec] at h
    split at h
    · rename_i b hb
      obtain ⟨⟨at_, FP, hh⟩, _⟩ := id hr
      have hl := hh.ev c
      rw [hb] at hl
      refine wp_cond hl.bo_inv ?_
      cases b with
      | true => exact iht mt ht As K R s a w h hr hK
      | false => exact ihe me he As K R s a w h hr hK
    · exact (no_bad h).elim
  | block id c ih =>
    intro m hc As K R s a w h hr hK
    simp only [compC, Option.map_eq_some_iff] at hc
    obtain ⟨x, hx, rfl⟩ := hc
    rw [exec] at h
    refine wp_block (ih x hx As _ _ s a w h hr (fun e s' a' w' hs hr' => ?_))
    cases e with
    | normal => exact hK .normal s' a' w' hs hr'
    | ret => exact hK .ret s' a' w' hs hr'
    | exit i =>
      show (if i = id then R .normal a' w' else R (.exit i) a' w')
      cases e : Nat.beq i id with
      | true =>
        have := Nat.eq_of_beq_eq_true e
        subst this
        rw [if_pos rfl]
        simp only [e, cond_true] at hs
        exact hK .normal s' a' w' hs hr'
      | false =>
        rw [if_neg (fun h => by subst h; rw [Nat.beq_refl] at e; cases e)]
        simp only [e, cond_false] at hs
        exact hK (.exit i) s' a' w' hs hr'
  | loop c ih =>
    intro m hc As K R s a w h hr hK
    simp only [compC, Option.map_eq_some_iff] at hc
    obtain ⟨x, hx, rfl⟩ := hc
    rw [exec] at h
    cases h with
    | @loop _ _ _ ι S G μ x0 hs hg hb =>
      have rounds : ∀ (n : Nat) (y : ι) (a : Act) (w : World), μ y < n → G y → RelS w0 N (S y).tm (S y).st (S y).nx a w → Code.rounds P c R n a w := by
        intro n
        induction n with
        | zero => intro y a w h; exact absurd h (Nat.not_lt_zero _)
        | succ n ihn =>
          intro y a w hn hG hr'
          rw [rounds_succ]
          refine ih x hx _ _ _ (S y) a w (hb y hG) hr' (fun e s' a' w' hs' hr2 => ?_)
          cases e with
          | normal =>
            cases hs' with
            | again hA =>
              obtain ⟨z, hle, hGz, hμ⟩ := hA
              exact ihn z a' w' (by omega) hGz (hr2.weak hle)
          | exit i =>
            cases hs' with
            | pop hs' => exact hK (.exit i) s' a' w' hs' hr2
          | ret =>
            cases hs' with
            | pop hs' => exact hK .ret s' a' w' hs' hr2
      exact wp_loop_rounds (μ x0 + 1) (rounds _ x0 a w (Nat.lt_succ_self _) hg (hr.weak hs))
  | exit id =>
    intro m hc As K R s a w h hr hK
    cases hc
    exact wp_exit (hK (.exit id) s a w h hr)
  | ret =>
    intro m hc As K R s a w h hr hK
    cases hc
    exact wp_ret (hK .ret s a w h hr)
  | _ => intro m hc; cases hc
end Go.V

namespace Go.V
open Go Go.RowKit

/-! ### A function -/
theorem slot_number {t : Nat} : ∀ {l : List AV} {i : Nat}, slot t (number i l) = if i ≤ t ∧ t < i + l.length then l.getD (t - i) .any else .any
  | [], i => by
    rw [number, slot, if_neg (by simp only [List.length_nil]; omega)]
  | x :: r, i => by
    rw [number, slot]
    cases e : Nat.beq i t with
    | true =>
      have := Nat.eq_of_beq_eq_true e
      subst this
      rw [if_pos (by simp)]
      simp
    | false =>
      rw [cond_false, slot_number (l := r) (i := i + 1)]
      have hne : i ≠ t := fun h => by subst h; rw [Nat.beq_refl] at e; cases e
      by_cases h : i ≤ t ∧ t < i + (x :: r).length
      · rw [if_pos h, if_pos (by simp at h ⊢; omega)]
        rw [show t - i = (t - (i + 1)) + 1 by omega]
        simp
      · rw [if_neg h, if_neg (by simp at h ⊢; omega)]

def compR (P : Program) : ResultVar → Option RV
  | .tmp t => some (.t t)
  | .cell a t => (sizeOf? P t).bind fun n => (agg? P t).bind fun g => if g = false ∧ n ≠ 1 then none else some (.c a n g)

def resS (tmps : Array Value) : ResultVar → Sem Value
  | .tmp t => pure (tmps.getD t undef)
  | .cell a t => do loadVar t (← asAddr (tmps.getD a undef))
theorem results_eq (fn : Func) (tmps : Array Value) : results fn tmps = (do let vs ← fn.results.mapM (resS tmps); pure (if h : vs.size = 1 then vs[0] else .tuple vs)) := by
  unfold results
  congr 1
theorem res_run {P : Program} {w0 w : World} {N : Nat} {s : St} {a : Act} {at_ : Nat → Option (Nat × Nat)} {FP : Nat → List Nat} (hh : Here w0 N s.tm (fun b => look b s.st) a w at_ FP) {r : ResultVar} {q : RV} {v : AV} (hc : compR P r = some q) (hv : resA s q = some v) :
    ∃ u, Loc ⟨w0, w, at_, fun b => look b s.st⟩ v u ∧ (resS a.tmps r).run P w = .ok u w := by
  cases r with
  | tmp t =>
    simp only [compR, Option.some.injEq] at hc
    subst hc
    simp only [resA, Option.some.injEq] at hv
    subst hv
    exact ⟨_, hh.loc t, by simp [resS]⟩
  | cell x t =>
    simp only [compR, Option.bind_eq_some_iff] at hc
    obtain ⟨n, hn, g, hg, hc⟩ := hc
    split at hc
    · cases hc
    · rename_i h1
      cases hc
      simp only [resA] at hv
      split at hv
      · rename_i b j hx
        split at hv
        · rename_i sz cs hb
          cases e : Nat.beq ((cs.drop j).take n).length n with
          | false => rw [e] at hv; cases hv
          | true =>
            rw [e, cond_true] at hv
            have hll := Nat.eq_of_beq_eq_true e
            have hr : resAV g ((cs.drop j).take n) = some v := by
              cases g with
              | true => exact hv
              | false => rw [cond_false] at hv; exact hv
            have hl := hh.loc x
            rw [hx] at hl
            obtain ⟨B, off, f, he, hcell, hloc⟩ := ld_ptr hh.good hb hll hl
            refine ⟨_, res_loc hr hloc, ?_⟩
            have h2 : g = false → n = 1 := fun e => by
              by_cases hh : n = 1
              · exact hh
              · exact absurd ⟨e, hh⟩ h1
            have := load_run (P := P) hn hg h2 f hcell
            rw [hll]
            simp only [resS, he, asAddr, Sem.run_bind, Sem.run_pure, Result.andThen_ok]
            exact this
        · cases hv
      · cases hv

theorem resL_run {P : Program} {w0 w : World} {N : Nat} {s : St} {a : Act} {at_ : Nat → Option (Nat × Nat)} {FP : Nat → List Nat} (hh : Here w0 N s.tm (fun b => look b s.st) a w at_ FP) : ∀ {l : List ResultVar} {rs : List RV} {vs : List AV}, l.mapM (compR P) = some rs → resL s rs = some vs →
    ∃ us : List Value, us.length = vs.length ∧ (∀ i x, vs[i]? = some x → Loc ⟨w0, w, at_, fun b => look b s.st⟩ x (us.getD i undef)) ∧ (l.mapM (resS a.tmps)).run P w = .ok us w
  | [], rs, vs, hc, hv => by
    simp only [List.mapM_nil, Option.pure_def, Option.some.injEq] at hc
    subst hc
    simp only [resL, Option.some.injEq] at hv
    subst hv
    exact ⟨[], rfl, fun i x hx => by simp at hx, by simp⟩
  | r :: l, rs, vs, hc, hv => by
    rw [List.mapM_cons, Option.bind_eq_bind, Option.bind_eq_some_iff] at hc
    obtain ⟨q, hq, hc⟩ := hc
    rw [Option.bind_eq_bind, Option.bind_eq_some_iff] at hc
    obtain ⟨qs, hqs, hc⟩ := hc
    simp only [Option.pure_def, Option.some.injEq] at hc
    subst hc
    rw [resL] at hv
    split at hv
    · rename_i v hv1
      split at hv
      · rename_i vs' hv2
        cases hv
        obtain ⟨u, hl, hr⟩ := res_run hh hq hv1
        obtain ⟨us, e1, e2, e3⟩ := resL_run hh hqs hv2
        refine ⟨u :: us, by simp [e1], fun i x hx => ?_, ?_⟩
        · cases i with
          | zero => simp at hx; subst hx; exact hl
          | succ i => exact e2 i x (by simpa using hx)
        · rw [List.mapM_cons, Sem.run_bind, hr]
          simp only [Result.andThen_ok, Sem.run_bind, e3, Sem.run_pure]
      · cases hv
    · cases hv

theorem results_run {P : Program} {fn : Func} {w0 w : World} {N : Nat} {s : St} {a : Act} {at_ : Nat → Option (Nat × Nat)} {FP : Nat → List Nat} (hh : Here w0 N s.tm (fun b => look b s.st) a w at_ FP) {rs : List RV} {vs : List AV} (hc : fn.results.toList.mapM (compR P) = some rs) (hv : resL s rs = some vs) :
    ∃ v, (results fn a.tmps).run P w = .ok v w ∧ Loc ⟨w0, w, at_, fun b => look b s.st⟩ (one vs) v := by
  obtain ⟨us, e1, e2, e3⟩ := resL_run hh hc hv
  have hrun : (results fn a.tmps).run P w = .ok (if h : us.toArray.size = 1 then us.toArray[0] else .tuple us.toArray) w := by
    rw [results_eq, Sem.run_bind, Array.mapM_eq_mapM_toList]
    have : (List.toArray <$> (fn.results.toList.mapM (resS a.tmps))).run P w = .ok us.toArray w := by
      rw [map_eq_pure_bind, Sem.run_bind, e3]
      simp
    rw [this]
    simp
  refine ⟨_, hrun, ?_⟩
  match vs, us, e1, e2 with
  | [], [], _, e2 => exact .tup rfl (fun i x hx => by simp at hx)
  | [v], [u], _, e2 => exact e2 0 v rfl
  | v1 :: v2 :: vs, u1 :: u2 :: us, e1, e2 =>
    have hne : ¬ (u1 :: u2 :: us).toArray.size = 1 := by simp
    rw [dif_neg hne]
    refine .tup (by simpa using e1) (fun i x hx => ?_)
    have := e2 i x hx
    simpa [Array.getD_eq_getD_getElem?, List.getD_eq_getElem?_getD] using this

/-- The contract of a function, off its code. -/
theorem fn_of {P : Program} {mu : Nat → Bool} {f : Nat} {fn : Func} {c : Code} {H : Hints} {m : MCode} {rs : List RV} {args : List AV} {r : AV} (hm : P.follows .mixedOrders = true) (hf : P.funcs[f]? = some fn) (hn : fn.name ≠ "runtime.NumGoroutine") (hb : fn.body = some c)
    (hc : compC P mu fn.ntmps H c = some m) (hrs : fn.results.toList.mapM (compR P) = some rs) (hl : args.length ≤ fn.ntmps) (h : Sat P (fun q => LeD q r) [] (runT m rs args)) : Fn P f args r := by
  refine ⟨⟨fn, hf, hn, by rw [hb]; rfl⟩, fun w vs F hsz hd => ?_⟩
  refine calls_of_wp hf hb ?_
  have h0 : RelS w fn.ntmps (start args).tm (start args).st (start args).nx { tmps := vs ++ Array.replicate (fn.ntmps - vs.size) undef, defers := [] } w := by
    refine ⟨⟨fun _ => none, fun _ => [], ⟨Below.refl _ w, fun b k hb => (by cases hb), fun b k hb => (by cases hb), fun b k hb => (by cases hb), fun b b' k k' hb => (by cases hb), fun b k hb => (by cases hb)⟩, rfl, (by simp; omega), fun t => ?_⟩, fun b k hb => (by cases hb)⟩
    show Loc _ (slot t (number 0 args)) _
    rw [slot_number]
    split
    · rename_i ht
      have hx : args[t]? = some (args.getD t .any) := by
        have : t < args.length := by omega
        simp [List.getD, this]
      have hv : (vs ++ Array.replicate (fn.ntmps - vs.size) undef).getD t undef = vs.getD t undef := by
        rw [Array.getD_eq_getD_getElem?, Array.getElem?_append_left (by omega), ← Array.getD_eq_getD_getElem?]
      rw [hv]
      exact deep_loc (hd t _ (by rw [Nat.sub_zero]; exact hx))
    · exact .any _
  have fin : ∀ (s' : St) (a' : Act) (w' : World), Sat P (fun q => LeD q r) [] (endT rs s') → RelS w fn.ntmps s'.tm s'.st s'.nx a' w' →
      a'.defers = [] ∧ ∃ v, (results fn a'.tmps).run P w' = .ok v w' ∧ ∃ v_1 fp, Ending.returned v = .returned v_1 ∧ Deep w' r v_1 fp ∧ fp.Nodup ∧ (∀ g ∈ fp, w.heap.size ≤ g ∧ ∃ cs t, w'.heap[g]? = some (.cells cs t (0, 0))) ∧ Below w.heap.size w w' := by
    intro s' a' w' hs hr
    obtain ⟨⟨at_, FP, hh⟩, _⟩ := hr
    have key : ∀ (x y : AV) (st' : List (Nat × Blk)) (v : Value), exp 3 s'.st x = some (y, st') → LeD y r → Loc ⟨w, w', at_, fun b => look b s'.st⟩ x v →
        ∃ v_1 fp, Ending.returned v = .returned v_1 ∧ Deep w' r v_1 fp ∧ fp.Nodup ∧ (∀ g ∈ fp, w.heap.size ≤ g ∧ ∃ cs t, w'.heap[g]? = some (.cells cs t (0, 0))) ∧ Below w.heap.size w w' := by
      intro x y st' v hx hle hl
      obtain ⟨fp, hd, ho⟩ := exp_ok 3 _ FP s'.st st' x y v hh.good (fun b k hb => hb) hx hl
      refine ⟨v, fp, rfl, hle.deep hd, ho.nodup, fun g hg => ?_, hh.good.below⟩
      obtain ⟨b, b1, _, b3⟩ := ho.from_ g hg
      cases q : look b s'.st with
      | none => exact absurd q b1
      | some k => exact ⟨hh.good.base b k q g b3, hh.good.fresh b k q g b3⟩
    unfold endT at hs
    split at hs
    · rename_i vs hvs
      split at hs
      · rename_i q hq
        cases hs with
        | done hle =>
          obtain ⟨v, hrun, hloc⟩ := results_run hh hrs hvs
          exact ⟨hh.defers, v, hrun, key _ _ _ _ hq hle hloc⟩
      · exact (no_bad hs).elim
    · exact (no_bad hs).elim
  refine code_ok hm c m hc [] _ _ (start args) _ w h h0 (fun e s' a' w' hs hr => ?_)
  cases e with
  | normal => exact fin s' a' w' hs hr
  | ret => exact fin s' a' w' hs hr
  | exit i => exact (no_bad hs).elim
end Go.V

namespace Go.V
open Go Go.RowKit Go.ChangeShapes Go.WideShapes

/-! ### What the form reads -/
/-- Whatever is read at type t reads, cell by cell, as ea, and meets F where its parts weigh no more than the reach. -/
structure Opens {H : Type} (enc : TypeId × Value → H) (P : Program) (t : TypeId) {α : Type} (sz : Nat) (ea : α → Nat → AV) (F : α → Prop) : Prop where
  cells : P.cellsOf t = sz
  run : ∀ {W : World} {fuel : Nat} {cs : List Value} {y : DataW H × List MemPlace}, DataW.trod enc P W 0 (fun _ => true) true fuel t cs = some y →
    ∃ x, cs.length = sz ∧ (∀ j, j < sz → ∃ fp, Deep W (ea x j) (cs.getD j undef) fp) ∧ ((DataW.weights P t y.1).all (· ≤ reachBytes) = true → F x)

def encB (b : Bool) : Nat → AV := fun _ => .bo b
def encL {α : Type} (sz : Nat) (ea : α → Nat → AV) (l : List α) : Nat → AV := fun _ => .sl sz ea (fun _ => l)
def encP {α β : Type} (sz : Nat) (ea : α → Nat → AV) (eb : β → Nat → AV) (x : α × β) : Nat → AV := fun j => if j < sz then ea x.1 j else eb x.2 (j - sz)

section
variable {H : Type} {enc : TypeId × Value → H} {P : Program} {t : TypeId}
theorem opens_int {k : IntKind} (hu : P.underlying t = some (.int k)) (hc : P.cellsOf t = 1) : Opens enc P t 1 (encI k) (fun x => (Lit.int k x).wf = true) :=
  ⟨hc, fun h => by
    obtain ⟨n, rfl, rfl, hw⟩ := DataW.trod_int hu h
    exact ⟨n, rfl, fun j hj => ⟨_, by have : j = 0 := by omega
                                      subst this; exact .int k _⟩, fun _ => hw⟩⟩
theorem opens_bool (hu : P.underlying t = some .bool) (hc : P.cellsOf t = 1) : Opens enc P t 1 encB (fun _ => True) :=
  ⟨hc, fun h => by
    obtain ⟨b, rfl, rfl⟩ := DataW.trod_bool hu h
    exact ⟨b, rfl, fun j hj => ⟨_, by have : j = 0 := by omega
                                      subst this; exact .bo b⟩, fun _ => trivial⟩⟩
theorem opens_string (hu : P.underlying t = some .string) (hc : P.cellsOf t = 1) : Opens enc P t 1 encS (fun s => s.size ≤ 140737488351232) :=
  ⟨hc, fun h => by
    obtain ⟨s, rfl, rfl, _⟩ := DataW.trod_string hu h
    refine ⟨s, rfl, fun j hj => ⟨_, by have : j = 0 := by omega
                                       subst this; exact .str _⟩, fun hw => ?_⟩
    simp only [DataW.weights] at hw
    rw [List.all_cons, Bool.and_eq_true] at hw
    have h1 : s.data.toList.length ≤ reachBytes := of_decide_eq_true hw.1
    rw [Array.length_toList] at h1
    exact h1⟩

theorem weightsAll_mem {e : TypeId} : ∀ {l : List (DataW H)}, (DataW.weightsAll P e l).all (· ≤ reachBytes) = true → ∀ x ∈ l, (DataW.weights P e x).all (· ≤ reachBytes) = true
  | [], _, x, hx => by cases hx
  | a :: r, h, x, hx => by
    rw [DataW.weightsAll, List.all_append, Bool.and_eq_true] at h
    rcases List.mem_cons.1 hx with rfl | hx
    · exact h.1
    · exact weightsAll_mem h.2 x hx
theorem cells?_len {W : World} {b n : Nat} {a : Addr} {c : List Value} (h : W.cells? b a n = some c) : c.length = n ∧ ∀ i u, c[i]? = some u → W.cell? (a.add i) = some u := by
  unfold World.cells? at h
  split at h
  · obtain ⟨h1, h2⟩ := mapM_get h
    rw [List.length_range] at h1
    refine ⟨h1, fun i u hu => ?_⟩
    have hi : i < n := by
      have := (List.getElem?_eq_some_iff.1 hu).1
      omega
    exact h2 i i u (by rw [List.getElem?_range hi]) hu
  · cases h
theorem cell?_block {W : World} {a : Addr} {u : Value} (h : W.cell? a = some u) : ∃ cs t fr, W.heap[a.block]? = some (.cells cs t fr) ∧ a.spot = none ∧ cs[a.off]? = some u := by
  unfold World.cell? at h
  split at h
  · rename_i c t fr hc
    split at h
    · cases h
    · rename_i hs
      exact ⟨c, t, fr, hc, by simpa using hs, h⟩
  · cases h
theorem add_block (a : Addr) (n : Nat) : (a.add n).block = a.block := by unfold Addr.add; split <;> rfl
theorem add_off (a : Addr) (n : Nat) : (a.add n).off = a.off + n := by unfold Addr.add; split <;> simp_all

theorem opens_slice {α : Type} {e : TypeId} {sz B : Nat} {ea : α → Nat → AV} {F : α → Prop} (hu : P.underlying t = some (.slice e)) (hc : P.cellsOf t = 1) (hB : P.bytesOf e = B) (h0 : 0 < sz) (o : Opens enc P e sz ea F) :
    Opens enc P t 1 (encL sz ea) (fun l => l.length ≤ maxLen ∧ l.length * B ≤ 140737488351232 ∧ ∀ x ∈ l, F x) :=
  ⟨hc, fun {W fuel cs y} h => by
    rcases DataW.trod_slice hu h with ⟨rfl, rfl⟩ | ⟨a, len, cap, elems, rest, n, _, rfl, rfl, _, hl, hm, hlen, hel, hre, _⟩
    · refine ⟨[], rfl, fun j hj => ⟨[], ?_⟩, fun _ => ⟨by simp, by simp, fun x hx => by cases hx⟩⟩
      have : j = 0 := by omega
      subst this
      exact .sl0 none rfl
    · obtain ⟨hrl, hre⟩ := hre rfl
      -- each element
      have each : ∀ i (hi : i < elems.length), ∃ x, (∀ j, j < sz → ∃ u fp, W.cell? ((a.add (i * sz)).add j) = some u ∧ Deep W (ea x j) u fp) ∧ ((DataW.weights P e elems[i].1).all (· ≤ reachBytes) = true → F x) := by
        intro i hi
        have h1 := hel i (by omega)
        rw [List.getElem?_eq_getElem hi, Option.bind_eq_some_iff] at h1
        obtain ⟨c, hcs, h2⟩ := h1
        obtain ⟨x, hcl, hd, hF⟩ := o.run h2
        rw [o.cells] at hcs
        refine ⟨x, fun j hj => ?_, hF⟩
        obtain ⟨fp, hd⟩ := hd j hj
        have hj' : c[j]? = some (c.getD j undef) := by
          have : j < c.length := by omega
          simp [List.getD, this]
        exact ⟨_, fp, (cells?_len hcs).2 j _ hj', hd⟩
      obtain ⟨xs, hxl, hxs⟩ : ∃ xs : List α, xs.length = elems.length ∧ ∀ i (hi : i < elems.length) x, xs[i]? = some x → (∀ j, j < sz → ∃ u fp, W.cell? ((a.add (i * sz)).add j) = some u ∧ Deep W (ea x j) u fp) ∧ ((DataW.weights P e elems[i].1).all (· ≤ reachBytes) = true → F x) := by
        refine ⟨List.ofFn (fun i : Fin elems.length => Classical.choose (each i.1 i.2)), by simp, fun i hi x hx => ?_⟩
        rw [List.getElem?_ofFn] at hx
        simp only [hi, dif_pos] at hx
        obtain rfl := Option.some.inj hx
        exact Classical.choose_spec (each i hi)
      refine ⟨xs, rfl, fun j hj => ?_, fun hw => ?_⟩
      · have : j = 0 := by omega
        subst this
        by_cases hcap : cap = 0
        · have hl0 : len = 0 := by omega
          have : xs = [] := List.eq_nil_of_length_eq_zero (by omega)
          subst this hcap hl0
          exact ⟨[], .sl0 (some a) rfl⟩
        · -- the last place, the first place
          have cell : ∀ i j, i < cap → j < sz → ∃ u, W.cell? ((a.add (i * sz)).add j) = some u := by
            intro i j hi hj
            have key : ∀ (r : Option (DataW H × List MemPlace)) y, (W.cells? 0 (a.add (i * P.cellsOf e)) (P.cellsOf e)).bind (DataW.trod enc P W 0 (fun _ => true) true n e) = r → r = some y → ∃ u, W.cell? ((a.add (i * sz)).add j) = some u := by
              intro r y hr hy
              rw [hy, Option.bind_eq_some_iff] at hr
              obtain ⟨c, hcs, _⟩ := hr
              rw [o.cells] at hcs
              obtain ⟨hcl, hcc⟩ := cells?_len hcs
              exact ⟨_, hcc j _ (List.getElem?_eq_getElem (by omega))⟩
            by_cases hi2 : i < len
            · exact key _ _ (hel i hi2) (List.getElem?_eq_getElem (by omega))
            · have := hre (i - len) (by omega)
              rw [show len + (i - len) = i by omega] at this
              exact key _ _ this (List.getElem?_eq_getElem (by omega))
          obtain ⟨u0, hu0⟩ := cell 0 0 (by omega) h0
          obtain ⟨B0, t0, fr0, hg, hsp, _⟩ := cell?_block hu0
          have ha : a = ⟨a.block, a.off, none⟩ := by
            have : a.spot = none := by simpa [Addr.add] using hsp
            cases a
            simp_all
          rw [add_block, add_block] at hg
          have cell' : ∀ i j u, W.cell? ((a.add (i * sz)).add j) = some u → B0[a.off + i * sz + j]? = some u := by
            intro i j u hu
            obtain ⟨B1, t1, fr1, hg1, _, hc1⟩ := cell?_block hu
            rw [add_block, add_block, hg] at hg1
            cases hg1
            rw [add_off, add_off] at hc1
            exact hc1
          have hr : a.off + cap * sz ≤ B0.size := by
            obtain ⟨u, hu⟩ := cell (cap - 1) (sz - 1) (by omega) (by omega)
            have := (Array.getElem?_eq_some_iff.1 (cell' _ _ _ hu)).1
            have e : cap * sz = (cap - 1) * sz + sz := by
              have : cap = (cap - 1) + 1 := by omega
              rw [this, Nat.add_mul]
              simp
            omega
          -- footprints
          obtain ⟨F2, hF2⟩ : ∃ F2 : Nat → Nat → List Nat, ∀ i x, xs[i]? = some x → ∀ j, j < sz → Deep W (ea x j) (B0.getD (a.off + i * sz + j) undef) (F2 i j) := by
            have : ∀ i, ∃ G : Nat → List Nat, ∀ x, xs[i]? = some x → ∀ j, j < sz → Deep W (ea x j) (B0.getD (a.off + i * sz + j) undef) (G j) := by
              intro i
              cases hx : xs[i]? with
              | none => exact ⟨fun _ => [], fun x h => by cases h⟩
              | some x =>
                have hi := lt_of_get hx
                obtain ⟨G, hG⟩ := pick_fp (n := sz) (R := fun j fp => Deep W (ea x j) (B0.getD (a.off + i * sz + j) undef) fp) (fun j hj => by
                  obtain ⟨u, fp, hu, hd⟩ := (hxs i (by omega) x hx).1 j hj
                  refine ⟨fp, ?_⟩
                  rw [Array.getD_eq_getD_getElem?, cell' i j u hu]
                  exact hd)
                exact ⟨G, fun x' h => by cases h; exact hG⟩
            obtain ⟨F2, h⟩ := Classical.axiomOfChoice this
            exact ⟨F2, h⟩
          have hlx : xs.length = len := by omega
          have d := Deep.sl (w := W) (sz := sz) (enc := ea) (xs := fun _ => xs) (g := a.block) (off := a.off) (cap := cap) (cs := B0) (t := t0) (fr := fr0) (fun i j => B0.getD (a.off + i * sz + j) undef) F2 (by show xs.length ≤ cap; omega) hg hr
            (fun i x hx j hj => by
              obtain ⟨u, fp, hu, _⟩ := (hxs i (by have := lt_of_get hx; have : i < xs.length := this; omega) x hx).1 j hj
              rw [Array.getD_eq_getD_getElem?, cell' i j u hu]
              rfl) hF2
          have e : Value.slice (some a) len cap = .slice (some ⟨a.block, a.off, none⟩) xs.length cap := by rw [← ha, hlx]
          obtain ⟨fp, d⟩ : ∃ fp, Deep W (.sl sz ea (fun _ => xs)) (.slice (some ⟨a.block, a.off, none⟩) xs.length cap) fp := ⟨_, d⟩
          rw [← e] at d
          exact ⟨fp, d⟩
      · simp only [DataW.weights, hu, List.all_cons, List.all_append, Bool.and_eq_true, decide_eq_true_eq, List.length_map] at hw
        obtain ⟨hw1, hw2, _⟩ := hw
        have hlx : xs.length = len := by omega
        refine ⟨by unfold maxLen at *; omega, ?_, fun x hx => ?_⟩
        · rw [hB] at hw1
          have : xs.length * B ≤ (elems.length + rest.length) * B := Nat.mul_le_mul_right _ (by omega)
          unfold reachBytes at hw1
          omega
        · obtain ⟨i, hi⟩ := List.getElem?_of_mem hx
          have hil : i < elems.length := by
            have := (List.getElem?_eq_some_iff.1 hi).1
            omega
          exact (hxs i hil x hi).2 (weightsAll_mem hw2 _ (by rw [List.mem_map]; exact ⟨elems[i], List.getElem_mem _, rfl⟩))⟩

/-- The fields from cell off on. -/
structure OFields {H : Type} (enc : TypeId × Value → H) (P : Program) (fs : List Field) (off : Nat) {α : Type} (sz : Nat) (ea : α → Nat → AV) (F : α → Prop) : Prop where
  run : ∀ {W : World} {fuel : Nat} {cs : List Value} {ys : List (DataW H × List MemPlace)}, (fs.mapM fun f => DataW.trod enc P W 0 (fun _ => true) true fuel f.type ((cs.drop f.offset).take (P.cellsOf f.type))) = some ys →
    cs.length = off + sz → ∃ x, (∀ j, j < sz → ∃ fp, Deep W (ea x j) (cs.getD (off + j) undef) fp) ∧ ((DataW.weightsEach P (fs.map (·.type)) (ys.map (·.1))).all (· ≤ reachBytes) = true → F x)

theorem getD_cut {cs : List Value} {off n j : Nat} (hj : j < n) : ((cs.drop off).take n).getD j undef = cs.getD (off + j) undef := by
  rw [List.getD_eq_getElem?_getD, List.getD_eq_getElem?_getD, List.getElem?_take, if_pos hj, List.getElem?_drop]

theorem ofields_one {α : Type} {f : Field} {off sz : Nat} {ea : α → Nat → AV} {F : α → Prop} (ho : f.offset = off) (o : Opens enc P f.type sz ea F) : OFields enc P [f] off sz ea F :=
  ⟨fun {W fuel cs ys} h hl => by
    rw [List.mapM_cons, Option.bind_eq_bind, Option.bind_eq_some_iff] at h
    obtain ⟨y, hy, h⟩ := h
    simp only [List.mapM_nil, Option.pure_def, Option.bind_eq_bind, Option.bind_some, Option.some.injEq] at h
    subst h
    rw [ho, o.cells] at hy
    obtain ⟨x, hcl, hd, hF⟩ := o.run hy
    refine ⟨x, fun j hj => ?_, fun hw => hF ?_⟩
    · rw [← getD_cut hj]; exact hd j hj
    · simpa [DataW.weightsEach] using hw⟩
theorem ofields_cons {α β : Type} {f : Field} {fs : List Field} {off off' sz sz' : Nat} {ea : α → Nat → AV} {eb : β → Nat → AV} {F : α → Prop} {F' : β → Prop} (ho : f.offset = off) (hoff : off + sz = off') (o : Opens enc P f.type sz ea F) (os : OFields enc P fs off' sz' eb F') :
    OFields enc P (f :: fs) off (sz + sz') (encP sz ea eb) (fun x => F x.1 ∧ F' x.2) :=
  ⟨fun {W fuel cs ys} h hl => by
    rw [List.mapM_cons, Option.bind_eq_bind, Option.bind_eq_some_iff] at h
    obtain ⟨y, hy, h⟩ := h
    rw [Option.bind_eq_bind, Option.bind_eq_some_iff] at h
    obtain ⟨ys', hys, h⟩ := h
    simp only [Option.pure_def, Option.some.injEq] at h
    subst h
    rw [ho, o.cells] at hy
    obtain ⟨x, hcl, hd, hF⟩ := o.run hy
    obtain ⟨x', hd', hF'⟩ := os.run hys (by omega)
    refine ⟨(x, x'), fun j hj => ?_, fun hw => ?_⟩
    · unfold encP
      by_cases hjs : j < sz
      · rw [if_pos hjs, ← getD_cut hjs]; exact hd j hjs
      · rw [if_neg hjs]
        have := hd' (j - sz) (by omega)
        rw [show off' + (j - sz) = off + j by omega] at this
        exact this
    · simp only [List.map_cons, DataW.weightsEach, List.all_append, Bool.and_eq_true] at hw
      exact ⟨hF hw.1, hF' hw.2⟩⟩
theorem opens_struct {α β : Type} {fs : Array Field} {sz : Nat} {ea : α → Nat → AV} {eb : β → Nat → AV} {F : α → Prop} (hu : P.underlying t = some (.struct fs)) (hc : P.cellsOf t = sz) (o : OFields enc P fs.toList 0 sz ea F) (f : β → α) (g : α → β) (hg : ∀ x, f (g x) = x) (he : ∀ x j, j < sz → eb (g x) j = ea x j) :
    Opens enc P t sz eb (fun x => F (f x)) :=
  ⟨hc, fun {W fuel cs y} h => by
    obtain ⟨n, hl, hy⟩ : ∃ n, cs.length = P.cellsOf t ∧ (fs.toList.mapM fun f => DataW.trod enc P W 0 (fun _ => true) true n f.type ((cs.drop f.offset).take (P.cellsOf f.type))).map (fun xs => (DataW.agg (xs.map (·.1)), xs.flatMap (·.2))) = some y := by
      cases fuel with
      | zero => cases h
      | succ n =>
        unfold DataW.trod at h
        rw [hu] at h
        simp only at h
        split at h
        · exact ⟨n, ‹_›, h⟩
        · cases h
    rw [Option.map_eq_some_iff] at hy
    obtain ⟨ys, hys, rfl⟩ := hy
    obtain ⟨x, hd, hF⟩ := o.run hys (by omega)
    refine ⟨g x, by omega, fun j hj => ?_, fun hw => ?_⟩
    · rw [he x j hj]
      have := hd j hj
      rw [Nat.zero_add] at this
      exact this
    · show F (f (g x))
      rw [hg]
      simp only [DataW.weights, hu] at hw
      exact hF hw⟩

/-- The weight of one argument among all. -/
theorem weightsEach_at {ts : List TypeId} {ds : List (DataW H)} (h : (DataW.weightsEach P ts ds).all (· ≤ reachBytes) = true) : ∀ {j : Nat} {t : TypeId} {d : DataW H}, ts[j]? = some t → ds[j]? = some d → (DataW.weights P t d).all (· ≤ reachBytes) = true := by
  induction ts generalizing ds with
  | nil => intro j t d ht; simp at ht
  | cons a ts ih =>
    cases ds with
    | nil => intro j t d _ hd; simp at hd
    | cons b ds =>
      rw [DataW.weightsEach, List.all_append, Bool.and_eq_true] at h
      intro j t d ht hd
      cases j with
      | zero =>
        simp only [List.getElem?_cons_zero, Option.some.injEq] at ht hd
        subst ht hd
        exact h.1
      | succ j =>
        simp only [List.getElem?_cons_succ] at ht hd
        exact ih h.2 ht hd

/-- One value of an argument. -/
theorem Opens.one {α : Type} {ea : α → Nat → AV} {F : α → Prop} (o : Opens enc P t 1 ea F) {W : World} {v : Value} {y : DataW H} {p : List MemPlace} (h : DataW.Trod enc P W 0 (fun _ => true) true t v y p)
    (hv : v.cells = #[v]) (hw : (DataW.weights P t y).all (· ≤ reachBytes) = true) : ∃ x fp, Deep W (ea x 0) v fp ∧ F x := by
  obtain ⟨fuel, hf⟩ := h
  obtain ⟨x, _, hd, hF⟩ := o.run hf
  obtain ⟨fp, hd⟩ := hd 0 (by omega)
  rw [hv] at hd
  exact ⟨x, fp, hd, hF hw⟩
theorem Opens.agg {α : Type} {sz : Nat} {ea : α → Nat → AV} {F : α → Prop} (o : Opens enc P t sz ea F) {W : World} {v : Value} {y : DataW H} {p : List MemPlace} (h : DataW.Trod enc P W 0 (fun _ => true) true t v y p)
    {us : Array Value} (hv : v = .agg us) (hw : (DataW.weights P t y).all (· ≤ reachBytes) = true) : ∃ x fp, Deep W (.agg ((List.range sz).map (ea x))) v fp ∧ F x := by
  obtain ⟨fuel, hf⟩ := h
  subst hv
  obtain ⟨x, hl, hd, hF⟩ := o.run hf
  obtain ⟨G, hG⟩ := pick_fp (n := sz) (R := fun j fp => Deep W (ea x j) (us.getD j undef) fp) (fun j hj => by
    obtain ⟨fp, hd⟩ := hd j hj
    refine ⟨fp, ?_⟩
    have e : (Value.cells (.agg us)).toList.getD j undef = us.getD j undef := by
      rw [List.getD_eq_getElem?_getD, Array.getD_eq_getD_getElem?]
      simp [Value.cells]
    rw [← e]
    exact hd)
  refine ⟨x, _, .agg G ?_ (fun i z hz => ?_), hF hw⟩
  · have : us.toList.length = sz := hl
    simpa using this
  · rw [List.getElem?_map, Option.map_eq_some_iff] at hz
    obtain ⟨i', hi', rfl⟩ := hz
    have hlt := lt_of_get hi'
    rw [List.length_range] at hlt
    rw [List.getElem?_range hlt] at hi'
    cases hi'
    exact hG i hlt
end
end Go.V

namespace Go.V
open Go Go.RowKit

/-! ### For use -/
/-- A function whose code is known in short. -/
structure Known (P : Program) (mu : Nat → Bool) (f : Nat) (m : MCode) (rs : List RV) (n : Nat) : Prop where
  ok : ∃ fn c H, P.follows .mixedOrders = true ∧ P.funcs[f]? = some fn ∧ fn.name ≠ "runtime.NumGoroutine" ∧ fn.body = some c ∧ compC P mu fn.ntmps H c = some m ∧ fn.results.toList.mapM (compR P) = some rs ∧ fn.ntmps = n
theorem Known.fn {P : Program} {mu : Nat → Bool} {f : Nat} {m : MCode} {rs : List RV} {n : Nat} (k : Known P mu f m rs n) {args : List AV} {r : AV} (hl : Nat.ble args.length n = true) (h : Sat P (fun q => LeD q r) [] (runT m rs args)) : Fn P f args r := by
  obtain ⟨fn, c, H, h1, h2, h3, h4, h5, h6, h7⟩ := k.ok
  exact fn_of h1 h2 h3 h4 h5 h6 (by rw [h7]; exact Nat.le_of_ble_eq_true hl) h
theorem Known.of {P : Program} {mu : Nat → Bool} {f : Nat} {m : MCode} {rs : List RV} {fn : Func} (H : Hints) (h1 : P.follows .mixedOrders = true) (h2 : P.funcs[f]? = some fn) (h3 : (fn.name != "runtime.NumGoroutine") = true) (h4 : fn.body.isSome = true) (h5 : compC P mu fn.ntmps H (fn.body.getD .skip) = some m)
    (h6 : fn.results.toList.mapM (compR P) = some rs) : Known P mu f m rs fn.ntmps := by
  refine ⟨fn, fn.body.getD .skip, H, h1, h2, by simpa using h3, ?_, h5, h6, rfl⟩
  cases e : fn.body with
  | none => rw [e] at h4; cases h4
  | some c => rfl

theorem led_bo {b b' : Bool} (h : b = b') : LeD (.bo b) (.bo b') := h ▸ .same _
/-- Each value of a list may stand for the other's. -/
theorem led_nil : ∀ (i : Nat) (x y : AV), ([] : List AV)[i]? = some x → ([] : List AV)[i]? = some y → LeD x y := fun i x y h => by simp at h
theorem led_cons {a b : AV} {l r : List AV} (h : LeD a b) (hr : ∀ (i : Nat) (x y : AV), l[i]? = some x → r[i]? = some y → LeD x y) : ∀ (i : Nat) (x y : AV), (a :: l)[i]? = some x → (b :: r)[i]? = some y → LeD x y := fun i x y hx hy => by
  cases i with
  | zero => simp at hx hy; subst hx hy; exact h
  | succ i => exact hr i x y (by simpa using hx) (by simpa using hy)
end Go.V

namespace Go.V
open Go Go.RowKit Go.ChangeShapes Go.WideShapes

/-! ### A law's row -/
/-- What the form reads of the arguments reads as avs x, for some x with F. -/
def Takes {H : Type} (enc : TypeId × Value → H) (P : Program) (ts : List TypeId) {X : Type} (avs : X → List AV) (F : X → Prop) : Prop :=
  ∀ (W : World) (base : Nat) (vs : List Value) (ds : List (DataW H)) (ps : List MemPlace), DataW.TrodAll enc P W 0 (fun _ => true) true ts vs ds ps → (∀ (j : Nat) t v, ts[j]? = some t → vs[j]? = some v → Value.okWide P W .any base t v) →
    (DataW.weightsEach P ts ds).all (· ≤ reachBytes) = true → ∃ x, F x ∧ vs.length = (avs x).length ∧ ∀ (i : Nat) (a : AV), (avs x)[i]? = some a → ∃ fp, Deep W a (vs.getD i undef) fp
section
variable {H : Type} {enc : TypeId × Value → H} {P : Program} {ts : List TypeId} {t : TypeId}
theorem takes_nil : Takes enc P [] (fun _ : Unit => []) (fun _ => True) := fun W base vs ds ps h _ _ => by
  obtain ⟨rfl, rfl, rfl⟩ := trodAll_nil h
  exact ⟨(), trivial, rfl, fun i a h => by simp at h⟩
theorem takes_cons {α X : Type} {b : α → AV} {avs : X → List AV} {F : α → Prop} {G : X → Prop} (o : ∀ (W : World) (base : Nat) (v : Value) (y : DataW H) (p : List MemPlace), DataW.Trod enc P W 0 (fun _ => true) true t v y p → Value.okWide P W .any base t v → (DataW.weights P t y).all (· ≤ reachBytes) = true → ∃ x fp, Deep W (b x) v fp ∧ F x)
    (h : Takes enc P ts avs G) : Takes enc P (t :: ts) (fun x : α × X => b x.1 :: avs x.2) (fun x => F x.1 ∧ G x.2) := fun W base vs ds ps ht hv hw => by
  obtain ⟨v, vs', d, ds', p, q, rfl, rfl, rfl, h1, h2⟩ := trodAll_cons ht
  rw [DataW.weightsEach, List.all_append, Bool.and_eq_true] at hw
  obtain ⟨x, fp, hd, hF⟩ := o W base v d p h1 (hv 0 t v rfl rfl) hw.1
  obtain ⟨x', hG, hl, hd'⟩ := h W base vs' ds' q h2 (fun j t v h1 h2 => hv (j + 1) t v h1 h2) hw.2
  refine ⟨(x, x'), ⟨hF, hG⟩, by simp [hl], fun i a ha => ?_⟩
  cases i with
  | zero => simp at ha; subst ha; exact ⟨fp, hd⟩
  | succ i => exact hd' i a (by simpa using ha)
theorem takes_int {k : IntKind} {X : Type} {avs : X → List AV} {G : X → Prop} (hu : P.underlying t = some (.int k)) (h : Takes enc P ts avs G) : Takes enc P (t :: ts) (fun x : Int × X => .int k (fun _ => x.1) :: avs x.2) (fun x => (Lit.int k x.1).wf = true ∧ G x.2) :=
  takes_cons (b := fun x => .int k (fun _ => x)) (F := fun x => (Lit.int k x).wf = true) (fun W base v y p h hv _ => by
    obtain ⟨n, rfl, _, _, hw⟩ := open_int hu hv h
    exact ⟨n, [], .int k _, hw⟩) h
theorem takes_bool {X : Type} {avs : X → List AV} {G : X → Prop} (hu : P.underlying t = some .bool) (h : Takes enc P ts avs G) : Takes enc P (t :: ts) (fun x : Bool × X => .bo x.1 :: avs x.2) (fun x => True ∧ G x.2) :=
  takes_cons (b := fun x => .bo x) (F := fun _ => True) (fun W base v y p h hv _ => by
    obtain ⟨n, rfl, _, _⟩ := open_bool hu hv h
    exact ⟨n, [], .bo _, trivial⟩) h
theorem takes_string {X : Type} {avs : X → List AV} {G : X → Prop} (hu : P.underlying t = some .string) (hc : P.cellsOf t = 1) (h : Takes enc P ts avs G) : Takes enc P (t :: ts) (fun x : ByteArray × X => .str (fun _ => x.1) :: avs x.2) (fun x => x.1.size ≤ 140737488351232 ∧ G x.2) :=
  takes_cons (b := fun x => .str (fun _ => x)) (F := fun s => s.size ≤ 140737488351232) (fun W base v y p h hv hw => by
    obtain ⟨s, rfl⟩ := okWide_string hu hv
    obtain ⟨x, fp, hd, hF⟩ := (opens_string hu hc).one h rfl hw
    exact ⟨x, fp, hd, hF⟩) h
theorem takes_slice {α X : Type} {ea : α → Nat → AV} {F : α → Prop} {avs : X → List AV} {G : X → Prop} {e : TypeId} {sz : Nat} {F' : List α → Prop} (hu : P.underlying t = some (.slice e)) (o : Opens enc P t 1 (encL sz ea) F') (h : Takes enc P ts avs G) :
    Takes enc P (t :: ts) (fun x : List α × X => .sl sz ea (fun _ => x.1) :: avs x.2) (fun x => F' x.1 ∧ G x.2) :=
  takes_cons (b := fun x => .sl sz ea (fun _ => x)) (F := F') (fun W base v y p h hv hw => by
    obtain ⟨a, n, c, rfl⟩ := okWide_slice hu hv
    obtain ⟨x, fp, hd, hF⟩ := o.one h rfl hw
    exact ⟨x, fp, hd, hF⟩) h
theorem takes_agg {α X : Type} {ea : α → Nat → AV} {F : α → Prop} {avs : X → List AV} {G : X → Prop} {fs : Array Field} {sz : Nat} (hu : P.underlying t = some (.struct fs)) (o : Opens enc P t sz ea F) (h : Takes enc P ts avs G) :
    Takes enc P (t :: ts) (fun x : α × X => .agg ((List.range sz).map (ea x.1)) :: avs x.2) (fun x => F x.1 ∧ G x.2) :=
  takes_cons (b := fun x => .agg ((List.range sz).map (ea x))) (F := F) (fun W base v y p h hv hw => by
    obtain ⟨cs, hcs, _⟩ := okWide_struct hu hv
    obtain ⟨x, fp, hd, hF⟩ := o.agg h hcs hw
    exact ⟨x, fp, hd, hF⟩) h

/-- Arguments behind a call that leaves them. -/
theorem back {W W' : World} (hl : laidOutB P = true) (bel : Below W.heap.size W W') : ∀ {ts : List TypeId} {vs : List Value} {ds : List (DataW H)} {ps : List MemPlace}, (ts.all fun t => P.readableRec t && Nat.blt t P.types.size) = true →
    DataW.TrodAll enc P W 0 (fun _ => true) true ts vs ds ps → DataW.TrodAll enc P W' 0 (fun b => decide (b < W.heap.size)) true ts vs ds ps
  | [], vs, ds, ps, _, h => by
    obtain ⟨rfl, rfl, rfl⟩ := trodAll_nil h
    exact trodAll_mk0
  | t :: ts, vs, ds, ps, ht, h => by
    obtain ⟨v, vs', d, ds', p, q, rfl, rfl, rfl, h1, h2⟩ := trodAll_cons h
    rw [List.all_cons, Bool.and_eq_true, Bool.and_eq_true] at ht
    have lt : ∀ x ∈ p, x.block < W.heap.size := by
      obtain ⟨m, hm⟩ := h1
      exact DataW.trod_lt m _ _ _ hm
    exact trodAll_cons_mk (Below.trod hl ht.1.1 (by have := ht.1.2; rw [Nat.blt_eq] at this; exact this) h1 bel lt) (back hl bel ht.2 h2)
end

theorem trodAll_len {H : Type} {enc : TypeId × Value → H} {P : Program} {W : World} : ∀ {ts : List TypeId} {vs : List Value} {ds : List (DataW H)} {ps : List MemPlace}, DataW.TrodAll enc P W 0 (fun _ => true) true ts vs ds ps → ts.length = ds.length
  | [], vs, ds, ps, h => by
    obtain ⟨rfl, rfl, rfl⟩ := trodAll_nil h
    rfl
  | t :: ts, vs, ds, ps, h => by
    obtain ⟨v, vs', d, ds', p, q, rfl, rfl, rfl, h1, h2⟩ := trodAll_cons h
    rw [List.length_cons, List.length_cons, trodAll_len h2]
/-- What becomes of a law whose function's contract says true. -/
theorem lifted_of {C : Checked} {f : Nat} {fn : Func} {s : ChangeSpec} {conds : List PathCond} {rt : TypeId} (own : ownKnob C.prog.godebug = none) (laid : laidOutB C.prog = true) (noInit : C.prog.inits.idxOf? f = none) (hf : C.prog.funcs[f]? = some fn) (hv : s.vars = [])
    (hread : (fn.params.toList.all fun t => C.prog.readableRec t && Nat.blt t C.prog.types.size) = true) (hrt : C.prog.underlying rt = some .bool) (hres : fn.resultTypes = #[rt]) {ts : List TypeId} (hts : fn.params.toList = ts) (hargs : ∀ (H : Type) (ds : List (DataW H)), ds.length = ts.length → s.fn H ds = { results := [.lit (.bool true)], args := ds })
    {X : Type} {avs : X → List AV} {F : X → Prop} (ht : ∀ (H : Type) (enc : TypeId × Value → H), Takes enc C.prog ts avs F) (hF : ∀ x, F x → Fn C.prog f (avs x) (.bo true)) (os : Os) (started : os.Started) (H : Type) (enc : TypeId × Value → H)
    (witness : ∃ (w : World) (tape : Tape) (i : Input), w.os = os ∧ (w.forCall tape i).Shaped C.prog ∧ i.vars = [] ∧ Input.okWide C.prog (w.forCall tape i) .any w.heap.size f i ∧ s.pre6 enc C.prog fn conds false (w.forCall tape i).memory i.args ∧ ({} : Assume).holds C.prog (lone (Frame.enter C.prog f i.args .normal) [] (w.forCall tape i))) :
    ReturnsInHanded {} C os f .any (s.pre6 enc C.prog fn conds false) (s.post enc C.prog fn false true false false) := by
  subst hts
  refine returnsInHanded_of_change_sized own started noInit hf witness ?_
  intro W base args ds gs before hval0 hW hcnd hsz0 _
  have hvt : s.plain.varTypes C.prog = [] := by
    unfold ChangeSpec.plain
    simp [DataSpec.varTypes, hv]
  rw [hvt, List.append_nil] at hsz0
  have hW' := hW
  obtain ⟨p, q, hA, hV, hbef, hfz, hnd⟩ := hW
  rw [hv] at hV
  obtain ⟨rfl, rfl⟩ := trodVars_none hV
  rw [List.append_nil] at hsz0
  obtain ⟨x, hFx, hlen, hd⟩ := ht H enc W base args.toList ds p hA (fun j t v h1 h2 => hval0 j t v (by simpa using h1) (by simpa using h2)) hsz0
  obtain ⟨G, hG⟩ := pick_fp (n := (avs x).length) (R := fun i fp => ∀ a, (avs x)[i]? = some a → Deep W a (args.getD i undef) fp) (fun i hi => by
    obtain ⟨fp, h⟩ := hd i _ (List.getElem?_eq_getElem hi)
    refine ⟨fp, fun a ha => ?_⟩
    rw [List.getElem?_eq_getElem hi] at ha
    cases ha
    rw [List.getD_eq_getElem?_getD] at h
    rw [Array.getD_eq_getD_getElem?, ← Array.getElem?_toList]
    exact h)
  refine ((hF x hFx).2 W args G (by simpa using hlen) (fun i a ha => hG i (lt_of_get ha) a ha)).mono fun e W' he => ?_
  obtain ⟨v, fp, rfl, hdv, _, _, bel⟩ := he
  cases hdv
  have hdl := trodAll_len hA
  have e : s.fn H (ds ++ []) = { results := [.lit (.bool true)], args := ds } := by rw [List.append_nil]; exact hargs H ds hdl.symm
  refine ⟨_, rfl, ds, [], before, [], p, [], hW', ?_, ?_, ?_, bel.frame _, fun h => by cases h⟩
  · rw [e, hres]
    exact trodAll_mk1 (shut_bool hrt true)
  · rw [e]
    exact back laid bel hread hA
  · rw [e, hv]
    rfl
end Go.V

namespace Go.V
open Go Go.RowKit

/-! ### At a loop's head -/
theorem slot_mem {t : Nat} : ∀ {l : List (Nat × AV)}, slot t l = .any ∨ ∃ v, (t, v) ∈ l ∧ slot t l = v
  | [] => .inl rfl
  | p :: r => by
    rw [slot]
    cases e : Nat.beq p.1 t with
    | true =>
      have := Nat.eq_of_beq_eq_true e
      subst this
      exact .inr ⟨p.2, List.mem_cons_self .., rfl⟩
    | false =>
      rcases slot_mem (t := t) (l := r) with h | ⟨v, h1, h2⟩
      · exact .inl h
      · exact .inr ⟨v, List.mem_cons_of_mem _ h1, h2⟩
theorem look_in {b : Nat} {k : Blk} : ∀ {l : List (Nat × Blk)}, look b l = some k → (b, k) ∈ l
  | [], h => by cases h
  | p :: r, h => by
    rw [look] at h
    cases e : Nat.beq p.1 b with
    | true =>
      rw [e, cond_true] at h
      cases h
      have := Nat.eq_of_beq_eq_true e
      subst this
      exact List.mem_cons_self ..
    | false =>
      rw [e, cond_false] at h
      exact List.mem_cons_of_mem _ (look_in h)
def TmOk (s : St) (st1 : List (Nat × Blk)) : List (Nat × AV) → Prop
  | [] => True
  | p :: r => LeV s.st st1 (slot p.1 s.tm) p.2 ∧ TmOk s st1 r
def BkOk (s : St) (st1 : List (Nat × Blk)) (nx : Nat) : List (Nat × Blk) → Prop
  | [] => True
  | p :: r => (((∃ k', look p.1 s.st = some k' ∧ LeK s.st st1 k' p.2) ∨ (look p.1 s.st = none ∧ phantom p.2)) ∧ p.1 < nx) ∧ BkOk s st1 nx r
theorem TmOk.mem {s : St} {st1 : List (Nat × Blk)} : ∀ {l : List (Nat × AV)}, TmOk s st1 l → ∀ p ∈ l, LeV s.st st1 (slot p.1 s.tm) p.2
  | [], _, p, hp => by cases hp
  | q :: r, h, p, hp => by
    rcases List.mem_cons.1 hp with rfl | hp
    · exact h.1
    · exact TmOk.mem h.2 p hp
theorem BkOk.mem {s : St} {st1 : List (Nat × Blk)} {nx : Nat} : ∀ {l : List (Nat × Blk)}, BkOk s st1 nx l → ∀ p ∈ l, ((∃ k', look p.1 s.st = some k' ∧ LeK s.st st1 k' p.2) ∨ (look p.1 s.st = none ∧ phantom p.2)) ∧ p.1 < nx
  | [], _, p, hp => by cases hp
  | q :: r, h, p, hp => by
    rcases List.mem_cons.1 hp with rfl | hp
    · exact h.1
    · exact BkOk.mem h.2 p hp
theorem les_of {s : St} {tm1 : List (Nat × AV)} {st1 : List (Nat × Blk)} {nx : Nat} (h1 : TmOk s st1 tm1) (h2 : BkOk s st1 nx st1) : LeS s ⟨tm1, st1, nx⟩ := by
  refine ⟨fun t => ?_, fun b k hk => (h2.mem _ (look_in hk)).1, fun b k hk => (h2.mem _ (look_in hk)).2⟩
  rcases slot_mem (t := t) (l := tm1) with h | ⟨v, hm, h⟩
  · show LeV _ _ _ (slot t tm1)
    rw [h]; exact .any _
  · show LeV _ _ _ (slot t tm1)
    rw [h]; exact h1.mem _ hm

/-- The state, with other values in some slots and blocks. -/
def patchT (ch : List (Nat × AV)) : List (Nat × AV) → List (Nat × AV)
  | [] => []
  | p :: r => (p.1, match ch.find? (fun q => Nat.beq q.1 p.1) with | some q => q.2 | none => p.2) :: patchT ch r
def patchB (cb : List (Nat × Blk)) : List (Nat × Blk) → List (Nat × Blk)
  | [] => []
  | p :: r => match cb.find? (fun q => Nat.beq q.1 p.1) with | some _ => patchB cb r | none => p :: patchB cb r
/-- nx: the first number of what comes. -/
def patch (s : St) (ch : List (Nat × AV)) (cb : List (Nat × Blk)) : St := ⟨patchT ch s.tm, cb ++ patchB cb s.st, s.nx + cb.length⟩

variable {P : Program} {Q : AV → Prop}
theorem Sat.loopP {As : List (St → Prop)} {s : St} {body : St → Tree} {ι : Type} (ch : ι → List (Nat × AV)) (cb : ι → List (Nat × Blk)) (G : ι → Prop) (μ : ι → Nat) (x0 : ι) (hs : LeS s (patch s (ch x0) (cb x0))) (hg : G x0)
    (hb : ∀ x, G x → Sat P Q ((fun s' => ∃ y, LeS s' (patch s (ch y) (cb y)) ∧ G y ∧ μ y < μ x) :: As) (body (patch s (ch x) (cb x)))) : Sat P Q As (.loop s body) :=
  .loop (fun x => patch s (ch x) (cb x)) G μ x0 hs hg hb
theorem Sat.next {ι : Type} {As : List (St → Prop)} {s : St} {G : ι → Prop} {μ : ι → Nat} {S : ι → St} {x : ι} (y : ι) (h : LeS s (S y)) (hg : G y) (hm : μ y < μ x) : Sat P Q ((fun s' => ∃ y, LeS s' (S y) ∧ G y ∧ μ y < μ x) :: As) (.again s) :=
  .again ⟨y, h, hg, hm⟩
end Go.V
