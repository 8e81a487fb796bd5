/- A theory of its own: Go code in short, evaluated, with proof that the machine does what the evaluation tells. Conditions: those that each theorem states. Part 5. -/
import Derived.Test.YtbmbdfkeecifiaaGreatDoorV4
import Derived.LoopN
set_option linter.unusedVariables false
set_option linter.unusedSimpArgs false
namespace Go.V
open Go Go.RowKit
def voidOf (o : Oper) : MOper := ⟨o.dst, match o.dst with | some d => .mv (.tmp d) | none => .mv (.const (.bool false)), none, []⟩
def compOps2 (P : Program) (mu : Nat → Bool) (ops : Array Oper) (N : Nat) (vd fl : List Nat) : Nat → List Oper → List (List Nat) → Option (List MOper)
 | _, [], _ => some []
 | i, o :: r, hs => (bif memN i vd then some (voidOf o) else bif memN i fl then compFloat P N o else compO P mu ops N o (hs.headD [])).bind fun m => (compOps2 P mu ops N vd fl (i + 1) r hs.tail).map fun l => m :: l
def compPre (P : Program) (ops : Array Oper) (N : Nat) : List Nat → Option (List MOper)
 | [] => some []
 | i :: r => ((ops[i]?).bind (compFloat P N)).bind fun m => (compPre P ops N r).map fun l => m :: l
def direct (i : Nat) (o : Oper) : Bool := o.after.toList.any fun e => Region.binds .any e && Nat.beq e.on i
def apartAll (ops : Array Oper) (rows : List (List Nat)) (vd : List Nat) (lo i : Nat) (oi : Oper) : Nat → Bool
 | 0 => true
 | j + 1 => (Nat.beq j i || Nat.blt j lo || memN j vd || memN j (rowAt rows i) || (match ops[j]? with | some oj => direct i oj || oi.apart ops oj | none => true)) && apartAll ops rows vd lo i oi j
def aheadS (rows : List (List Nat)) (hide vd : List Nat) (lo i : Nat) : Nat → Bool
 | 0 => true
 | j + 1 => (Nat.blt j lo || memN j vd || memN j (rowAt rows i) || memN j hide) && aheadS rows hide vd lo i j
def dsFrom (vd : List Nat) (lo : Nat) : Nat → List MOper → List (Option Nat)
 | _, [] => []
 | i, m :: r => (bif Nat.blt i lo || memN i vd then none else m.dst) :: dsFrom vd lo (i + 1) r
def edgesOk (rows : List (List Nat)) (i : Nat) (o : Oper) : Bool := (rowAt rows i).all (fun j => Nat.blt j i) && o.after.toList.all (fun e => !Region.binds .any e || memN e.on (rowAt rows i))
def segOne (ops : Array Oper) (rows : List (List Nat)) (ds : List (Option Nat)) (vd fl : List Nat) (lo i : Nat) (o : Oper) (m : MOper) : Bool :=
 (tmpsOf o.op.operands.toList ++ gdOf m.gd).all (seeOk rows ds i) && edgesOk rows i o && (noStore m.op || aheadS rows m.hide vd lo i i) &&
   (match m.dst with | some d => (match wr d ds 0 with | some j => Nat.beq j i | none => false) | none => true) && (!memN i fl || apartAll ops rows vd lo i o ops.size)
def barBefore (rows : List (List Nat)) (vd fl : List Nat) (lo i : Nat) : Nat → Bool
 | 0 => true
 | j + 1 => (Nat.blt j lo || memN j vd || memN j fl || memN j (rowAt rows i)) && barBefore rows vd fl lo i j
def barAfter (rows : List (List Nat)) (vd : List Nat) (i : Nat) : Nat → Bool
 | 0 => true
 | j + 1 => (Nat.ble j i || memN j vd || memN i (rowAt rows j)) && barAfter rows vd i j
def isBar (m : MOper) : Bool := isMut m.op || isNbin m.op
def segAll (ops : Array Oper) (rows : List (List Nat)) (vd fl : List Nat) (all : List MOper) : Nat → Nat → List Oper → List MOper → Bool
 | _, _, [], [] => true
 | lo, i, o :: r, m :: q => bif memN i vd then segAll ops rows vd fl all lo (i + 1) r q
  else bif isBar m then edgesOk rows i o && barBefore rows vd fl lo i i && barAfter rows vd i ops.size && !memN i fl && segAll ops rows vd fl all (i + 1) (i + 1) r q
  else segOne ops rows (dsFrom vd lo 0 all) vd fl lo i o m && segAll ops rows vd fl all lo (i + 1) r q
 | _, _, _, _ => false
def preAll (ops : Array Oper) (rows : List (List Nat)) : List Nat → List Nat → Bool
 | _, [] => true
 | done, i :: r => (rowAt rows i).all (fun j => memN j done) && !memN i done && (match ops[i]? with | some o => edgesOk rows i o && apartAll ops rows done 0 i o ops.size | none => false) && preAll ops rows (i :: done) r
def edgesAll (rows : List (List Nat)) : Nat → List Oper → Bool
 | _, [] => true
 | i, o :: r => edgesOk rows i o && edgesAll rows (i + 1) r
def drawOk2 (ops : Array Oper) (pre fl : List Nat) (ml : List MOper) : Bool :=
 edgesAll (rowsOf ops.toList []) 0 ops.toList && pre.all (fun i => Nat.blt i ops.size && (rowAt (rowsOf ops.toList []) i).all (fun j => memN j pre)) && preAll ops (rowsOf ops.toList []) [] pre && segAll ops (rowsOf ops.toList []) pre fl ml 0 0 ops.toList ml
section
variable {P : Program} {Q : AV → Prop} {As : List (St → Prop)} {mu : Nat → Bool} {N nx : Nat} {ops : Array Oper} {w0 : Base}
theorem opsT_append : ∀ (A B : List MOper) (i : Nat) (K : St → Tree) (s : St), opsT nx (A ++ B) i K s = opsT nx A i (fun s' => opsT nx B (i + A.length) K s') s
 | [], B, i, K, s => rfl
 | m :: A, B, i, K, s => by
   have ih : ∀ s, opsT nx (A ++ B) (i + 1) K s = opsT nx A (i + 1) (fun s' => opsT nx B (i + (m :: A).length) K s') s := fun s => by
    rw [opsT_append A B (i + 1) K s, List.length_cons, show i + 1 + A.length = i + (A.length + 1) by omega]
   rw [List.cons_append, opsT, opsT]
   simp only [ih]
theorem apartAll_spec {rows : List (List Nat)} {vd : List Nat} {lo i : Nat} {oi : Oper} : ∀ {n : Nat}, apartAll ops rows vd lo i oi n = true → ∀ j oj, j < n → ops[j]? = some oj → j ≠ i → lo ≤ j → memN j vd = false → memN j (rowAt rows i) = false → (∀ e ∈ oj.after, Region.binds .any e = true → e.on ≠ i) → oi.apart ops oj = true
 | 0, _, j, oj, hj => by omega
 | n + 1, h, j, oj, hj => by
   rw [apartAll, Bool.and_eq_true] at h
   intro ho hne hlo hv hr hd
   by_cases e : j = n
   ·subst e
    have h1 := h.1
    simp only [Bool.or_eq_true, hv, hr, ho] at h1
    rcases h1 with (((h1 | h1) | h1) | h1) | h1
    ·exact absurd (Nat.eq_of_beq_eq_true h1) hne
    ·rw [Nat.blt_eq] at h1; omega
    ·cases h1
    ·cases h1
    ·rcases h1 with h1 | h1
     ·unfold direct at h1
      rw [List.any_eq_true] at h1
      obtain ⟨e, he, hb⟩ := h1
      rw [Bool.and_eq_true] at hb
      exact absurd (Nat.eq_of_beq_eq_true hb.2) (hd e (by simpa using he) hb.1)
     ·exact h1
   ·exact apartAll_spec h.2 j oj (by omega) ho hne hlo hv hr hd
theorem aheadS_spec {rows : List (List Nat)} {hide vd : List Nat} {lo i : Nat} : ∀ {k : Nat}, aheadS rows hide vd lo i k = true → ∀ j, j < k → j < lo ∨ memN j vd = true ∨ memN j (rowAt rows i) = true ∨ memN j hide = true
 | 0, _, j, hj => by omega
 | k + 1, h, j, hj => by
   rw [aheadS, Bool.and_eq_true] at h
   by_cases e : j = k
   ·subst e
    have h1 := h.1
    simp only [Bool.or_eq_true, Nat.blt_eq] at h1
    rcases h1 with ((h1 | h1) | h1) | h1
    ·exact .inl h1
    ·exact .inr (.inl h1)
    ·exact .inr (.inr (.inl h1))
    ·exact .inr (.inr (.inr h1))
   ·exact aheadS_spec h.2 j (by omega)
theorem barBefore_spec {rows : List (List Nat)} {vd fl : List Nat} {lo i : Nat} : ∀ {k : Nat}, barBefore rows vd fl lo i k = true → ∀ j, j < k → j < lo ∨ memN j vd = true ∨ memN j fl = true ∨ memN j (rowAt rows i) = true
 | 0, _, j, hj => by omega
 | k + 1, h, j, hj => by
   rw [barBefore, Bool.and_eq_true] at h
   by_cases e : j = k
   ·subst e
    have h1 := h.1
    simp only [Bool.or_eq_true, Nat.blt_eq] at h1
    rcases h1 with ((h1 | h1) | h1) | h1
    ·exact .inl h1
    ·exact .inr (.inl h1)
    ·exact .inr (.inr (.inl h1))
    ·exact .inr (.inr (.inr h1))
   ·exact barBefore_spec h.2 j (by omega)
theorem barAfter_spec {rows : List (List Nat)} {vd : List Nat} {i : Nat} : ∀ {k : Nat}, barAfter rows vd i k = true → ∀ j, j < k → i < j → memN j vd = true ∨ memN i (rowAt rows j) = true
 | 0, _, j, hj => by omega
 | k + 1, h, j, hj => by
   rw [barAfter, Bool.and_eq_true] at h
   intro hij
   by_cases e : j = k
   ·subst e
    have h1 := h.1
    simp only [Bool.or_eq_true] at h1
    rcases h1 with (h1 | h1) | h1
    ·have := Nat.le_of_ble_eq_true h1; omega
    ·exact .inl h1
    ·exact .inr h1
   ·exact barAfter_spec h.2 j (by omega) hij
theorem dsFrom_at {vd : List Nat} {lo : Nat} : ∀ {l : List MOper} {i j : Nat}, (dsFrom vd lo i l)[j]? = (l[j]?).map fun m => bif Nat.blt (i + j) lo || memN (i + j) vd then none else m.dst
 | [], i, j => by simp [dsFrom]
 | m :: r, i, j => by
   cases j with
   | zero => simp [dsFrom]
   | succ j =>
     rw [dsFrom, List.getElem?_cons_succ, List.getElem?_cons_succ, dsFrom_at (l := r) (i := i + 1), show i + 1 + j = i + (j + 1) by omega]
theorem edgesOk_spec {rows : List (List Nat)} {i : Nat} {o : Oper} (h : edgesOk rows i o = true) : (∀ j, memN j (rowAt rows i) = true → j < i) ∧ ∀ e ∈ o.after, Region.binds .any e = true → memN e.on (rowAt rows i) = true := by
 unfold edgesOk at h
 rw [Bool.and_eq_true] at h
 refine ⟨fun j hj => ?_, fun e he hb => ?_⟩
 ·have := List.all_eq_true.1 h.1 j (memN_spec.1 hj)
  rwa [Nat.blt_eq] at this
 ·have := List.all_eq_true.1 h.2 e (by simpa using he)
  rw [hb] at this
  simpa using this
theorem edgesAll_spec {rows : List (List Nat)} : ∀ {l : List Oper} {i : Nat}, edgesAll rows i l = true → ∀ (j : Nat) (o : Oper), l[j]? = some o → edgesOk rows (i + j) o = true
 | [], i, _, j, o, h => by simp at h
 | x :: l, i, h, j, o, hj => by
   rw [edgesAll, Bool.and_eq_true] at h
   cases j with
   | zero => simp at hj; subst hj; exact h.1
   | succ j =>
     have := edgesAll_spec h.2 j o (by simpa using hj)
     rw [show i + 1 + j = i + (j + 1) by omega] at this
     exact this
theorem segAll_next {rows : List (List Nat)} {vd fl : List Nat} {all : List MOper} : ∀ {l : List Oper} {ml : List MOper} {lo i : Nat}, segAll ops rows vd fl all lo i l ml = true →
 ∃ k, k ≤ ml.length ∧ (∀ (j : Nat) (o : Oper) (m : MOper), j < k → l[j]? = some o → ml[j]? = some m → memN (i + j) vd = true ∨ (isBar m = false ∧ segOne ops rows (dsFrom vd lo 0 all) vd fl lo (i + j) o m = true)) ∧
   (k = ml.length ∨ ∃ o m, l[k]? = some o ∧ ml[k]? = some m ∧ memN (i + k) vd = false ∧ isBar m = true ∧ edgesOk rows (i + k) o = true ∧ barBefore rows vd fl lo (i + k) (i + k) = true ∧ barAfter rows vd (i + k) ops.size = true ∧ memN (i + k) fl = false ∧
     segAll ops rows vd fl all (i + k + 1) (i + k + 1) (l.drop (k + 1)) (ml.drop (k + 1)) = true)
 | [], [], _, _, _ => ⟨0, Nat.le_refl _, fun j o m hj => by omega, .inl rfl⟩
 | [], _ :: _, _, _, h => by simp [segAll] at h
 | _ :: _, [], _, _, h => by simp [segAll] at h
 | o :: l, m :: ml, lo, i, h => by
   rw [segAll] at h
   have more : segAll ops rows vd fl all lo (i + 1) l ml = true → (memN i vd = true ∨ (isBar m = false ∧ segOne ops rows (dsFrom vd lo 0 all) vd fl lo i o m = true)) → ∃ k, k ≤ (m :: ml).length ∧ (∀ (j : Nat) (o' : Oper) (m' : MOper), j < k → (o :: l)[j]? = some o' → (m :: ml)[j]? = some m' → memN (i + j) vd = true ∨ (isBar m' = false ∧ segOne ops rows (dsFrom vd lo 0 all) vd fl lo (i + j) o' m' = true)) ∧
    (k = (m :: ml).length ∨ ∃ o' m', (o :: l)[k]? = some o' ∧ (m :: ml)[k]? = some m' ∧ memN (i + k) vd = false ∧ isBar m' = true ∧ edgesOk rows (i + k) o' = true ∧ barBefore rows vd fl lo (i + k) (i + k) = true ∧ barAfter rows vd (i + k) ops.size = true ∧ memN (i + k) fl = false ∧
      segAll ops rows vd fl all (i + k + 1) (i + k + 1) ((o :: l).drop (k + 1)) ((m :: ml).drop (k + 1)) = true) := by
    intro h h0
    obtain ⟨k, k1, k2, k3⟩ := segAll_next h
    refine ⟨k + 1, by simp; omega, fun j o' m' hj ho hm => ?_, ?_⟩
    ·cases j with
     | zero => simp at ho hm; subst ho hm; exact h0
     | succ j =>
       have := k2 j o' m' (by omega) (by simpa using ho) (by simpa using hm)
       rw [show i + 1 + j = i + (j + 1) by omega] at this
       exact this
    ·rcases k3 with k3 | ⟨o', m', e1, e2, e3, e4, e5, e6, e7, e8, e9⟩
     ·exact .inl (by simp [k3])
     ·rw [show i + 1 + k = i + (k + 1) by omega] at e3 e5 e6 e7 e8 e9
      exact .inr ⟨o', m', by simpa using e1, by simpa using e2, e3, e4, e5, e6, e7, e8, by simpa using e9⟩
   cases e1 : memN i vd with
   | true => rw [e1, cond_true] at h; exact more h (.inl e1)
   | false =>
     rw [e1, cond_false] at h
     cases e2 : isBar m with
     | true =>
       rw [e2, cond_true] at h
       simp only [Bool.and_eq_true, Bool.not_eq_true'] at h
       obtain ⟨⟨⟨⟨h1, h2⟩, h3⟩, h4⟩, h5⟩ := h
       exact ⟨0, Nat.zero_le _, fun j o m hj => by omega, .inr ⟨o, m, rfl, rfl, e1, e2, h1, h2, h3, h4, h5⟩⟩
     | false =>
       rw [e2, cond_false, Bool.and_eq_true] at h
       exact more h.2 (.inr ⟨e2, h.1⟩)
end
end Go.V
namespace Go.V
open Go Go.RowKit
section
variable {P : Program} {Q : AV → Prop} {As : List (St → Prop)} {mu : Nat → Bool} {N nx : Nat} {ops : Array Oper} {w0 : Base} {vd fl : List Nat}
def PosOK (P : Program) (mu : Nat → Bool) (ops : Array Oper) (N : Nat) (vd fl : List Nat) (i : Nat) (o : Oper) (m : MOper) : Prop :=
 (memN i vd = true ∧ m = voidOf o ∧ ∃ d, o.dst = some d ∧ d < N) ∨ (memN i vd = false ∧ memN i fl = true ∧ CompF P N o m) ∨ (memN i vd = false ∧ memN i fl = false ∧ CompO P mu ops N o m)
theorem compOps2_pos (hv : ∀ i o, memN i vd = true → ops[i]? = some o → ∃ d, o.dst = some d ∧ d < N) : ∀ {l : List Oper} {ml : List MOper} {hs : List (List Nat)} {i : Nat}, (∀ j : Nat, l[j]? = ops[i + j]?) → compOps2 P mu ops N vd fl i l hs = some ml → ml.length = l.length ∧ ∀ (j : Nat) (o : Oper) (m : MOper), l[j]? = some o → ml[j]? = some m → PosOK P mu ops N vd fl (i + j) o m
 | [], ml, hs, i, _, h => by
   simp only [compOps2, Option.some.injEq] at h
   subst h
   exact ⟨rfl, fun j o m hj => by simp at hj⟩
 | o :: l, ml, hs, i, hl, h => by
   simp only [compOps2, Option.bind_eq_some_iff, Option.map_eq_some_iff] at h
   obtain ⟨m, hm, ml', hml, rfl⟩ := h
   obtain ⟨h1, h2⟩ := compOps2_pos hv (l := l) (i := i + 1) (fun j => by have := hl (j + 1); rw [show i + 1 + j = i + (j + 1) by omega]; simpa using this) hml
   refine ⟨by simp [h1], fun j o' m' hj hm' => ?_⟩
   cases j with
   | zero =>
     simp at hj hm'
     subst hj hm'
     have ho : ops[i]? = some o := by have := hl 0; simpa using this.symm
     cases e1 : memN i vd with
     | true =>
       rw [e1, cond_true] at hm
       cases hm
       exact .inl ⟨e1, rfl, hv i o e1 ho⟩
     | false =>
       rw [e1, cond_false] at hm
       cases e2 : memN i fl with
       | true => rw [e2, cond_true] at hm; exact .inr (.inl ⟨e1, e2, compFloat_ok hm⟩)
       | false => rw [e2, cond_false] at hm; exact .inr (.inr ⟨e1, e2, compO_spec hm⟩)
   | succ j =>
     have := h2 j o' m' (by simpa using hj) (by simpa using hm')
     rw [show i + 1 + j = i + (j + 1) by omega] at this
     exact this
def DS (c : Bool) (P : Program) (nx : Nat) (vd fl : List Nat) (i : Nat) (o : Oper) (m : MOper) (tm : List (Nat × AV)) (st : List (Nat × Blk)) (v : AV) (new : List (Nat × Blk)) : Prop :=
 (memN i vd = true ∧ (∃ d, m.dst = some d ∧ v = slot d tm) ∧ new = []) ∨ (memN i vd = false ∧ DStep c P nx i o m tm st v new ∧ (memN i fl = true → YOK P o tm v ∧ new = [] ∧ m.gd = none))
inductive DRun2 (c : Bool) (P : Program) (nx : Nat) (vd fl : List Nat) : Nat → List Oper → List MOper → List (Nat × AV) → List (Nat × Blk) → List (AV × List (Nat × Blk)) → List (Nat × AV) → List (Nat × Blk) → Prop
 | nil {i : Nat} {tm : List (Nat × AV)} {st : List (Nat × Blk)} : DRun2 c P nx vd fl i [] [] tm st [] tm st
 | cons {i : Nat} {o : Oper} {m : MOper} {l : List Oper} {ml : List MOper} {tm tm' : List (Nat × AV)} {st st' : List (Nat × Blk)} {v : AV} {new : List (Nat × Blk)} {vs : List (AV × List (Nat × Blk))}
  (h : DS c P nx vd fl i o m tm st v new) (hr : DRun2 c P nx vd fl (i + 1) l ml (putT m.dst v tm) (new ++ st) vs tm' st') : DRun2 c P nx vd fl i (o :: l) (m :: ml) tm st ((v, new) :: vs) tm' st'
theorem YOK.qok {o : Oper} {tm : List (Nat × AV)} {v : AV} (h : YOK P o tm v) (st : List (Nat × Blk)) (nid : Nat) : QOK P o tm st nid v [] :=
 QOK.pure (fun w0 N tm' st' a w at_ FP hx _ hh => by
  obtain ⟨u, hr, hl⟩ := h w0 N tm' st' a w at_ FP hx hh
  exact ⟨u, hr w, hl⟩)
theorem drun_of2 {K : St → Tree} : ∀ (l : List Oper) (ml : List MOper) (i : Nat), ml.length = l.length → (∀ (j : Nat) (o : Oper) (m : MOper), l[j]? = some o → ml[j]? = some m → PosOK P mu ops N vd fl (i + j) o m ∧ (memN (i + j) vd = true ∨ isBar m = false)) →
 ∀ s, Sat P Q As (opsT nx ml i K s) → ∃ vs tm' st', DRun2 (cm mu) P nx vd fl i l ml s.tm s.st vs tm' st' ∧ Sat P Q As (K { tm := tm', st := st', nx := s.nx })
 | [], ml, i, hl, _, s, h => by
   have : ml = [] := List.eq_nil_of_length_eq_zero hl
   subst this
   exact ⟨[], s.tm, s.st, .nil, h⟩
 | o :: l, [], i, hl, _, s, h => by simp at hl
 | o :: l, m :: ml', i, hl, hp, s, h => by
   have hp' : ∀ (j : Nat) (o' : Oper) (m' : MOper), l[j]? = some o' → ml'[j]? = some m' → PosOK P mu ops N vd fl (i + 1 + j) o' m' ∧ (memN (i + 1 + j) vd = true ∨ isBar m' = false) := fun j o' m' hj hm => by
    have := hp (j + 1) o' m' (by simpa using hj) (by simpa using hm)
    rw [show i + (j + 1) = i + 1 + j by omega] at this
    exact this
   have hl' : ml'.length = l.length := by simpa using hl
   obtain ⟨hpos, hbar⟩ := hp 0 o m rfl rfl
   rw [Nat.add_zero] at hpos hbar
   have rest : ∀ (v : AV) (new : List (Nat × Blk)), DS (cm mu) P nx vd fl i o m s.tm s.st v new → Sat P Q As (opsT nx ml' (i + 1) K { s with tm := putS s m.dst v, st := new ++ s.st }) → ∃ vs tm' st', DRun2 (cm mu) P nx vd fl i (o :: l) (m :: ml') s.tm s.st vs tm' st' ∧ Sat P Q As (K { tm := tm', st := st', nx := s.nx }) := fun v new hds hsat => by
    obtain ⟨vs, tm', st', hr, hs⟩ := drun_of2 l ml' (i + 1) hl' hp' _ hsat
    exact ⟨(v, new) :: vs, tm', st', .cons hds hr, hs⟩
   unfold opsT at h
   simp only at h
   rcases hpos with ⟨e1, rfl, d, hd, hdN⟩ | ⟨e1, e2, hF⟩ | ⟨e1, e2, cs⟩
   ·have h' : Sat P Q As (opsT nx ml' (i + 1) K { s with tm := putS s (voidOf o).dst (slot d s.tm), st := [] ++ s.st }) := by
     have e : voidOf o = ⟨some d, .mv (.tmp d), none, []⟩ := by unfold voidOf; rw [hd]
     rw [e] at h ⊢
     exact h
    exact rest _ [] (.inl ⟨e1, ⟨d, hd, rfl⟩, rfl⟩) h'
   ·obtain ⟨q1, q2⟩ := hF.quiet
    have hg := hF.gd
    rw [hg] at h
    simp only at h
    rw [q1, cond_false] at h
    obtain ⟨v, hsat, hy⟩ := hF.yields _ _ _ _ _ _ h
    refine rest v [] (.inr ⟨e1, .inl ⟨.inl hg, (hy.qok _ _).x⟩, fun _ => ⟨hy, rfl, hg⟩⟩) hsat
   ·have hb := hbar.resolve_left (by rw [e1]; exact fun h => by cases h)
    have q1 : isMut m.op = false := by unfold isBar at hb; rw [Bool.or_eq_false_iff] at hb; exact hb.1
    have q2 : isNbin m.op = false := by unfold isBar at hb; rw [Bool.or_eq_false_iff] at hb; exact hb.2
    have nofl : memN i fl = true → YOK P o s.tm .any ∧ ([] : List (Nat × Blk)) = [] ∧ m.gd = none := fun h => by rw [e2] at h; cases h
    have go : (m.gd = none ∨ ∃ d want, m.gd = some (d, want) ∧ slot d s.tm = .bo want) → Sat P Q As (bif isMut m.op then mop m.op s (nx + 16 * i) (fun v s' => opsT nx ml' (i + 1) K { s' with tm := putS s' m.dst v })
     else qop m.op s.tm (hid nx m.hide s.st) (nx + 16 * i) (fun v new => opsT nx ml' (i + 1) K { s with tm := putS s m.dst v, st := new ++ s.st })) →
     ∃ vs tm' st', DRun2 (cm mu) P nx vd fl i (o :: l) (m :: ml') s.tm s.st vs tm' st' ∧ Sat P Q As (K { tm := tm', st := st', nx := s.nx }) := by
     intro hg h
     rw [q1, cond_false] at h
     have h' : Sat P Q As (qop m.op s.tm (used nx m s.st) (nx + 16 * i) (fun v new => opsT nx ml' (i + 1) K { s with tm := putS s m.dst v, st := new ++ s.st })) := by
      unfold used
      cases e : noStore m.op with
      | true => rw [cond_true, ← qop_noStore e]; exact h
      | false => exact h
     obtain ⟨v, new, hok, hsat⟩ := comp_quietC cs.op q1 q2 h'
     exact rest v new (.inr ⟨e1, .inl ⟨hg, hok⟩, fun h => by rw [e2] at h; cases h⟩) hsat
    have skip : (∃ d want, m.gd = some (d, want) ∧ ((∃ b, slot d s.tm = .bo b ∧ (b == want) = false) ∨ slot d s.tm = .undef)) → Sat P Q As (opsT nx ml' (i + 1) K { s with tm := putS s m.dst .undef }) →
     ∃ vs tm' st', DRun2 (cm mu) P nx vd fl i (o :: l) (m :: ml') s.tm s.st vs tm' st' ∧ Sat P Q As (K { tm := tm', st := st', nx := s.nx }) := by
     intro hg h
     obtain ⟨d, want, h1, h2⟩ := hg
     exact rest .undef [] (.inr ⟨e1, .inr ⟨d, want, h1, h2, rfl, rfl⟩, fun h => by rw [e2] at h; cases h⟩) h
    cases hg : m.gd with
    | none => rw [hg] at h; exact go (.inl hg) h
    | some q =>
      obtain ⟨d, want⟩ := q
      rw [hg] at h
      simp only at h
      split at h
      ·rename_i b hb
       split at h
       ·exact go (.inr ⟨d, true, hg, hb⟩) h
       ·exact go (.inr ⟨d, false, hg, hb⟩) h
       ·rename_i n1 n2
        have : (b == want) = false := by
         cases b <;> cases want <;> first | rfl | (exact absurd rfl (n1 rfl)) | (exact absurd rfl (n2 rfl))
        exact skip ⟨d, want, hg, .inl ⟨b, hb, this⟩⟩ h
      ·rename_i hb
       exact skip ⟨d, want, hg, .inr hb⟩ h
      ·exact (no_bad h).elim
def SLb (nb nx : Nat) (vs : List (AV × List (Nat × Blk))) (st0 : List (Nat × Blk)) (L : Nat → Bool) (b : Nat) : Option Blk :=
 if b < nb then look b st0 else bif L ((b - nx) / 16) then look b (((vs[(b - nx) / 16]?).map (·.2)).getD []) else none
theorem SLb_step {nb : Nat} {vs : List (AV × List (Nat × Blk))} {st0 : List (Nat × Blk)} {st : Nat → Option Blk} {L L' : Nat → Bool} {i : Nat} {v : AV} {new : List (Nat × Blk)} (hnb : nx ≤ nb ∧ nb ≤ nx + 16 * i) (h : ∀ b, st b = SLb nb nx vs st0 L b) (hL : ∀ j, L' j = (L j || Nat.beq j i)) (hi : L i = false ∨ new = [])
 (hv : vs[i]? = some (v, new)) (hn : ∀ p ∈ new, nx + 16 * i ≤ p.1 ∧ p.1 < nx + 16 * i + 16) (b : Nat) : addAll new st b = SLb nb nx vs st0 L' b := by
 unfold addAll SLb
 by_cases hb : b < nb
 ·have e : look b new = none := look_none (fun p hp e => by have := hn p hp; omega)
  rw [e, if_pos hb]
  have := h b
  unfold SLb at this
  rw [if_pos hb] at this
  exact this
 ·rw [if_neg hb]
  have hb2 := h b
  unfold SLb at hb2
  rw [if_neg hb] at hb2
  by_cases hq : (b - nx) / 16 = i
  ·rw [hq, hL, Nat.beq_refl, Bool.or_true, cond_true, hv]
   rw [hq] at hb2
   simp only [Option.map_some, Option.getD_some]
   cases e : look b new with
   | some k => rfl
   | none =>
     simp only
     rw [hb2, hv]
     cases L i <;> simp [e]
  ·have e : look b new = none := look_none (fun p hp e => by have := hn p hp; omega)
   have e2 : Nat.beq ((b - nx) / 16) i = false := by
    cases e : Nat.beq ((b - nx) / 16) i with
    | false => rfl
    | true => exact absurd (Nat.eq_of_beq_eq_true e) hq
   rw [e, hL, e2, Bool.or_false]
   exact hb2
theorem DS.ids {i : Nat} {o : Oper} {m : MOper} {tm : List (Nat × AV)} {st new : List (Nat × Blk)} {v : AV} (h : DS (cm mu) P nx vd fl i o m tm st v new) : ∀ p ∈ new, nx + 16 * i ≤ p.1 ∧ p.1 < nx + 16 * i + 16 := by
 rcases h with ⟨_, _, rfl⟩ | ⟨_, h, _⟩
 ·intro p hp; cases hp
 ·exact h.ids
theorem drun_facts2 {nb lo : Nat} {ds : List (Option Nat)} {VS : List (AV × List (Nat × Blk))} {tm0 : List (Nat × AV)} {st0 : List (Nat × Blk)} (hnb : nx ≤ nb ∧ nb ≤ nx + 16 * lo) :
 ∀ {i : Nat} {l : List Oper} {ml : List MOper} {tm tm' : List (Nat × AV)} {st st' : List (Nat × Blk)} {vs : List (AV × List (Nat × Blk))}, DRun2 (cm mu) P nx vd fl i l ml tm st vs tm' st' → lo ≤ i → (∀ (j : Nat) (m : MOper), ml[j]? = some m → ds[i + j]? = some (bif memN (i + j) vd then none else m.dst)) →
   (∀ (j : Nat) (m : MOper) (d : Nat), ml[j]? = some m → memN (i + j) vd = false → m.dst = some d → wr d ds 0 = some (i + j)) → (∀ j : Nat, vs[j]? = VS[i + j]?) →
   (∀ t, slot t tm = TL ds VS tm0 (fun q => Nat.blt q i) t) → (∀ b, look b st = SLb nb nx VS st0 (fun q => Nat.blt q i) b) →
   vs.length = l.length ∧ (∀ (j : Nat) (o : Oper) (m : MOper), l[j]? = some o → ml[j]? = some m → ∃ tmj stj v new, vs[j]? = some (v, new) ∧ DS (cm mu) P nx vd fl (i + j) o m tmj stj v new ∧ (∀ t, slot t tmj = TL ds VS tm0 (fun q => Nat.blt q (i + j)) t) ∧ (∀ b, look b stj = SLb nb nx VS st0 (fun q => Nat.blt q (i + j)) b)) ∧
   (∀ t, slot t tm' = TL ds VS tm0 (fun q => Nat.blt q (i + l.length)) t) ∧ (∀ b, look b st' = SLb nb nx VS st0 (fun q => Nat.blt q (i + l.length)) b) := by
 intro i l ml tm tm' st st' vs h
 induction h with
 | nil => exact fun _ _ _ _ h1 h2 => ⟨rfl, fun j o m hj => by simp at hj, h1, h2⟩
 | @cons i o m l ml tm tm' st st' v new vs h hr ih =>
   intro hlo hds hu hvs h1 h2
   have hvi : VS[i]? = some (v, new) := by have := hvs 0; simpa using this.symm
   have hdi : ds[i]? = some (bif memN i vd then none else m.dst) := by have := hds 0 m rfl; simpa using this
   have hL : ∀ j, Nat.blt j (i + 1) = (Nat.blt j i || Nat.beq j i) := fun j => by
    rw [Bool.eq_iff_iff, Bool.or_eq_true, Nat.blt_eq, Nat.blt_eq, Nat.beq_eq]
    omega
   have hi0 : Nat.blt i i = false := by
    cases e : Nat.blt i i with
    | false => rfl
    | true => rw [Nat.blt_eq] at e; omega
   have g1 : ∀ t, slot t (putT m.dst v tm) = TL ds VS tm0 (fun q => Nat.blt q (i + 1)) t := fun t => by
    cases hv : memN i vd with
    | false =>
      rw [hv, cond_false] at hdi
      exact TL_step (v := v) (new := new) h1 hL hdi (fun d hd => by have := hu 0 m d rfl (by rw [Nat.add_zero]; exact hv) hd; simpa using this) hvi t
    | true =>
      rw [hv, cond_true] at hdi
      have e1 := TL_step (v := v) (new := new) (dst := none) h1 hL hdi (fun d hd => by cases hd) hvi t
      rcases h with ⟨_, ⟨d, hd, rfl⟩, _⟩ | ⟨h, _⟩
      ·rw [← e1, hd]
       show (bif Nat.beq d t then slot d tm else slot t tm) = slot t tm
       cases e : Nat.beq d t with
       | true => have := Nat.eq_of_beq_eq_true e; subst this; rfl
       | false => rfl
      ·rw [hv] at h; cases h
   have g2 := SLb_step (nx := nx) (st := fun b => look b st) ⟨hnb.1, by omega⟩ h2 hL (.inl hi0) hvi h.ids
   obtain ⟨r0, r1, r2, r3⟩ := ih (by omega) (fun j m' hm => by have := hds (j + 1) m' (by simpa using hm); rw [show i + (j + 1) = i + 1 + j by omega] at this; exact this)
    (fun j m' d hm hv hd => by have := hu (j + 1) m' d (by simpa using hm) (by rw [show i + (j + 1) = i + 1 + j by omega]; exact hv) hd; rw [show i + (j + 1) = i + 1 + j by omega] at this; exact this)
    (fun j => by have := hvs (j + 1); rw [show i + 1 + j = i + (j + 1) by omega]; simpa using this) g1
    (fun b => by have := g2 b; rw [addAll_look] at this; exact this)
   refine ⟨by simp [r0], fun j o' m' hj hm => ?_, ?_, ?_⟩
   ·cases j with
    | zero =>
      simp at hj hm
      subst hj hm
      exact ⟨tm, st, v, new, rfl, h, h1, h2⟩
    | succ j =>
      obtain ⟨tmj, stj, v', new', e1, e2, e3, e4⟩ := r1 j o' m' (by simpa using hj) (by simpa using hm)
      rw [show i + 1 + j = i + (j + 1) by omega] at e2 e3 e4
      exact ⟨tmj, stj, v', new', by simpa using e1, e2, e3, e4⟩
   ·rw [List.length_cons, show i + (l.length + 1) = i + 1 + l.length by omega]; exact r2
   ·rw [List.length_cons, show i + (l.length + 1) = i + 1 + l.length by omega]; exact r3
end
end Go.V
namespace Go.V
open Go Go.RowKit
section
variable {P : Program} {Q : AV → Prop} {As : List (St → Prop)} {mu : Nat → Bool} {N nx : Nat} {ops : Array Oper} {w0 : Base} {vd fl : List Nat}
theorem step_bar [TbOk P w0] {K : St → Tree} {R : Exit → Act → World → Prop} {W : Act → World → Prop} {o : Oper} {m : MOper} {ml' : List MOper} {i q : Nat} (ho : ops[q]? = some o) (cs : CompO P mu ops N o m) (s : St) (a : Act) (w : World) (h : Sat P Q As (opsT nx (m :: ml') i K s)) (hr : RelS mu w0 N s.tm s.st (nx + 16 * i) a w)
 (next : ∀ (s' : St) (a' : Act) (w' : World), s'.nx = s.nx → Sat P Q As (opsT nx ml' (i + 1) K s') → RelS mu w0 N s'.tm s'.st (nx + 16 * (i + 1)) a' w' → W a' w') : wpOp P ops R q W a w := by
 obtain ⟨B, hX, ⟨at_, FP, hh⟩, hfr⟩ := hr
 haveI := TbOk.ext (P := P) hX
 have go : Sat P Q As (bif isMut m.op then mop m.op s (nx + 16 * i) (fun v s' => opsT nx ml' (i + 1) K { s' with tm := putS s' m.dst v })
  else qop m.op s.tm (hid nx m.hide s.st) (nx + 16 * i) (fun v new => opsT nx ml' (i + 1) K { s with tm := putS s m.dst v, st := new ++ s.st })) → o.wp P a w W R := by
  intro h
  cases hmu : isMut m.op with
  | true =>
    rw [hmu, cond_true] at h
    refine (comp_mutC cs.op hmu h ⟨at_, FP, hh⟩ hfr hX.mode).wp (fun u w' hu => ?_)
    obtain ⟨v, s', hsat, hnx, hfr', B', hX', at1, FP1, hh1, hl1⟩ := hu
    refine next { s' with tm := putS s' m.dst v } _ _ hnx hsat ⟨B', hX.trans hX', ⟨at1, FP1, ?_⟩, fun b k hb => by have := hfr' b k hb; omega⟩
    rw [cs.dst]
    exact Here.putS rfl hh1 hl1 (fun d hd => cs.lt d (cs.dst.trans hd))
  | false =>
    rw [hmu, cond_false] at h
    cases hnb : isNbin m.op with
    | true =>
      refine (comp_nbinC cs.op hnb h ⟨at_, FP, hh⟩).wp (fun u w' hu => ?_)
      obtain ⟨v, hsat, at1, FP1, hh1, hl1⟩ := hu
      refine next { s with tm := putS s m.dst v, st := [] ++ s.st } _ _ rfl hsat ⟨B, hX, ⟨at1, FP1, ?_⟩, fun b k hb => by have := hfr b k hb; omega⟩
      rw [cs.dst]
      exact Here.putS rfl hh1 hl1 (fun d hd => cs.lt d (cs.dst.trans hd))
    | false =>
      obtain ⟨v, new, ⟨hid, hok⟩, hsat⟩ := comp_quietC cs.op hmu hnb h
      refine (hok B N s.tm (fun b => look b s.st) a w (fun _ _ => rfl) (fun b k hb => hid_look hb) (fun b h1 h2 => ?_) ⟨at_, FP, hh⟩ hX.mode).wp (fun u w' hu => ?_)
      ·cases e : look b s.st with
       | none => rfl
       | some k => exact absurd (hfr b k e) (by omega)
      ·obtain ⟨B', hX', at1, FP1, hh1, hl1⟩ := hu
       rw [addAll_look] at hh1 hl1
       refine next { s with tm := putS s m.dst v, st := new ++ s.st } _ _ rfl hsat ⟨B', hX.trans hX', ⟨at1, FP1, ?_⟩, fun b k hb => ?_⟩
       ·rw [cs.dst]
        exact Here.putS rfl hh1 hl1 (fun d hd => cs.lt d (cs.dst.trans hd))
       ·have hb' : look b (new ++ s.st) = some k := hb
        rw [look_append] at hb'
        split at hb'
        ·rename_i k' hk'
         have := (hid _ (look_mem hk')).2
         simp only at this
         omega
        ·have := hfr b k hb'
         omega
 have skip : Sat P Q As (opsT nx ml' (i + 1) K { s with tm := putS s m.dst .undef }) → W (a.put o.dst undef) w := by
  intro h
  refine next { s with tm := putS s m.dst .undef } _ _ rfl h ⟨B, hX, ⟨at_, FP, ?_⟩, fun b k hb => by have := hfr b k hb; omega⟩
  rw [cs.dst]
  exact Here.putS rfl hh .undef (fun d hd => cs.lt d (cs.dst.trans hd))
 unfold wpOp
 rw [ho]
 simp only
 unfold opsT at h
 simp only at h
 cases hg : m.gd with
 | none =>
   rw [hg] at h
   simp only at h
   rw [guard_none cs hg, if_pos rfl]
   exact .inl (go h)
 | some q =>
   obtain ⟨d, want⟩ := q
   rw [hg] at h
   simp only at h
   obtain ⟨g1, g2⟩ := guard_run hh cs hg
   split at h
   ·rename_i b hb
    rw [g1 b hb]
    split at h
    ·rename_i e1; exact .inl (go h)
    ·exact .inl (go h)
    ·rename_i n1 n2
     have : (b == want) = false := by
      cases b <;> cases want <;> first | rfl | (exact absurd rfl (n1 rfl)) | (exact absurd rfl (n2 rfl))
     rw [this]
     exact skip h
   ·rename_i hb
    rw [g2 hb]
    exact skip h
   ·exact (no_bad h).elim
def Unl (ops : Array Oper) (listed : Array Bool) : Nat := ((List.range ops.size).filter (fun j => !(listed.getD j false))).length
theorem unl_put {listed : Array Bool} {i : Nat} (hi : i < ops.size) (hsz : listed.size = ops.size) (hun : listed.getD i false = false) : Unl ops listed = Unl ops (listed.setIfInBounds i true) + 1 := by
 have hL' : ∀ j, (listed.setIfInBounds i true).getD j false = (listed.getD j false || Nat.beq j i) := fun j => getD_setB listed i j (by omega)
 have key : ∀ l : List Nat, l.Nodup → ((l.filter (fun j => !(listed.getD j false))).length = (l.filter (fun j => !((listed.setIfInBounds i true).getD j false))).length + (if i ∈ l then 1 else 0)) := by
  intro l
  induction l with
  | nil => intro _; simp
  | cons x l ih =>
    intro hn
    obtain ⟨hx, hn⟩ := List.nodup_cons.1 hn
    rw [List.filter_cons, List.filter_cons]
    by_cases e : x = i
    ·subst e
     have h1 : (listed.setIfInBounds x true).getD x false = true := by rw [hL', Nat.beq_refl, Bool.or_true]
     have h2 := ih hn
     rw [if_neg hx] at h2
     rw [hun, h1, if_pos (List.mem_cons_self ..)]
     simp only [Bool.not_false, if_true, Bool.not_true, Bool.false_eq_true, if_false, List.length_cons]
     omega
    ·have e2 : Nat.beq x i = false := by
      cases e3 : Nat.beq x i with
      | false => rfl
      | true => exact absurd (Nat.eq_of_beq_eq_true e3) e
     have h1 : (listed.setIfInBounds i true).getD x false = listed.getD x false := by rw [hL', e2, Bool.or_false]
     have hm : (i ∈ x :: l) ↔ i ∈ l := by simp [Ne.symm e]
     rw [h1]
     cases listed.getD x false with
     | true => simp only [Bool.not_true, Bool.false_eq_true, if_false, hm]; exact ih hn
     | false => simp only [Bool.not_false, if_true, List.length_cons, hm]; rw [ih hn]; omega
 have := key (List.range ops.size) List.nodup_range
 rw [if_pos (List.mem_range.2 hi)] at this
 exact this
theorem getD_tf {listed : Array Bool} {j : Nat} (h1 : listed.size = ops.size) (h2 : j < ops.size) : listed.getD j true = listed.getD j false := by
 rw [Array.getD_eq_getD_getElem?, Array.getD_eq_getD_getElem?, Array.getElem?_eq_getElem (by omega)]
 rfl
theorem meet_float {R : Exit → Act → World → Prop} (hsel : ∀ (j : Nat) (o : Oper) cs b, ops[j]? = some o → o.op ≠ .select cs b) (hQ : ∀ c a a' w, R (.panic c) a w → R (.panic c) a' w) {i : Nat} {o : Oper} {m : MOper} {v : AV} {tm tmj : List (Nat × AV)} {st : Nat → Option Blk} {at_ : Nat → Option (Nat × Nat)} {FP : Nat → List Nat} {listed : Array Bool} {a : Act} {w : World}
 (ho : ops[i]? = some o) (hF : CompF P N o m) (hy : YOK P o tmj v) (hx : ∀ x ∈ o.op.operands.toList, ev tm x = ev tmj x) (hh : Here w0 N tm st a w at_ FP) (hsz : listed.size = ops.size) (hun : listed.getD i false = false) (hready : i ∈ Region.ready .any ops listed)
 (hap : ∀ j oj, ops[j]? = some oj → j ≠ i → listed.getD j false = false → (∀ e ∈ oj.after, Region.binds .any e = true → e.on ≠ i) → o.apart ops oj = true)
 (hgo : ∀ a', Here w0 N (putT m.dst v tm) st a' w at_ FP → wpAny P .any ops R (Unl ops (listed.setIfInBounds i true)) (listed.setIfInBounds i true) a' w) : wpAny P .any ops R (Unl ops listed) listed a w := by
 obtain ⟨u, hrun, hl⟩ := hy w0 N tm st a w at_ FP hx hh
 have hlt := (Array.getElem?_eq_some_iff.1 ho).1
 rw [unl_put hlt hsz hun]
 refine wpAny_first (v := u) ho hsel (fun c a w h => hQ c _ _ _ h) _ _ _ _ (fun j oj hj hne hu hd => ?_) hready (.inl ⟨?_, hrun⟩) (hgo _ ?_)
 ·have hlt' := (Array.getElem?_eq_some_iff.1 hj).1
  rw [getD_tf hsz hlt'] at hu
  exact hap j oj hj hne hu hd
 ·unfold Region.wanted
  rw [hF.guard]
 ·obtain ⟨d, hd, hdN⟩ := hF.some_
  rw [hF.dst, hd]
  exact hh.put hl hdN
theorem pre_go [TbOk P w0] {R : Exit → Act → World → Prop} (hsel : ∀ (j : Nat) (o : Oper) cs b, ops[j]? = some o → o.op ≠ .select cs b) (hQ : ∀ c a a' w, R (.panic c) a w → R (.panic c) a' w) {K1 : St → Tree} {n0 : Nat} {fin : List Nat}
 (hcont : ∀ (s' : St) (a' : Act) (w' : World) (listed : Array Bool), Sat P Q As (K1 s') → s'.nx = n0 → RelS mu w0 N s'.tm s'.st nx a' w' → listed.size = ops.size → (∀ j, listed.getD j false = true ↔ j ∈ fin) → wpAny P .any ops R (Unl ops listed) listed a' w') :
 ∀ (r done : List Nat) (pl : List MOper) (k : Nat), compPre P ops N r = some pl → preAll ops (rowsOf ops.toList []) done r = true → (∀ j, j ∈ fin ↔ j ∈ done ∨ j ∈ r) → ∀ (s : St) (a : Act) (w : World) (listed : Array Bool), s.nx = n0 → Sat P Q As (opsT nx pl k K1 s) → RelS mu w0 N s.tm s.st nx a w → listed.size = ops.size → (∀ j, listed.getD j false = true ↔ j ∈ done) →
   wpAny P .any ops R (Unl ops listed) listed a w
 | [], done, pl, k, hc, _, hfin, s, a, w, listed, hn, h, hr, hsz, hL => by
   simp only [compPre, Option.some.injEq] at hc
   subst hc
   exact hcont s a w listed h hn hr hsz (fun j => by rw [hL, hfin]; simp)
 | i :: r, done, pl, k, hc, hp, hfin, s, a, w, listed, hn, h, hr, hsz, hL => by
   simp only [compPre, Option.bind_eq_some_iff, Option.map_eq_some_iff] at hc
   obtain ⟨m, ⟨o, ho, hm⟩, pl', hpl, rfl⟩ := hc
   have hF := compFloat_ok hm
   rw [preAll, Bool.and_eq_true, Bool.and_eq_true, Bool.and_eq_true, ho] at hp
   obtain ⟨⟨⟨p1, p2⟩, p3⟩, p4⟩ := hp
   rw [Bool.and_eq_true] at p3
   obtain ⟨e1, e2⟩ := edgesOk_spec p3.1
   have hlt := (Array.getElem?_eq_some_iff.1 ho).1
   have hnd : i ∉ done := fun h => by rw [memN_spec.2 h] at p2; simp at p2
   have hun : listed.getD i false = false := by
    cases e : listed.getD i false with
    | false => rfl
    | true => exact absurd ((hL i).1 e) hnd
   unfold opsT at h
   simp only at h
   have hg := hF.gd
   rw [hg] at h
   simp only at h
   rw [hF.quiet.1, cond_false] at h
   obtain ⟨v, hsat, hy⟩ := hF.yields _ _ _ _ _ _ h
   obtain ⟨B, hX, ⟨at_, FP, hh⟩, hfr⟩ := hr
   haveI := TbOk.ext (P := P) hX
   refine meet_float hsel hQ ho hF hy (fun _ _ => rfl) hh hsz hun (mem_ready.2 ⟨by rw [getD_tf hsz hlt]; exact hun, o, ho, fun e he hb => (hL e.on).2 (memN_spec.1 (List.all_eq_true.1 p1 e.on (memN_spec.1 (e2 e he hb))))⟩) (fun j oj hj hne hu hd => ?_) (fun a' hh' => ?_)
   ·have hjlt := (Array.getElem?_eq_some_iff.1 hj).1
    have hnot : memN j done = false := by
     cases e : memN j done with
     | false => rfl
     | true => rw [(hL j).2 (memN_spec.1 e)] at hu; cases hu
    have hrow : memN j (rowAt (rowsOf ops.toList []) i) = false := by
     cases e : memN j (rowAt (rowsOf ops.toList []) i) with
     | false => rfl
     | true =>
       have := List.all_eq_true.1 p1 j (memN_spec.1 e)
       rw [this] at hnot
       cases hnot
    exact apartAll_spec p3.2 j oj hjlt hj hne (Nat.zero_le _) hnot hrow hd
   ·refine pre_go hsel hQ hcont r (i :: done) pl' (k + 1) hpl p4 (fun j => by rw [hfin]; simp only [List.mem_cons]; exact ⟨fun h => by rcases h with h | h | h; exact .inl (.inr h); exact .inl (.inl h); exact .inr h, fun h => by rcases h with (h | h) | h; exact .inr (.inl h); exact .inl h; exact .inr (.inr h)⟩) { s with tm := putS s m.dst v, st := [] ++ s.st } a' w _ hn hsat ⟨B, hX, ⟨at_, FP, ?_⟩, hfr⟩ (by simpa using hsz) (fun j => ?_)
    ·exact hh'
    ·rw [getD_setB listed i j (by omega), Bool.or_eq_true, hL, List.mem_cons, Nat.beq_eq]
     exact Or.comm
end
end Go.V
namespace Go.V
open Go Go.RowKit
section
variable {P : Program} {Q : AV → Prop} {As : List (St → Prop)} {mu : Nat → Bool} {N nx : Nat} {ops : Array Oper} {w0 : Base} {vd fl : List Nat}
theorem pred_listed {L : Nat → Bool} (hcl : Closed ops L) {i j : Nat} {o : Oper} (hp : Pred ops i j) (ho : ops[i]? = some o) (hpre : ∀ e ∈ o.after, Region.binds .any e = true → L e.on = true) : L j = true := by
 cases hp with
 | one ho' he hb => rw [ho] at ho'; cases ho'; exact hpre _ he hb
 | more ho' he hb hp => rw [ho] at ho'; cases ho'; exact hcl.pred hp (hpre _ he hb)
theorem least {p : Nat → Prop} {lo : Nat} : ∀ {hi : Nat}, (∃ j, lo ≤ j ∧ j < hi ∧ p j) → ∃ j, lo ≤ j ∧ j < hi ∧ p j ∧ ∀ k, lo ≤ k → k < j → ¬ p k := by
 intro hi
 induction hi with
 | zero => rintro ⟨j, _, h, _⟩; omega
 | succ hi ih =>
   rintro ⟨j, h1, h2, h3⟩
   by_cases hx : ∃ j, lo ≤ j ∧ j < hi ∧ p j
   ·obtain ⟨j, a1, a2, a3, a4⟩ := ih hx
    exact ⟨j, a1, by omega, a3, a4⟩
   ·refine ⟨j, h1, h2, h3, fun k hk1 hk2 hk => hx ⟨k, hk1, by omega, hk⟩⟩
theorem seg_go [TbOk P w0] {K : St → Tree} {R : Exit → Act → World → Prop} {ml : List MOper} {n0 : Nat} (hsel : ∀ (j : Nat) (o : Oper) cs b, ops[j]? = some o → o.op ≠ .select cs b) (hQ : ∀ c a a' w, R (.panic c) a w → R (.panic c) a' w)
 (hK : ∀ s' a' w', Sat P Q As (K s') → s'.nx = n0 → RelS mu w0 N s'.tm s'.st (nx + 16 * ops.size) a' w' → R .normal a' w')
 (hml : ml.length = ops.size) (hpos : ∀ (i : Nat) (o : Oper) (m : MOper), ops[i]? = some o → ml[i]? = some m → PosOK P mu ops N vd fl i o m) (hedge : ∀ (i : Nat) (o : Oper), ops[i]? = some o → edgesOk (rowsOf ops.toList []) i o = true)
 (hvd : ∀ i, memN i vd = true → i < ops.size ∧ ∀ j, memN j (rowAt (rowsOf ops.toList []) i) = true → memN j vd = true) :
 ∀ (k lo : Nat), ops.size ≤ lo + k → lo ≤ ops.size → segAll ops (rowsOf ops.toList []) vd fl ml lo lo (ops.toList.drop lo) (ml.drop lo) = true → ∀ (s : St) (listed : Array Bool) (a : Act) (w : World), s.nx = n0 → Sat P Q As (opsT nx (ml.drop lo) lo K s) → RelS mu w0 N s.tm s.st (nx + 16 * lo) a w →
   listed.size = ops.size → (∀ j, j < ops.size → (listed.getD j false = true ↔ (j < lo ∨ memN j vd = true))) → wpAny P .any ops R (Unl ops listed) listed a w := by
 intro k
 induction k with
 | zero =>
   intro lo hk hlo hseg s listed a w hn h hr hsz hL
   have : lo = ops.size := by omega
   subst this
   have hd : ml.drop ops.size = [] := by rw [← hml]; exact List.drop_length
   rw [hd] at h
   have hall : ∀ j, j < ops.size → listed.getD j false = true := fun j hj => (hL j hj).2 (.inl hj)
   have hu : Unl ops listed = 0 := by
    unfold Unl
    rw [List.length_eq_zero_iff, List.filter_eq_nil_iff]
    intro j hj
    rw [hall j (List.mem_range.1 hj)]
    simp
   rw [hu]
   refine ⟨?_, hK s a w h hn hr⟩
   cases hrd : Region.ready .any ops listed with
   | nil => rfl
   | cons i r =>
     have hi : i ∈ Region.ready .any ops listed := by rw [hrd]; exact List.mem_cons_self ..
     obtain ⟨h1, o, ho, _⟩ := mem_ready.1 hi
     have hlt := (Array.getElem?_eq_some_iff.1 ho).1
     rw [getD_tf hsz hlt, hall i hlt] at h1
     cases h1
 | succ k ihk =>
   intro lo hk hlo hseg s listed0 a0 w0' hn h hr hsz0 hL0
   obtain ⟨B00, hX00, hr⟩ := hr
   obtain ⟨kk, k1, k2, k3⟩ := segAll_next hseg
   have hdl : (ml.drop lo).length = ops.size - lo := by rw [List.length_drop, hml]
   rw [hdl] at k1 k3
   have hAl : ((ml.drop lo).take kk).length = kk := by rw [List.length_take, hdl]; omega
   have hsplit : ml.drop lo = (ml.drop lo).take kk ++ ml.drop (lo + kk) := by
    rw [← List.drop_drop]
    exact (List.take_append_drop kk (ml.drop lo)).symm
   rw [hsplit, opsT_append, hAl] at h
   have opAt : ∀ j, j < kk → ∃ o m, ops[lo + j]? = some o ∧ ml[lo + j]? = some m ∧ ((ops.toList.drop lo).take kk)[j]? = some o ∧ ((ml.drop lo).take kk)[j]? = some m := fun j hj => by
    have h1 : lo + j < ops.size := by omega
    refine ⟨ops[lo + j], ml[lo + j]'(by omega), Array.getElem?_eq_getElem h1, List.getElem?_eq_getElem _, ?_, ?_⟩
    ·rw [List.getElem?_take, if_pos hj, List.getElem?_drop]
     simp [h1]
    ·rw [List.getElem?_take, if_pos hj, List.getElem?_drop]
     exact List.getElem?_eq_getElem _
   have fromA : ∀ (j : Nat) (m : MOper), ((ml.drop lo).take kk)[j]? = some m → j < kk ∧ ml[lo + j]? = some m := fun j m hj => by
    have hlt := lt_of_get hj
    rw [hAl] at hlt
    rw [List.getElem?_take, if_pos hlt, List.getElem?_drop] at hj
    exact ⟨hlt, hj⟩
   have segAt : ∀ (j : Nat) (o : Oper) (m : MOper), j < kk → ops[lo + j]? = some o → ml[lo + j]? = some m → memN (lo + j) vd = true ∨ (isBar m = false ∧ segOne ops (rowsOf ops.toList []) (dsFrom vd lo 0 ml) vd fl lo (lo + j) o m = true) := fun j o m hj ho hm =>
    k2 j o m hj (by rw [List.getElem?_drop]; simpa using ho) (by rw [List.getElem?_drop]; exact hm)
   obtain ⟨vs, tme, ste, hrun, hsat⟩ := drun_of2 (P := P) (mu := mu) (ops := ops) (N := N) (vd := vd) (fl := fl) ((ops.toList.drop lo).take kk) ((ml.drop lo).take kk) lo (by rw [hAl, List.length_take, List.length_drop]; simp; omega) (fun j o m hj hm => by
    obtain ⟨hlt, hm'⟩ := fromA j m hm
    obtain ⟨o', m', g1, g2, g3, g4⟩ := opAt j hlt
    rw [g3] at hj
    cases hj
    rw [hm'] at g2
    cases g2
    refine ⟨hpos _ _ _ g1 hm', ?_⟩
    rcases segAt j o m hlt g1 hm' with h | h
    ·exact .inl h
    ·exact .inr h.1) s h
   generalize hds : dsFrom vd lo 0 ml = ds at segAt
   have dsAt : ∀ (j : Nat) (m : MOper), ml[j]? = some m → ds[j]? = some (bif Nat.blt j lo || memN j vd then none else m.dst) := fun j m hj => by
    rw [← hds, dsFrom_at, hj, Nat.zero_add]
    rfl
   have dsSome : ∀ (t j : Nat), wr t ds 0 = some j → lo ≤ j ∧ memN j vd = false ∧ ∃ m, ml[j]? = some m ∧ m.dst = some t := fun t j hj => by
    have h1 := (wr_some hj).2
    rw [Nat.sub_zero, ← hds, dsFrom_at, Nat.zero_add] at h1
    cases hm : ml[j]? with
    | none => rw [hm] at h1; cases h1
    | some m =>
      rw [hm, Option.map_some] at h1
      cases hc : (Nat.blt j lo || memN j vd) with
      | true => rw [hc] at h1; simp at h1
      | false =>
        rw [hc, cond_false] at h1
        rw [Bool.or_eq_false_iff] at hc
        refine ⟨?_, hc.2, m, rfl, Option.some.inj h1⟩
        rcases Nat.lt_or_ge j lo with h | h
        ·have h2 := blt_iff.2 h; rw [h2] at hc; cases hc.1
        ·exact h
   have blt_false : ∀ {x y : Nat}, y ≤ x → Nat.blt x y = false := fun {x y} h => by
    cases e : Nat.blt x y with
    | false => rfl
    | true => rw [Nat.blt_eq] at e; omega
   have hfr := hr.2
   have hfact := drun_facts2 (nx := nx) (nb := nx + 16 * lo) (lo := lo) (ds := ds) (VS := List.replicate lo (.any, []) ++ vs) (tm0 := s.tm) (st0 := s.st) ⟨by omega, Nat.le_refl _⟩ hrun (Nat.le_refl _) (fun j m hj => by
    obtain ⟨hlt, hm⟩ := fromA j m hj
    rw [dsAt _ _ hm, blt_false (by omega), Bool.false_or])
    (fun j m d hj hv hd => by
      obtain ⟨hlt, hm⟩ := fromA j m hj
      obtain ⟨o', m', g1, g2, g3, g4⟩ := opAt j hlt
      rw [hm] at g2
      cases g2
      rcases segAt j o' m hlt g1 hm with h | ⟨_, h⟩
      ·rw [hv] at h; cases h
      ·unfold segOne at h
       simp only [Bool.and_eq_true] at h
       have h4 := h.1.2
       rw [hd] at h4
       simp only at h4
       cases hw : wr d ds 0 with
       | none => rw [hw] at h4; cases h4
       | some q => rw [hw] at h4; rw [Nat.eq_of_beq_eq_true h4])
    (fun j => by rw [List.getElem?_append_right (by simp)]; simp)
    (fun t => by
      unfold TL
      cases hw : wr t ds 0 with
      | none => rfl
      | some j =>
        obtain ⟨h1, _⟩ := dsSome t j hw
        simp only [blt_false h1, cond_false])
    (fun b => by
      unfold SLb
      by_cases hb : b < nx + 16 * lo
      ·rw [if_pos hb]
      ·rw [if_neg hb]
       have : Nat.blt ((b - nx) / 16) lo = false := blt_false (by omega)
       dsimp only
       rw [this, cond_false]
       cases e : look b s.st with
       | none => rfl
       | some k => exact absurd (hfr b k e) hb)
   obtain ⟨hvl, hfacts, hend1, hend2⟩ := hfact
   have hlA : ((ops.toList.drop lo).take kk).length = kk := by rw [List.length_take, List.length_drop]; simp; omega
   rw [hlA] at hvl hend1 hend2
   generalize hVS : (List.replicate lo ((AV.any, []) : AV × List (Nat × Blk)) ++ vs) = VS at hfacts hend1 hend2
   have VSat : ∀ j, VS[lo + j]? = vs[j]? := fun j => by
    rw [← hVS, List.getElem?_append_right (by simp)]
    simp
   have edge : ∀ i o, ops[i]? = some o → (∀ j, memN j (rowAt (rowsOf ops.toList []) i) = true → j < i) ∧ ∀ e ∈ o.after, Region.binds .any e = true → memN e.on (rowAt (rowsOf ops.toList []) i) = true := fun i o ho => edgesOk_spec (hedge i o ho)
   have lt_of_listed : ∀ (listed : Array Bool) (j : Nat), listed.size = ops.size → listed.getD j false = true → j < ops.size := fun listed j hsz e => by
    rw [Array.getD_eq_getD_getElem?] at e
    rcases Nat.lt_or_ge j listed.size with h | h
    ·omega
    ·rw [Array.getElem?_eq_none h] at e; cases e
   have complete : ∀ (listed : Array Bool) (a : Act) (w : World), listed.size = ops.size → Closed ops (fun j => listed.getD j false) → (∀ j, j < ops.size → (j < lo ∨ memN j vd = true) → listed.getD j false = true) → (∀ j, lo + kk ≤ j → memN j vd = false → listed.getD j false = false) → (∀ j, lo ≤ j → j < lo + kk → listed.getD j false = true) →
    (∃ B0, Ext (cm mu) w0 B0 ∧ ∃ tm' st' at_ FP, Here B0 N tm' st' a w at_ FP ∧ (∀ t, slot t tm' = TL ds VS s.tm (fun j => listed.getD j false) t) ∧ (∀ b, st' b = SLb (nx + 16 * lo) nx VS s.st (fun j => listed.getD j false) b)) → wpAny P .any ops R (Unl ops listed) listed a w := by
    intro listed a w hsz hcl h1 h2 hall ⟨B0, hX0, tm', st', at_, FP, hh, g1, g2⟩
    have below : ∀ j, j < lo + kk → listed.getD j false = true := fun j hj => by
     by_cases hlt : j < lo
     ·exact h1 j (by omega) (.inl hlt)
     ·exact hall j (by omega) hj
    have hrel : RelS mu w0 N tme ste (nx + 16 * (lo + kk)) a w := by
     refine ⟨B0, hX0, ⟨at_, FP, hh.congr (fun t => ?_) (fun b => ?_)⟩, fun b q hb => ?_⟩
     ·rw [g1, hend1]
      refine TL_congr (fun j hj => ?_)
      obtain ⟨d1, d2, m, d3, d4⟩ := dsSome t j hj
      by_cases hlt : j < lo + kk
      ·rw [below j hlt]
       exact (blt_iff.2 hlt).symm
      ·rw [h2 j (by omega) d2]
       exact (blt_false (by omega)).symm
     ·show st' b = look b ste
      rw [g2, hend2]
      unfold SLb
      by_cases hb : b < nx + 16 * lo
      ·rw [if_pos hb, if_pos hb]
      ·rw [if_neg hb, if_neg hb]
       by_cases hq : (b - nx) / 16 < lo + kk
       ·dsimp only
        rw [below _ hq, blt_iff.2 hq]
       ·obtain ⟨q, hq2⟩ : ∃ q, (b - nx) / 16 = lo + q := ⟨(b - nx) / 16 - lo, by omega⟩
        have e : VS[(b - nx) / 16]? = none := by
         rw [hq2, VSat, List.getElem?_eq_none (by omega)]
        rw [e]
        simp [look]
     ·have hb' := hend2 b
      rw [show look b ste = some q from hb] at hb'
      unfold SLb at hb'
      by_cases hbx : b < nx + 16 * lo
      ·omega
      ·rw [if_neg hbx] at hb'
       cases e : Nat.blt ((b - nx) / 16) (lo + kk) with
       | true => rw [Nat.blt_eq] at e; omega
       | false => dsimp only at hb'; rw [e] at hb'; simp at hb'
    rcases k3 with k3 | ⟨o, m, b1, b2, b3, b4, b5, b6, b7, b8, b9⟩
    ·
     have hsz2 : lo + kk = ops.size := by omega
     have hd : ml.drop (lo + kk) = [] := by rw [hsz2, ← hml]; exact List.drop_length
     rw [hd] at hsat
     have hu : Unl ops listed = 0 := by
      unfold Unl
      rw [List.length_eq_zero_iff, List.filter_eq_nil_iff]
      intro j hj
      rw [below j (by have := List.mem_range.1 hj; omega)]
      simp
     rw [hu]
     refine ⟨?_, hK _ a w hsat hn (by rw [← hsz2]; exact hrel)⟩
     cases hrd : Region.ready .any ops listed with
     | nil => rfl
     | cons i r =>
       have hi : i ∈ Region.ready .any ops listed := by rw [hrd]; exact List.mem_cons_self ..
       obtain ⟨h1, o, ho, _⟩ := mem_ready.1 hi
       have hlt := (Array.getElem?_eq_some_iff.1 ho).1
       rw [getD_tf hsz hlt, below i (by omega)] at h1
       cases h1
    ·
     have ho : ops[lo + kk]? = some o := by rw [List.getElem?_drop] at b1; simpa using b1
     have hm : ml[lo + kk]? = some m := by rw [List.getElem?_drop] at b2; exact b2
     have hlt := (Array.getElem?_eq_some_iff.1 ho).1
     have hun := h2 (lo + kk) (Nat.le_refl _) b3
     have cs : CompO P mu ops N o m := by
      rcases hpos _ o m ho hm with ⟨h, _⟩ | ⟨_, h, _⟩ | ⟨_, _, h⟩
      ·rw [b3] at h; cases h
      ·rw [b8] at h; cases h
      ·exact h
     obtain ⟨e1, e2⟩ := edge _ o ho
     have hready : lo + kk ∈ Region.ready .any ops listed := mem_ready.2 ⟨by rw [getD_tf hsz hlt]; exact hun, o, ho, fun e he hb => below _ (e1 _ (e2 e he hb))⟩
     rw [unl_put hlt hsz hun]
     refine ⟨fun hr => (by rw [hr] at hready; cases hready), fun i hi => ?_⟩
     have hii : i = lo + kk := by
      obtain ⟨hu, o', ho', hpre⟩ := mem_ready.1 hi
      have hlt' := (Array.getElem?_eq_some_iff.1 ho').1
      rw [getD_tf hsz hlt'] at hu
      rcases Nat.lt_trichotomy i (lo + kk) with h | h | h
      ·rw [below i h] at hu; cases hu
      ·exact h
      ·exfalso
       rcases barAfter_spec b7 i hlt' h with hv | hrow
       ·rw [h1 i hlt' (.inr hv)] at hu; cases hu
       ·have hp := rowAt_spec hrow
        have : listed.getD (lo + kk) false = true := pred_listed hcl hp ho' hpre
        rw [this] at hun
        cases hun
     subst hii
     have hdrop : ml.drop (lo + kk) = m :: ml.drop (lo + kk + 1) := by
      rw [List.drop_eq_getElem_cons (by omega)]
      congr 1
      have := (List.getElem?_eq_some_iff.1 hm).2
      exact this
     rw [hdrop] at hsat
     refine step_bar ho cs _ a w hsat hrel (fun s' a' w' hn' hs' hr' => ?_)
     refine ihk (lo + kk + 1) (by omega) (by omega) ?_ s' _ a' w' (hn'.trans hn) hs' hr' (by simpa using hsz) (fun j hj => ?_)
     ·rw [List.drop_drop, List.drop_drop] at b9
      exact b9
     ·rw [getD_setB listed (lo + kk) j (by omega), Bool.or_eq_true, Nat.beq_eq]
      constructor
      ·rintro (h | h)
       ·by_cases hlt2 : j < lo + kk + 1
        ·exact .inl hlt2
        ·right
         cases hv : memN j vd with
         | true => rfl
         | false => rw [h2 j (by omega) hv] at h; cases h
       ·exact .inl (by omega)
      ·rintro (h | h)
       ·by_cases e : j = lo + kk
        ·exact .inr e
        ·exact .inl (below j (by omega))
       ·exact .inl (h1 j hj (.inr h))
   have way : ∀ (f : Nat) (listed : Array Bool) (a : Act) (w : World), Unl ops listed = f → listed.size = ops.size → Closed ops (fun j => listed.getD j false) → (∀ j, j < ops.size → (j < lo ∨ memN j vd = true) → listed.getD j false = true) → (∀ j, lo + kk ≤ j → memN j vd = false → listed.getD j false = false) →
    (∃ B0, Ext (cm mu) w0 B0 ∧ ∃ tm' st' at_ FP, Here B0 N tm' st' a w at_ FP ∧ (∀ t, slot t tm' = TL ds VS s.tm (fun j => listed.getD j false) t) ∧ (∀ b, st' b = SLb (nx + 16 * lo) nx VS s.st (fun j => listed.getD j false) b)) → wpAny P .any ops R (Unl ops listed) listed a w := by
    intro f
    induction f with
    | zero =>
      intro listed a w hu hsz hcl h1 h2 hst
      refine complete listed a w hsz hcl h1 h2 (fun j hj1 hj2 => ?_) hst
      cases e : listed.getD j false with
      | true => rfl
      | false =>
        have : j ∈ (List.range ops.size).filter (fun j => !(listed.getD j false)) := List.mem_filter.2 ⟨List.mem_range.2 (by omega), by rw [e]; rfl⟩
        have := List.length_pos_of_mem this
        unfold Unl at hu
        omega
    | succ f ih =>
      intro listed a w hu hsz hcl h1 h2 hst
      by_cases hall : ∀ j, lo ≤ j → j < lo + kk → listed.getD j false = true
      ·exact complete listed a w hsz hcl h1 h2 hall hst
      ·have hex : ∃ j, lo ≤ j ∧ j < lo + kk ∧ listed.getD j false = false := by
        refine Classical.byContradiction (fun hc => hall (fun j hj1 hj2 => ?_))
        cases e : listed.getD j false with
        | true => rfl
        | false => exact absurd ⟨j, hj1, hj2, e⟩ hc
       obtain ⟨j0, j1, j2, j3, j4⟩ := least hex
       obtain ⟨B0, hX0, tm', st', at_, FP, hh, g1, g2⟩ := hst
       haveI := TbOk.ext (P := P) hX0
       have hj0lt : j0 < ops.size := by omega
       have ready0 : j0 ∈ Region.ready .any ops listed := by
        have ho := Array.getElem?_eq_getElem hj0lt
        obtain ⟨e1, e2⟩ := edge _ _ ho
        refine mem_ready.2 ⟨by rw [getD_tf hsz hj0lt]; exact j3, _, ho, fun e he hb => ?_⟩
        have hlt := e1 _ (e2 e he hb)
        by_cases hel : e.on < lo
        ·exact h1 _ (by omega) (.inl hel)
        ·cases hv : listed.getD e.on false with
         | true => rfl
         | false => exact absurd hv (j4 e.on (by omega) hlt)
       have same : ∀ (i : Nat) (o : Oper) (m : MOper) (tmj : List (Nat × AV)), i ∈ Region.ready .any ops listed → ops[i]? = some o → (tmpsOf o.op.operands.toList ++ gdOf m.gd).all (seeOk (rowsOf ops.toList []) ds i) = true → (∀ t, slot t tmj = TL ds VS s.tm (fun q => Nat.blt q i) t) → ∀ t, (t ∈ tmpsOf o.op.operands.toList ∨ t ∈ gdOf m.gd) → slot t tm' = slot t tmj := fun i o m tmj hi ho hsee f1 t ht => by
        obtain ⟨hun, o', ho', hpre⟩ := mem_ready.1 hi
        rw [ho] at ho'
        cases ho'
        have hlt := (Array.getElem?_eq_some_iff.1 ho).1
        rw [getD_tf hsz hlt] at hun
        obtain ⟨e1, e2⟩ := edge _ _ ho
        rw [g1, f1]
        refine TL_congr (fun j hj => ?_)
        have hs := List.all_eq_true.1 hsee t (by rw [List.mem_append]; exact ht)
        unfold seeOk at hs
        rw [hj] at hs
        simp only [Bool.or_eq_true] at hs
        rcases hs with (e | e) | e
        ·have := Nat.eq_of_beq_eq_true e
         subst this
         show listed.getD j false = Nat.blt j j
         rw [hun, blt_false (Nat.le_refl _)]
        ·show listed.getD j false = Nat.blt j i
         have hp := rowAt_spec e
         have : listed.getD j false = true := pred_listed hcl hp ho hpre
         rw [this, blt_iff.2 (e1 j e)]
        ·show listed.getD j false = Nat.blt j i
         have hp := rowAt_spec e
         have hnl : listed.getD j false = false := by
          cases e3 : listed.getD j false with
          | false => rfl
          | true =>
            have := hcl.pred hp e3
            rw [hun] at this
            cases this
         obtain ⟨_, _, m2, hm2, _⟩ := dsSome t j hj
         have hjm : j < ops.size := by have := lt_of_get hm2; omega
         have hoj : ops[j]? = some ops[j] := Array.getElem?_eq_getElem hjm
         have := (edge _ _ hoj).1 i e
         rw [hnl, blt_false (by omega)]
       by_cases hfl : ∃ i, lo ≤ i ∧ i < lo + kk ∧ memN i fl = true ∧ i ∈ Region.ready .any ops listed
       ·obtain ⟨i, i1, i2, i3, i4⟩ := hfl
        obtain ⟨q, rfl⟩ : ∃ q, i = lo + q := ⟨i - lo, by omega⟩
        have hq : q < kk := by omega
        obtain ⟨o, m, ho, hm, hA, hB⟩ := opAt q hq
        obtain ⟨hun, _, _, hpre⟩ := mem_ready.1 i4
        have hlt := (Array.getElem?_eq_some_iff.1 ho).1
        rw [getD_tf hsz hlt] at hun
        have hnv : memN (lo + q) vd = false := by
         cases e : memN (lo + q) vd with
         | false => rfl
         | true => rw [h1 _ hlt (.inr e)] at hun; cases hun
        have hseg := (segAt q o m hq ho hm).resolve_left (by rw [hnv]; exact fun h => by cases h)
        have hs2 := hseg.2
        unfold segOne at hs2
        rw [i3] at hs2
        simp only [Bool.and_eq_true, Bool.not_true, Bool.false_or] at hs2
        obtain ⟨⟨⟨⟨s1, s2⟩, s3⟩, s4⟩, s5⟩ := hs2
        obtain ⟨tmj, stj, v, new, hv, hstep, f1, f2⟩ := hfacts q o m hA hB
        rcases hstep with ⟨hvv, _⟩ | ⟨_, hds, hy⟩
        ·rw [hnv] at hvv; cases hvv
        ·obtain ⟨hy2, hnew, hgd⟩ := hy i3
         subst hnew
         have hF : CompF P N o m := by
          rcases hpos _ o m ho hm with ⟨h, _⟩ | ⟨_, _, h⟩ | ⟨_, h, _⟩
          ·rw [hnv] at h; cases h
          ·exact h
          ·rw [i3] at h; cases h
         have sm := same (lo + q) o m tmj i4 ho s1 f1
         refine meet_float hsel hQ ho hF hy2 (fun x hx => ?_) hh hsz hun i4 (fun j oj hj hne hu2 hd => ?_) (fun a' hh' => ?_)
         ·cases x with
          | tmp t => exact sm t (.inl (mem_tmpsOf hx))
          | const => rfl
          | global => rfl
          | func => rfl
         ·have hjlt := (Array.getElem?_eq_some_iff.1 hj).1
          refine apartAll_spec s5 j oj hjlt hj hne ?_ ?_ ?_ hd
          ·rcases Nat.lt_or_ge j lo with h | h
           ·rw [h1 j hjlt (.inl h)] at hu2; cases hu2
           ·exact h
          ·cases e : memN j vd with
           | false => rfl
           | true => rw [h1 j hjlt (.inr e)] at hu2; cases hu2
          ·cases e : memN j (rowAt (rowsOf ops.toList []) (lo + q)) with
           | false => rfl
           | true =>
             have hp := rowAt_spec e
             obtain ⟨_, o', ho', hpre'⟩ := mem_ready.1 i4
             have : listed.getD j false = true := pred_listed hcl hp ho' hpre'
             rw [this] at hu2
             cases hu2
         ·have hL' : ∀ j, (listed.setIfInBounds (lo + q) true).getD j false = (listed.getD j false || Nat.beq j (lo + q)) := fun j => getD_setB listed (lo + q) j (by omega)
          have hVi : VS[lo + q]? = some (v, []) := by rw [VSat, hv]
          refine ih _ a' w (by have := unl_put hlt hsz hun; omega) (by simpa using hsz) (fun i' o' e hi' ho' he hb => ?_) (fun j hj hh2 => by rw [hL', h1 j hj hh2]; rfl) (fun j hj hvj => by
           rw [hL', h2 j hj hvj, Bool.false_or]
           cases e : Nat.beq j (lo + q) with
           | false => rfl
           | true => have := Nat.eq_of_beq_eq_true e; omega) ⟨B0, hX0, _, st', at_, FP, hh', fun t => ?_, fun b => ?_⟩
          ·simp only [hL', Bool.or_eq_true] at hi' ⊢
           rcases hi' with hi' | hi'
           ·exact .inl (hcl i' o' e hi' ho' he hb)
           ·have := Nat.eq_of_beq_eq_true hi'
            subst this
            obtain ⟨_, o2, ho2, hpre2⟩ := mem_ready.1 i4
            rw [ho'] at ho2
            cases ho2
            exact .inl (hpre2 e he hb)
          ·exact TL_step g1 (fun j => hL' j) (by have := dsAt _ m hm; rw [blt_false (by omega), hnv] at this; exact this) (fun d hd => by
            rw [hd] at s4
            simp only at s4
            cases hw : wr d ds 0 with
            | none => rw [hw] at s4; cases s4
            | some z => rw [hw] at s4; rw [Nat.eq_of_beq_eq_true s4]) hVi t
          ·have := SLb_step (nx := nx) (nb := nx + 16 * lo) (st := st') (new := []) ⟨by omega, by omega⟩ g2 (fun j => hL' j) (.inr rfl) hVi (fun p hp => by cases hp) b
           exact this
       ·rw [hu]
        refine ⟨fun hr => (by rw [hr] at ready0; cases ready0), fun i hi => ?_⟩
        obtain ⟨hun, o, ho, hpre⟩ := mem_ready.1 hi
        have hlt := (Array.getElem?_eq_some_iff.1 ho).1
        rw [getD_tf hsz hlt] at hun
        have pre : ∀ j, Pred ops i j → listed.getD j false = true := fun j hp => pred_listed hcl hp ho hpre
        have hge : lo ≤ i := by
         rcases Nat.lt_or_ge i lo with h | h
         ·rw [h1 i hlt (.inl h)] at hun; cases hun
         ·exact h
        have hnv : memN i vd = false := by
         cases e : memN i vd with
         | false => rfl
         | true => rw [h1 _ hlt (.inr e)] at hun; cases hun
        have hin : i < lo + kk := by
         refine Classical.byContradiction (fun hc => ?_)
         rcases k3 with k3 | ⟨ob, mb, b1, b2, b3, b4, b5, b6, b7, b8, b9⟩
         ·omega
         ·rcases Nat.lt_or_ge (lo + kk) i with hgt | hle
          ·rcases barAfter_spec b7 i hlt hgt with hv | hrow
           ·rw [hnv] at hv; cases hv
           ·have := pre _ (rowAt_spec hrow)
            rw [h2 (lo + kk) (Nat.le_refl _) b3] at this
            cases this
          ·have hii : i = lo + kk := by omega
           subst hii
           rcases barBefore_spec b6 j0 j2 with h | h | h | h
           ·omega
           ·rw [h1 j0 hj0lt (.inr h)] at j3; cases j3
           ·exact hfl ⟨j0, j1, j2, h, ready0⟩
           ·rw [pre _ (rowAt_spec h)] at j3; cases j3
        have hnf : memN i fl = false := by
         cases e : memN i fl with
         | false => rfl
         | true => exact absurd ⟨i, hge, hin, e, hi⟩ hfl
        obtain ⟨q, rfl⟩ : ∃ q, i = lo + q := ⟨i - lo, by omega⟩
        have hq : q < kk := by omega
        obtain ⟨o', m, ho', hm, hA, hB⟩ := opAt q hq
        rw [ho] at ho'
        cases ho'
        have hseg := (segAt q o m hq ho hm).resolve_left (by rw [hnv]; exact fun h => by cases h)
        have hs2 := hseg.2
        unfold segOne at hs2
        simp only [Bool.and_eq_true] at hs2
        obtain ⟨⟨⟨⟨s1, s2⟩, s3⟩, s4⟩, s5⟩ := hs2
        obtain ⟨tmj, stj, v, new, hv, hstep, f1, f2⟩ := hfacts q o m hA hB
        have cs : CompO P mu ops N o m := by
         rcases hpos _ o m ho hm with ⟨h, _⟩ | ⟨_, h, _⟩ | ⟨_, _, h⟩
         ·rw [hnv] at h; cases h
         ·rw [hnf] at h; cases h
         ·exact h
        have sm := same (lo + q) o m tmj hi ho s1 f1
        have hL' : ∀ j, (listed.setIfInBounds (lo + q) true).getD j false = (listed.getD j false || Nat.beq j (lo + q)) := fun j => getD_setB listed (lo + q) j (by omega)
        have hVi : VS[lo + q]? = some (v, new) := by rw [VSat, hv]
        have hfu : f = Unl ops (listed.setIfInBounds (lo + q) true) := by have := unl_put hlt hsz hun; omega
        have hids := hstep.ids
        have next : ∀ (B0 : Base) (_ : Ext (cm mu) w0 B0) (a' : Act) (w' : World) (at1 : Nat → Option (Nat × Nat)) (FP1 : Nat → List Nat), Here B0 N (putT m.dst v tm') (addAll new st') a' w' at1 FP1 → wpAny P .any ops R f (listed.setIfInBounds (lo + q) true) a' w' := by
         intro B0 hX0 a' w' at1 FP1 hh1
         rw [hfu]
         refine ih _ a' w' hfu.symm (by simpa using hsz) (fun i' o' e hi' ho' he hb => ?_) (fun j hj hh2 => by rw [hL', h1 j hj hh2]; rfl) (fun j hj hvj => by
          rw [hL', h2 j hj hvj, Bool.false_or]
          cases e : Nat.beq j (lo + q) with
          | false => rfl
          | true => have := Nat.eq_of_beq_eq_true e; omega) ⟨B0, hX0, _, _, at1, FP1, hh1, fun t => ?_, fun b => ?_⟩
         ·simp only [hL', Bool.or_eq_true] at hi' ⊢
          rcases hi' with hi' | hi'
          ·exact .inl (hcl i' o' e hi' ho' he hb)
          ·have := Nat.eq_of_beq_eq_true hi'
           subst this
           rw [ho] at ho'
           cases ho'
           exact .inl (hpre e he hb)
         ·exact TL_step g1 (fun j => hL' j) (by have := dsAt _ m hm; rw [blt_false (by omega), hnv] at this; exact this) (fun d hd => by
           rw [hd] at s4
           simp only at s4
           cases hw : wr d ds 0 with
           | none => rw [hw] at s4; cases s4
           | some z => rw [hw] at s4; rw [Nat.eq_of_beq_eq_true s4]) hVi t
         ·exact SLb_step (nx := nx) (nb := nx + 16 * lo) ⟨by omega, by omega⟩ g2 (fun j => hL' j) (.inl hun) hVi hids b
        have hput : ∀ (B0 : Base) (a' : Act) (w' : World) (st1 : Nat → Option Blk) (at1 : Nat → Option (Nat × Nat)) (FP1 : Nat → List Nat) (u : Value), Here B0 N tm' st1 a' w' at1 FP1 → Loc ⟨B0, w', at1, st1⟩ v u → Here B0 N (putT m.dst v tm') st1 (a'.put o.dst u) w' at1 FP1 := by
         intro B0 a' w' st1 at1 FP1 u hh1 hl1
         rw [cs.dst]
         have hlt := cs.lt
         rw [cs.dst] at hlt
         cases hd : m.dst with
         | none => exact hh1
         | some d => exact hh1.put hl1 (hlt d hd)
        rcases hstep with ⟨hvv, _⟩ | ⟨_, hds2, _⟩
        ·rw [hnv] at hvv; cases hvv
        ·unfold wpOp
         rw [ho]
         simp only
         rcases hds2 with ⟨hg, hok⟩ | ⟨d, want, hgd, hsl, rfl, rfl⟩
         ·have hw : Region.wanted o (yielded ops a.tmps) = true := by
           rcases hg with hg | ⟨d, want, hg, hs⟩
           ·exact guard_none cs hg _
           ·have := sm d (.inr (by rw [hg]; exact List.mem_cons_self ..))
            rw [(guard_run hh cs hg).1 want (by rw [this, hs])]
            simp
          rw [hw, if_pos rfl]
          refine .inl ((hok.2 B0 N tm' st' a w (fun x hx => ?_) (fun b k hb => ?_) (fun b hb1 hb2 => ?_) ⟨at_, FP, hh⟩ hX0.mode).wp (fun u w' hu => ?_))
          ·cases x with
           | tmp t => exact sm t (.inl (mem_tmpsOf hx))
           | const => rfl
           | global => rfl
           | func => rfl
          ·unfold used at hb
           cases hns : noStore m.op with
           | true => rw [hns] at hb; cases hb
           | false =>
             rw [hns, cond_false] at hb
             rw [hns, Bool.false_or] at s3
             have hah := aheadS_spec s3
             have hb1 := hid_look hb
             rw [f2] at hb1
             rw [g2, ← hb1]
             unfold SLb at hb1 ⊢
             by_cases hbx : b < nx + 16 * lo
             ·rw [if_pos hbx, if_pos hbx]
             ·rw [if_neg hbx] at hb1
              rw [if_neg hbx, if_neg hbx]
              cases e : Nat.blt ((b - nx) / 16) (lo + q) with
              | false => dsimp only at hb1; rw [e] at hb1; simp at hb1
              | true =>
                dsimp only
                rw [e, cond_true]
                have hblt := blt_iff.1 e
                rcases hah _ hblt with hp | hp | hp | hp
                ·omega
                ·rw [h1 _ (by omega) (.inr hp), cond_true]
                ·rw [pre _ (rowAt_spec hp), cond_true]
                ·exfalso
                 unfold hid at hb
                 split at hb
                 ·rename_i hnil
                  rw [hnil] at hp
                  cases hp
                 ·rw [look_hidden] at hb
                  have : Nat.blt b nx = false := blt_false (by omega)
                  rw [this, cond_false, hp, cond_true] at hb
                  cases hb
          ·rw [g2]
           unfold SLb
           have : (b - nx) / 16 = lo + q := by omega
           rw [if_neg (by omega), this]
           dsimp only
           rw [hun]
           rfl
          ·obtain ⟨B', hX', at1, FP1, hh1, hl1⟩ := hu
           exact next B' (hX0.trans hX') _ _ _ _ (hput _ _ _ _ _ _ _ hh1 hl1)
         ·have hw : Region.wanted o (yielded ops a.tmps) = false := by
           have := sm d (.inr (by rw [hgd]; exact List.mem_cons_self ..))
           rcases hsl with ⟨b, hb, hbw⟩ | hsl
           ·rw [(guard_run hh cs hgd).1 b (by rw [this, hb])]
            exact hbw
           ·exact (guard_run hh cs hgd).2 (by rw [this, hsl])
          rw [hw]
          simp only [Bool.false_eq_true, if_false]
          exact next B0 hX0 _ _ at_ FP (hput _ _ _ _ _ _ _ hh .undef)
   refine way _ listed0 a0 w0' rfl hsz0 (fun i o e hi ho he hb => ?_) (fun j hj hh => (hL0 j hj).2 hh) (fun j hj hv => ?_) ?_
   ·have hlt := (Array.getElem?_eq_some_iff.1 ho).1
    obtain ⟨e1, e2⟩ := edge i o ho
    have hrow := e2 e he hb
    have hlt2 := e1 _ hrow
    refine (hL0 e.on (by omega)).2 ?_
    rcases (hL0 i hlt).1 hi with h | h
    ·exact .inl (by omega)
    ·exact .inr ((hvd i h).2 _ hrow)
   ·cases e : listed0.getD j false with
    | false => rfl
    | true =>
      have hlt : j < ops.size := by
       rw [Array.getD_eq_getD_getElem?] at e
       rcases Nat.lt_or_ge j listed0.size with h | h
       ·omega
       ·rw [Array.getElem?_eq_none h] at e; cases e
      rcases (hL0 j hlt).1 e with h | h
      ·omega
      ·rw [h] at hv; cases hv
   ·obtain ⟨⟨at_, FP, hh⟩, hfr⟩ := hr
    refine ⟨B00, hX00, s.tm, fun b => look b s.st, at_, FP, hh, fun t => ?_, fun b => ?_⟩
    ·unfold TL
     cases hw : wr t ds 0 with
     | none => rfl
     | some j =>
       obtain ⟨g1, g2, m, g3, _⟩ := dsSome t j hw
       have hlt : j < ops.size := by have := lt_of_get g3; omega
       have : listed0.getD j false = false := by
        cases e : listed0.getD j false with
        | false => rfl
        | true =>
          rcases (hL0 j hlt).1 e with h | h
          ·omega
          ·rw [h] at g2; cases g2
       simp only [this, cond_false]
    ·unfold SLb
     by_cases hb : b < nx + 16 * lo
     ·rw [if_pos hb]
     ·rw [if_neg hb]
      have hn : look b s.st = none := by
       cases e : look b s.st with
       | none => rfl
       | some k => exact absurd (hfr b k e) hb
      dsimp only
      rw [hn]
      cases hLj : listed0.getD ((b - nx) / 16) false with
      | false => rfl
      | true =>
        rw [cond_true]
        have hlt : (b - nx) / 16 < ops.size := by
         rw [Array.getD_eq_getD_getElem?] at hLj
         rcases Nat.lt_or_ge ((b - nx) / 16) listed0.size with h | h
         ·omega
         ·rw [Array.getElem?_eq_none h] at hLj; cases hLj
        have hge : lo ≤ (b - nx) / 16 := by omega
        rcases (hL0 _ hlt).1 hLj with h | h
        ·omega
        ·obtain ⟨q, hq⟩ : ∃ q, (b - nx) / 16 = lo + q := ⟨(b - nx) / 16 - lo, by omega⟩
         rw [hq, VSat]
         rw [hq] at h
         by_cases hqk : q < kk
         ·obtain ⟨o', m', g1, g2, g3, g4⟩ := opAt q hqk
          obtain ⟨tmj, stj, v, new, f1, f2, _⟩ := hfacts q o' m' g3 g4
          rw [f1]
          rcases f2 with ⟨_, _, rfl⟩ | ⟨hv, _⟩
          ·rfl
          ·rw [h] at hv; cases hv
         ·rw [List.getElem?_eq_none (by omega)]
          rfl
end
end Go.V
namespace Go.V
open Go Go.RowKit
section
variable {P : Program} {Q : AV → Prop} {As : List (St → Prop)} {mu : Nat → Bool} {N nx : Nat} {ops : Array Oper} {w0 : Base}
theorem compFloat_nosel {o : Oper} {m : MOper} (h : compFloat P N o = some m) : ∀ cs b, o.op ≠ .select cs b := by
 intro cs b he
 unfold compFloat at h
 split at h
 ·split at h
  ·rw [he] at h
   cases h
  ·cases h
 ·cases h
theorem compO_nosel {o : Oper} {hd : List Nat} {m : MOper} (h : compO P mu ops N o hd = some m) : ∀ cs b, o.op ≠ .select cs b := by
 intro cs b he
 unfold compO at h
 simp only [Option.bind_eq_some_iff] at h
 obtain ⟨mm, h1, _⟩ := h
 rw [he] at h1
 simp [compX, appz?, compOp, compOp0, noOk] at h1
theorem compPre_nosel : ∀ {l : List Nat} {pl : List MOper}, compPre P ops N l = some pl → ∀ i ∈ l, ∀ o, ops[i]? = some o → (∀ cs b, o.op ≠ .select cs b) ∧ ∃ d, o.dst = some d ∧ d < N
 | [], pl, _, i, hi => by cases hi
 | j :: l, pl, h, i, hi => by
   simp only [compPre, Option.bind_eq_some_iff, Option.map_eq_some_iff] at h
   obtain ⟨m, ⟨o, ho, hm⟩, pl', hpl, rfl⟩ := h
   intro o' ho'
   rcases List.mem_cons.1 hi with rfl | hi
   ·rw [ho] at ho'
    cases ho'
    refine ⟨compFloat_nosel hm, ?_⟩
    have hF := compFloat_ok hm
    obtain ⟨d, h1, h2⟩ := hF.some_
    exact ⟨d, hF.dst.trans h1, h2⟩
   ·exact compPre_nosel hpl i hi o' ho'
theorem compOps2_nosel {vd fl : List Nat} (hv : ∀ i ∈ vd, ∀ o, ops[i]? = some o → ∀ cs b, o.op ≠ .select cs b) : ∀ {l : List Oper} {ml : List MOper} {hs : List (List Nat)} {i : Nat}, (∀ j : Nat, l[j]? = ops[i + j]?) → compOps2 P mu ops N vd fl i l hs = some ml → ∀ (j : Nat) (o : Oper), l[j]? = some o → ∀ cs b, o.op ≠ .select cs b
 | [], ml, hs, i, _, h, j, o, hj => by simp at hj
 | x :: l, ml, hs, i, hl, h, j, o, hj => by
   simp only [compOps2, Option.bind_eq_some_iff, Option.map_eq_some_iff] at h
   obtain ⟨m, hm, ml', hml, rfl⟩ := h
   cases j with
   | zero =>
     simp at hj
     subst hj
     cases e1 : memN i vd with
     | true => exact hv i (memN_spec.1 e1) x (by have := hl 0; simpa using this.symm)
     | false =>
       rw [e1, cond_false] at hm
       cases e2 : memN i fl with
       | true => rw [e2, cond_true] at hm; exact compFloat_nosel hm
       | false => rw [e2, cond_false] at hm; exact compO_nosel hm
   | succ j => exact compOps2_nosel hv (l := l) (i := i + 1) (fun j => by have := hl (j + 1); rw [show i + 1 + j = i + (j + 1) by omega]; simpa using this) hml j o (by simpa using hj)
theorem any2 [TbOk P w0] {K : St → Tree} {R : Exit → Act → World → Prop} {ml pl : List MOper} {pre fl : List Nat} {hs : List (List Nat)} {s : St} (hQ : ∀ c a a' w, R (.panic c) a w → R (.panic c) a' w) (hpre : compPre P ops N pre = some pl) (hc : compOps2 P mu ops N pre fl 0 ops.toList hs = some ml) (hd : drawOk2 ops pre fl ml = true)
 (hK : ∀ s' a' w', Sat P Q As (K s') → s'.nx = s.nx → RelS mu w0 N s'.tm s'.st (nx + 16 * ops.size) a' w' → R .normal a' w') (h : Sat P Q As (opsT nx pl 0 (fun s1 => opsT nx ml 0 K s1) s)) :
 ∀ (a : Act) (w : World), RelS mu w0 N s.tm s.st nx a w → wpAny P .any ops R ops.size (Array.replicate ops.size false) a w := by
 unfold drawOk2 at hd
 rw [Bool.and_eq_true, Bool.and_eq_true, Bool.and_eq_true] at hd
 obtain ⟨⟨⟨d1, d2⟩, d3⟩, d4⟩ := hd
 have hno := compPre_nosel hpre
 obtain ⟨c1, c2⟩ := compOps2_pos (vd := pre) (fl := fl) (fun i o hi ho => (hno i (memN_spec.1 hi) o ho).2) (l := ops.toList) (i := 0) (fun j => by simp) hc
 have hml : ml.length = ops.size := by simpa using c1
 have hsel : ∀ (j : Nat) (o : Oper) cs b, ops[j]? = some o → o.op ≠ .select cs b := fun j o cs b ho => compOps2_nosel (vd := pre) (fl := fl) (fun i hi o ho => (hno i hi o ho).1) (l := ops.toList) (i := 0) (fun j => by simp) hc j o (by simpa using ho) cs b
 have hpos : ∀ (i : Nat) (o : Oper) (m : MOper), ops[i]? = some o → ml[i]? = some m → PosOK P mu ops N pre fl i o m := fun i o m ho hm => by
  have := c2 i o m (by simpa using ho) hm
  rwa [Nat.zero_add] at this
 have hedge : ∀ (i : Nat) (o : Oper), ops[i]? = some o → edgesOk (rowsOf ops.toList []) i o = true := fun i o ho => by
  have := edgesAll_spec d1 i o (by simpa using ho)
  rwa [Nat.zero_add] at this
 have hvd : ∀ i, memN i pre = true → i < ops.size ∧ ∀ j, memN j (rowAt (rowsOf ops.toList []) i) = true → memN j pre = true := fun i hi => by
  have := List.all_eq_true.1 d2 i (memN_spec.1 hi)
  rw [Bool.and_eq_true, Nat.blt_eq] at this
  exact ⟨this.1, fun j hj => List.all_eq_true.1 this.2 j (memN_spec.1 hj)⟩
 intro a w hr
 have rep : ∀ j, (Array.replicate ops.size false).getD j false = false := fun j => by
  rw [Array.getD_eq_getD_getElem?, Array.getElem?_replicate]
  split <;> rfl
 have hu : Unl ops (Array.replicate ops.size false) = ops.size := by
  unfold Unl
  rw [List.filter_eq_self.2 (fun j _ => by rw [rep]; rfl), List.length_range]
 have go := pre_go (P := P) (N := N) (nx := nx) (w0 := w0) hsel hQ (K1 := fun s1 => opsT nx ml 0 K s1) (n0 := s.nx) (fin := pre) (fun s' a' w' listed hs' hn hr' hsz hL => by
  refine seg_go (P := P) (mu := mu) (vd := pre) (fl := fl) (n0 := s.nx) hsel hQ hK hml hpos hedge hvd ops.size 0 (by omega) (Nat.zero_le _) (by simpa using d4) s' listed a' w' hn (by simpa using hs') (by simpa using hr') hsz (fun j hj => ?_)
  rw [hL]
  constructor
  ·exact fun h => .inr (memN_spec.2 h)
  ·rintro (h | h)
   ·omega
   ·exact memN_spec.1 h) pre [] pl 0 hpre d3 (fun j => by simp) s a w (Array.replicate ops.size false) rfl h hr (by simp) (fun j => by rw [rep]; simp)
 rw [hu] at go
 exact go
end
end Go.V
namespace Go.V
open Go Go.RowKit
def depsOf (ops : Array Oper) : List (List Nat) := ops.toList.map fun o => (o.after.toList.filter fun e => Region.binds .any e).map fun e => e.on
def drawOk3 (ops : Array Oper) (fl : List Nat) : Bool := fl.all fun i => match ops[i]? with
 | some o => apartAll ops (depsOf ops) [] 0 i o ops.size
 | none => false
theorem depAt_get : ∀ {l : List (List Nat)} {i : Nat}, depAt l i = (l[i]?).getD []
 | [], i => by simp [depAt]
 | d :: r, 0 => by simp [depAt]
 | d :: r, i + 1 => by rw [depAt, depAt_get]; simp
theorem opAt_get : ∀ {l : List MOper} {i : Nat}, opAt l i = l[i]?
 | [], i => by simp [opAt]
 | d :: r, 0 => by simp [opAt]
 | d :: r, i + 1 => by rw [opAt, opAt_get]; simp
theorem mem_readyA {deps : List (List Nat)} {done : List Nat} : ∀ {n i : Nat}, i ∈ readyA deps done n ↔ i < n ∧ memN i done = false ∧ ∀ j ∈ depAt deps i, memN j done = true
 | 0, i => by simp [readyA]
 | n + 1, i => by
   have ih := mem_readyA (deps := deps) (done := done) (n := n) (i := i)
   rw [readyA]
   cases e : memN n done with
   | true =>
     rw [cond_true, ih]
     constructor
     ·rintro ⟨h1, h2⟩; exact ⟨by omega, h2⟩
     ·rintro ⟨h1, h2, h3⟩
      refine ⟨?_, h2, h3⟩
      rcases Nat.lt_or_ge i n with h | h
      ·exact h
      ·have : i = n := by omega
       subst this
       rw [e] at h2
       cases h2
   | false =>
     rw [cond_false]
     cases e2 : (depAt deps n).all (fun j => memN j done) with
     | true =>
       rw [cond_true, List.mem_cons, ih]
       constructor
       ·rintro (rfl | ⟨h1, h2⟩)
        ·exact ⟨by omega, e, fun j hj => List.all_eq_true.1 e2 j hj⟩
        ·exact ⟨by omega, h2⟩
       ·rintro ⟨h1, h2, h3⟩
        rcases Nat.lt_or_ge i n with h | h
        ·exact .inr ⟨h, h2, h3⟩
        ·exact .inl (by omega)
     | false =>
       rw [cond_false, ih]
       constructor
       ·rintro ⟨h1, h2⟩; exact ⟨by omega, h2⟩
       ·rintro ⟨h1, h2, h3⟩
        refine ⟨?_, h2, h3⟩
        rcases Nat.lt_or_ge i n with h | h
        ·exact h
        ·have : i = n := by omega
         subst this
         have : (depAt deps i).all (fun j => memN j done) = true := List.all_eq_true.2 h3
         rw [e2] at this
         cases this
theorem firstIn_mem {fl : List Nat} : ∀ {l : List Nat} {i : Nat}, firstIn fl l = some i → i ∈ l ∧ memN i fl = true
 | [], i, h => by cases h
 | j :: r, i, h => by
   rw [firstIn] at h
   cases e : memN j fl with
   | true => rw [e, cond_true] at h; cases h; exact ⟨List.mem_cons_self .., e⟩
   | false =>
     rw [e, cond_false] at h
     have := firstIn_mem h
     exact ⟨List.mem_cons_of_mem _ this.1, this.2⟩
theorem firstIn_none {fl : List Nat} : ∀ {l : List Nat}, firstIn fl l = none → ∀ i ∈ l, memN i fl = false
 | [], h, i, hi => by cases hi
 | j :: r, h, i, hi => by
   rw [firstIn] at h
   cases e : memN j fl with
   | true => rw [e, cond_true] at h; cases h
   | false =>
     rw [e, cond_false] at h
     rcases List.mem_cons.1 hi with rfl | hi
     ·exact e
     ·exact firstIn_none h i hi
theorem ordT_each {nx : Nat} {T : Nat → Ord} {T' : Nat → Tree} {K : St → Tree} {s : St} (h : ∀ i, ordT nx (T i) K s = T' i) : ∀ {r : List Nat} {i : Nat}, ordT nx (eachO T i r) K s = eachT T' i r
 | [], i => h i
 | j :: r, i => by
   rw [eachO, ordT, eachT]
   simp only [h, ordT_each h (r := r)]
theorem ordT_eq {nx : Nat} {deps : List (List Nat)} {fl : List Nat} {ops : List MOper} : ∀ {f : Nat} {done : List Nat} {K : St → Tree} {s : St}, ordT nx (mkOrd deps fl ops f done) K s = anyT nx deps fl ops f done K s
 | 0, done, K, s => rfl
 | f + 1, done, K, s => by
   have hgo : ∀ i, ordT nx (match opAt ops i with
    | some o => Ord.step done.length o (fun _ => mkOrd deps fl ops f (i :: done))
    | none => .bad 171) K s = (match opAt ops i with
    | some o => opsT nx [o] done.length (fun s' => anyT nx deps fl ops f (i :: done) K s') s
    | none => .bad 171) := fun i => by
    cases opAt ops i with
    | none => rfl
    | some o =>
      simp only [ordT]
      congr 1
      funext s'
      exact ordT_eq
   rw [mkOrd, anyT]
   simp only
   cases firstIn fl (readyA deps done ops.length) with
   | some i => exact hgo i
   | none =>
     simp only
     cases readyA deps done ops.length with
     | nil => rfl
     | cons i r => exact ordT_each hgo
section
variable {P : Program} {Q : AV → Prop} {As : List (St → Prop)} {mu : Nat → Bool} {N nx : Nat} {ops : Array Oper} {w0 : Base} {fl : List Nat}
theorem each_all {T : Nat → Tree} : ∀ {r : List Nat} {i : Nat}, Sat P Q As (eachT T i r) → ∀ j ∈ i :: r, Sat P Q As (T j)
 | [], i, h, j, hj => by
   rw [List.mem_singleton] at hj
   subst hj
   exact h
 | k :: r, i, h, j, hj => by
   rw [eachT] at h
   obtain ⟨h1, h2⟩ := sat_may h
   rcases List.mem_cons.1 hj with rfl | hj
   ·exact h1 trivial
   ·exact each_all h2 j hj
theorem eachL_all {T : Nat → Tree} {r : List Nat} (h : Sat P Q As (eachL T r)) : ∀ j ∈ r, Sat P Q As (T j) := by
 cases r with
 | nil => intro j hj; cases hj
 | cons i r => exact each_all h
theorem any3_go [TbOk P w0] {K : St → Tree} {R : Exit → Act → World → Prop} {ml : List MOper} {n0 : Nat} (hsel : ∀ (j : Nat) (o : Oper) cs b, ops[j]? = some o → o.op ≠ .select cs b) (hQ : ∀ c a a' w, R (.panic c) a w → R (.panic c) a' w)
 (hK : ∀ s' a' w', Sat P Q As (K s') → s'.nx = n0 → RelS mu w0 N s'.tm s'.st (nx + 16 * ops.size) a' w' → R .normal a' w')
 (hml : ml.length = ops.size) (hpos : ∀ (i : Nat) (o : Oper) (m : MOper), ops[i]? = some o → ml[i]? = some m → PosOK P mu ops N [] fl i o m) (hd : drawOk3 ops fl = true) :
 ∀ (f : Nat) (done : List Nat) (s : St) (listed : Array Bool) (a : Act) (w : World), s.nx = n0 → done.length + f = ops.size → Unl ops listed = f → listed.size = ops.size → (∀ j, j < ops.size → listed.getD j false = memN j done) → (∀ j ∈ done, j < ops.size) →
   Sat P Q As (anyT nx (depsOf ops) fl ml f done K s) → RelS mu w0 N s.tm s.st (nx + 16 * done.length) a w → wpAny P .any ops R f listed a w := by
 intro f
 induction f with
 | zero =>
   intro done s listed a w hn hlen hu hsz hL hdone h hr
   refine ⟨?_, hK s a w h hn (by have e : done.length = ops.size := by omega
                                 rw [← e]; exact hr)⟩
   unfold Unl at hu
   rw [List.length_eq_zero_iff, List.filter_eq_nil_iff] at hu
   cases hrd : Region.ready .any ops listed with
   | nil => rfl
   | cons i r =>
     have hi : i ∈ Region.ready .any ops listed := by rw [hrd]; exact List.mem_cons_self ..
     obtain ⟨h1, o, ho, _⟩ := mem_ready.1 hi
     have hlt := (Array.getElem?_eq_some_iff.1 ho).1
     have := hu i (List.mem_range.2 hlt)
     rw [getD_tf hsz hlt] at h1
     rw [h1] at this
     simp at this
 | succ f ih =>
   intro done s listed a w hn hlen hu hsz hL hdone h hr
   have rdy : ∀ i, i ∈ readyA (depsOf ops) done ml.length ↔ i ∈ Region.ready .any ops listed := fun i => by
    rw [mem_readyA, mem_ready, hml]
    constructor
    ·rintro ⟨h1, h2, h3⟩
     have ho : ops[i]? = some ops[i] := Array.getElem?_eq_getElem h1
     refine ⟨by rw [getD_tf hsz h1, hL i h1, h2], ops[i], ho, fun e he hb => ?_⟩
     have hm : e.on ∈ depAt (depsOf ops) i := by
      rw [depAt_get, depsOf, List.getElem?_map]
      have : ops.toList[i]? = some ops[i] := by simp
      rw [this]
      simp only [Option.map_some, Option.getD_some, List.mem_map, List.mem_filter]
      exact ⟨e, ⟨by simpa using he, hb⟩, rfl⟩
     have h4 := h3 _ hm
     rw [hL _ (hdone e.on (memN_spec.1 h4))]; exact h4
    ·rintro ⟨h1, o, ho, h3⟩
     have hlt := (Array.getElem?_eq_some_iff.1 ho).1
     refine ⟨hlt, by rw [← hL i hlt, ← getD_tf hsz hlt]; exact h1, fun j hj => ?_⟩
     rw [depAt_get, depsOf, List.getElem?_map] at hj
     have : ops.toList[i]? = some o := by simpa using ho
     rw [this] at hj
     simp only [Option.map_some, Option.getD_some, List.mem_map, List.mem_filter] at hj
     obtain ⟨e, ⟨he, hb⟩, rfl⟩ := hj
     have h4 := h3 e (by simpa using he) hb
     have hlt2 : e.on < ops.size := by
      rw [Array.getD_eq_getD_getElem?] at h4
      rcases Nat.lt_or_ge e.on listed.size with h | h
      ·omega
      ·rw [Array.getElem?_eq_none h] at h4; cases h4
     rw [← hL _ hlt2]
     exact h4
   have stepL : ∀ i, i < ops.size → memN i done = false → (∀ j, j < ops.size → (listed.setIfInBounds i true).getD j false = memN j (i :: done)) := fun i hi hm j hj => by
    rw [getD_setB listed i j (by omega), hL j hj, memN]
    cases e : Nat.beq j i with
    | true => have := Nat.eq_of_beq_eq_true e; subst this; rw [Nat.beq_refl, cond_true, Bool.or_true]
    | false =>
      have e2 : Nat.beq i j = false := by
       cases e2 : Nat.beq i j with
       | false => rfl
       | true => have := Nat.eq_of_beq_eq_true e2; subst this; rw [Nat.beq_refl] at e; cases e
      rw [e2, cond_false, Bool.or_false]
   have unlS : ∀ i, i < ops.size → memN i done = false → Unl ops (listed.setIfInBounds i true) = f := fun i hi hm => by
    have := unl_put hi hsz (by rw [hL i hi]; exact hm)
    omega
   rw [anyT] at h
   simp only at h
   cases hf : firstIn fl (readyA (depsOf ops) done ml.length) with
   | some i =>
     rw [hf] at h
     simp only at h
     obtain ⟨hi, hfl⟩ := firstIn_mem hf
     have hir := (rdy i).1 hi
     rw [mem_readyA, hml] at hi
     obtain ⟨hi1, hi2, hi3⟩ := hi
     have ho : ops[i]? = some ops[i] := Array.getElem?_eq_getElem hi1
     have hm : ml[i]? = some (ml[i]'(by omega)) := List.getElem?_eq_getElem _
     rw [opAt_get, hm] at h
     simp only at h
     have hF : CompF P N ops[i] (ml[i]'(by omega)) := by
      rcases hpos i _ _ ho hm with ⟨h, _⟩ | ⟨_, _, h⟩ | ⟨_, h, _⟩
      ·cases h
      ·exact h
      ·rw [hfl] at h; cases h
     generalize ml[i]'(by omega) = m at *
     generalize ops[i] = o at *
     have hg := hF.gd
     unfold opsT at h
     simp only at h
     rw [hg] at h
     simp only at h
     rw [hF.quiet.1, cond_false] at h
     obtain ⟨v, hsat, hy⟩ := hF.yields _ _ _ _ _ _ h
     obtain ⟨B, hX, ⟨at_, FP, hh⟩, hfr⟩ := hr
     haveI := TbOk.ext (P := P) hX
     rw [← hu]
     refine meet_float hsel hQ ho hF hy (fun _ _ => rfl) hh hsz (by rw [hL i hi1]; exact hi2) hir (fun j oj hj hne hun hnd => ?_) (fun a' hh' => ?_)
     ·have hjlt := (Array.getElem?_eq_some_iff.1 hj).1
      have hnot : memN j done = false := by rw [← hL j hjlt]; exact hun
      have hrow : memN j (rowAt (depsOf ops) i) = false := by
       cases e : memN j (rowAt (depsOf ops) i) with
       | false => rfl
       | true =>
         have := hi3 j (by rw [depAt_get]; exact memN_spec.1 e)
         rw [this] at hnot
         cases hnot
      have hap := List.all_eq_true.1 hd i (memN_spec.1 hfl)
      rw [ho] at hap
      exact apartAll_spec hap j oj hjlt hj hne (Nat.zero_le _) rfl hrow hnd
     ·rw [unlS i hi1 hi2]
      have hsat' : Sat P Q As (anyT nx (depsOf ops) fl ml f (i :: done) K { s with tm := putS s m.dst v, st := [] ++ s.st }) := by
       simpa only [opsT] using hsat
      refine ih (i :: done) _ _ a' w (by exact hn) (by simp only [List.length_cons]; omega) (unlS i hi1 hi2) (by simpa using hsz) (stepL i hi1 hi2) (fun j hj => ?_) hsat' ?_
      ·rcases List.mem_cons.1 hj with rfl | hj
       ·exact hi1
       ·exact hdone j hj
      ·refine ⟨B, hX, ⟨at_, FP, ?_⟩, fun b k hb => ?_⟩
       ·exact hh'
       ·have := hfr b k hb
        simp only [List.length_cons]
        omega
   | none =>
     rw [hf] at h
     simp only at h
     have hno := firstIn_none hf
     refine ⟨fun hnil => ?_, fun i hi => ?_⟩
     ·exfalso
      cases hr0 : readyA (depsOf ops) done ml.length with
      | nil => rw [hr0] at h; exact no_bad h
      | cons i r =>
        have : i ∈ Region.ready .any ops listed := (rdy i).1 (by rw [hr0]; exact List.mem_cons_self ..)
        rw [hnil] at this
        cases this
     ·have hi' := (rdy i).2 hi
      have hnf := hno i hi'
      have h2 := eachL_all h i hi'
      rw [mem_readyA, hml] at hi'
      obtain ⟨hi1, hi2, hi3⟩ := hi'
      have ho : ops[i]? = some ops[i] := Array.getElem?_eq_getElem hi1
      have hm : ml[i]? = some (ml[i]'(by omega)) := List.getElem?_eq_getElem _
      simp only [opAt_get, hm] at h2
      have cs : CompO P mu ops N ops[i] (ml[i]'(by omega)) := by
       rcases hpos i _ _ ho hm with ⟨h, _⟩ | ⟨_, h, _⟩ | ⟨_, _, h⟩
       ·cases h
       ·rw [hnf] at h; cases h
       ·exact h
      refine step_bar ho cs s a w h2 hr (fun s' a' w' hn' hs' hr' => ?_)
      have hs2 : Sat P Q As (anyT nx (depsOf ops) fl ml f (i :: done) K s') := by
       simpa only [opsT] using hs'
      refine ih (i :: done) s' _ a' w' (by rw [hn', hn]) (by simp only [List.length_cons]; omega) (unlS i hi1 hi2) (by simpa using hsz) (stepL i hi1 hi2) (fun j hj => ?_) hs2 (by rw [List.length_cons]; exact hr')
      rcases List.mem_cons.1 hj with rfl | hj
      ·exact hi1
      ·exact hdone j hj
theorem any3 [TbOk P w0] {K : St → Tree} {R : Exit → Act → World → Prop} {ml : List MOper} {s : St} (hQ : ∀ c a a' w, R (.panic c) a w → R (.panic c) a' w) {hs : List (List Nat)} (hc : compOps2 P mu ops N [] fl 0 ops.toList hs = some ml) (hd : drawOk3 ops fl = true)
 (hK : ∀ s' a' w', Sat P Q As (K s') → s'.nx = s.nx → RelS mu w0 N s'.tm s'.st (nx + 16 * ops.size) a' w' → R .normal a' w') (h : Sat P Q As (anyT nx (depsOf ops) fl ml ml.length [] K s)) :
 ∀ (a : Act) (w : World), RelS mu w0 N s.tm s.st nx a w → wpAny P .any ops R ops.size (Array.replicate ops.size false) a w := by
 obtain ⟨c1, c2⟩ := compOps2_pos (vd := []) (fl := fl) (fun i o hi ho => by cases hi) (l := ops.toList) (i := 0) (fun j => by simp) hc
 have hml : ml.length = ops.size := by simpa using c1
 have hsel : ∀ (j : Nat) (o : Oper) cs b, ops[j]? = some o → o.op ≠ .select cs b := fun j o cs b ho => compOps2_nosel (vd := []) (fl := fl) (fun i hi o ho => by cases hi) (l := ops.toList) (i := 0) (fun j => by simp) hc j o (by simpa using ho) cs b
 have hpos : ∀ (i : Nat) (o : Oper) (m : MOper), ops[i]? = some o → ml[i]? = some m → PosOK P mu ops N [] fl i o m := fun i o m ho hm => by
  have := c2 i o m (by simpa using ho) hm
  rwa [Nat.zero_add] at this
 have rep : ∀ j, (Array.replicate ops.size false).getD j false = false := fun j => by
  rw [Array.getD_eq_getD_getElem?, Array.getElem?_replicate]
  split <;> rfl
 have hu : Unl ops (Array.replicate ops.size false) = ops.size := by
  unfold Unl
  rw [List.filter_eq_self.2 (fun j _ => by rw [rep]; rfl), List.length_range]
 intro a w hr
 rw [hml] at h
 exact any3_go hsel hQ hK hml hpos hd ops.size [] s _ a w rfl (by simp) hu (by simp) (fun j _ => by rw [rep]; rfl) (fun j hj => by cases hj) h (by simpa using hr)
end
end Go.V
namespace Go.V
open Go Go.RowKit
section
variable {P : Program} {Q : AV → Prop} {w0 : Base} {w : World} {N : Nat} {a : Act}
theorem LeV.loc {E E1 : Env} {st st1 : List (Nat × Blk)} (h0 : E1.w0 = E.w0) (hw : E1.w = E.w) (hE : ∀ b, E.st b = look b st) (hE1 : ∀ b, E1.st b = look b st1)
 (hk : ∀ b k, look b st1 = some k → (∃ k', look b st = some k' ∧ LeK st st1 k' k) ∨ (look b st = none ∧ phantom k))
 (ha : ∀ b, look b st ≠ none → E1.at_ b = E.at_ b) (ha' : ∀ b, look b st = none → E1.at_ b = none) {x y : AV} (h : LeV st st1 x y) : ∀ {v : Value}, Loc E x v → Loc E1 y v := by
 have refat : ∀ {b off n len sz : Nat} {v : Value}, look b st ≠ none → RefAt E b off n len sz v → RefAt E1 b off n len sz v := by
  intro b off n len sz v hb hr
  obtain ⟨h1, h2⟩ := hr
  refine ⟨h1, ?_⟩
  rw [ha b hb, hw]
  exact h2
 have ph : ∀ {b : Nat} {A : Option Addr} {off n : Unit → Nat}, look b st1 ≠ none → look b st = none → off () = 0 → n () = 0 → Loc E1 (.ref b off n) (.slice A 0 0) := by
  intro b A off n hb1 hb h1 h2
  cases e : look b st1 with
  | none => exact absurd e hb1
  | some k =>
    rcases hk b k e with ⟨k', hk', _⟩ | ⟨_, hp⟩
    ·rw [hb] at hk'; cases hk'
    ·cases k with
     | lit => exact hp.elim
     | row sz enc xs fx => exact .ref ((hE1 b).trans e) (.ofNone (ha' b hb) (by rw [h1, h2]; exact Nat.zero_le _))
 induction h with
 | any x => exact fun _ => .any _
 | undef => intro v hl; cases hl; exact .undef
 | int h => intro v hl; rw [hl.int_inv, h]; exact .int _ _
 | bo b => intro v hl; cases hl; exact .bo _
 | str h => intro v hl; rw [hl.str_inv, h]; exact .str _
 | nil => intro v hl; cases hl; exact .nil
 | emp => intro v hl; cases hl; exact .emp _
 | @sl α sz enc xs ys h =>
   intro v hl
   cases hl with
   | sl hd => exact .sl (by rw [h0]; exact ⟨(LeD.sl (sz := sz) (enc := enc) h).deep hd.deep, hd.old⟩)
 | @ref b off n off' n' hb hb' h hn =>
   intro v hl
   cases e : look b st1 with
   | none => exact absurd e hb
   | some k =>
     rcases hk b k e with ⟨k', hk', hle⟩ | ⟨hno, _⟩
     ·cases hl with
      | ref hbb hr =>
        rw [hE, hk'] at hbb
        cases hbb
        cases hle with
        | row hxs => exact .ref ((hE1 b).trans e) (by rw [← h, ← hn, ← hxs]; exact refat hb' hr)
      | refl hbb hr =>
        rw [hE, hk'] at hbb
        cases hbb
        cases hle with
        | lit hl _ => exact .refl ((hE1 b).trans e) (by rw [← h, ← hn, hl]; exact refat hb' hr)
     ·exact absurd hno hb'
 | nilref hb hb' h hn => intro v hl; cases hl; exact ph hb hb' h hn
 | empref hb hb' h hn => intro v hl; cases hl; exact ph hb hb' h hn
 | @ptr b j hb =>
   intro v hl
   cases e : look b st1 with
   | none => exact absurd e hb
   | some k =>
     cases hl with
     | @ptr sz cs _ _ g base hbb hat =>
       rcases hk b k e with ⟨k', hk', hle⟩ | ⟨hno, _⟩
       ·rw [hE, hk'] at hbb
        cases hbb
        cases hle with
        | lit hl _ => exact .ptr ((hE1 b).trans e) ((ha b (by rw [hk']; exact fun h => by cases h)).trans hat)
       ·rw [hE, hno] at hbb; cases hbb
 | rptr cs => intro v hl; cases hl with | rptr hd => exact .rptr (h0 ▸ hd)
 | lsl cs => intro v hl; cases hl with | lsl hd => exact .lsl (h0 ▸ hd)
 | agg hl h ih =>
   intro v hx
   obtain ⟨us, rfl, hs, hd⟩ := hx.agg_inv
   refine .agg (hs.trans hl.symm) (fun i y hy => ?_)
   obtain ⟨x, hx⟩ := get_of_len hl hy
   exact ih i x y hx hy (hd i x hx)
 | clo hl h ih =>
   intro v hx
   obtain ⟨us, rfl, hs, hd⟩ := hx.clo_inv
   refine .clo (hs.trans hl.symm) (fun i y hy => ?_)
   obtain ⟨x, hx⟩ := get_of_len hl hy
   exact ih i x y hx hy (hd i x hx)
theorem RelS0.weak {s s1 : St} (h : RelS0 w0 N s.tm s.st s.nx a w) (hs : LeS s s1) : RelS0 w0 N s1.tm s1.st s1.nx a w := by
 obtain ⟨⟨at_, FP, hh⟩, hfr⟩ := h
 refine ⟨?_, hs.fresh⟩
 let at1 : Nat → Option (Nat × Nat) := fun b => match look b s.st with | none => none | some _ => at_ b
 let FP1 : Nat → List Nat := fun b => match look b s.st with | none => [] | some _ => FP b
 have e1 : ∀ b, look b s.st ≠ none → at1 b = at_ b ∧ FP1 b = FP b := fun b hb => by
  simp only [at1, FP1]
  cases e : look b s.st with
  | none => exact absurd e hb
  | some k => exact ⟨rfl, rfl⟩
 have e2 : ∀ b, look b s.st = none → at1 b = none ∧ FP1 b = [] := fun b hb => by
  simp only [at1, FP1, hb]
  exact ⟨trivial, trivial⟩
 have loc : ∀ {x y : AV} {v : Value}, LeV s.st s1.st x y → Loc ⟨w0, w, at_, fun b => look b s.st⟩ x v → Loc ⟨w0, w, at1, fun b => look b s1.st⟩ y v := fun h =>
  LeV.loc (E := ⟨w0, w, at_, fun b => look b s.st⟩) (E1 := ⟨w0, w, at1, fun b => look b s1.st⟩) rfl rfl (fun _ => rfl) (fun _ => rfl) hs.st (fun b hb => (e1 b hb).1) (fun b hb => (e2 b hb).1) h
 have own1 : ∀ b, look b s.st ≠ none → (⟨w0, w, at1, fun b => look b s1.st⟩ : Env).own FP1 b = (⟨w0, w, at_, fun b => look b s.st⟩ : Env).own FP b := fun b hb => by
  show ownOf (at1 b) (FP1 b) = ownOf (at_ b) (FP b)
  rw [(e1 b hb).1, (e1 b hb).2]
 have own2 : ∀ b, look b s.st = none → (⟨w0, w, at1, fun b => look b s1.st⟩ : Env).own FP1 b = [] := fun b hb => by
  show ownOf (at1 b) (FP1 b) = []
  rw [(e2 b hb).1]
  rfl
 have some_ne : ∀ {b : Nat} {k : Blk}, look b s.st = some k → look b s.st ≠ none := fun h => by rw [h]; exact fun c => by cases c
 refine ⟨at1, FP1, ⟨hh.good.below, fun b k hb => ?_, fun b k hb => ?_, fun b k hb => ?_, fun b b' k k' hb hb' hne => ?_, fun b k hb => ?_, fun b p hp => ?_, fun b β sz' enc' xs' hb => ?_, ⟨fun b k hb g base hat => ?_, fun b q hq => ?_, fun b cs hb => ?_⟩⟩, hh.defers, hh.size, fun t => loc (hs.tm t) (hh.loc t)⟩
 ·rcases hs.st b k hb with ⟨k', hk', hle⟩ | ⟨hno, hp⟩
  ·rw [(e1 b (some_ne hk')).2]
   have r := hh.good.rep b k' hk'
   cases hle with
   | lit hl hle =>
     generalize FP b = fp at r
     cases r with
     | lit hat hg hc =>
       refine .lit ((e1 b (some_ne hk')).1.trans hat) hg (fun j y hy => ?_)
       obtain ⟨x, hx⟩ := get_of_len hl hy
       obtain ⟨u, hu, hlx⟩ := hc j x hx
       exact ⟨u, hu, loc (hle j x y hx hy) hlx⟩
   | row hxs =>
     generalize FP b = fp at r
     cases r with
     | row0 hat hx => exact .row0 ((e1 b (some_ne hk')).1.trans hat) (hxs ▸ hx)
     | row F hat hg hr hc =>
       rw [hxs] at hr hc ⊢
       exact .row F ((e1 b (some_ne hk')).1.trans hat) hg hr hc
  ·rw [(e2 b hno).2]
   cases k with
   | lit => exact hp.elim
   | row sz enc xs fx =>
     cases fx with
     | true => exact hp.elim
     | false => exact .row0 (e2 b hno).1 hp
 ·rcases hs.st b k hb with ⟨k', hk', _⟩ | ⟨hno, _⟩
  ·rw [own1 b (some_ne hk')]; exact hh.good.nodup b k' hk'
  ·rw [own2 b hno]; exact List.nodup_nil
 ·rcases hs.st b k hb with ⟨k', hk', _⟩ | ⟨hno, _⟩
  ·rw [own1 b (some_ne hk')]; exact hh.good.base b k' hk'
  ·rw [own2 b hno]; exact fun g hg => by cases hg
 ·rcases hs.st b k hb with ⟨q, hq, _⟩ | ⟨hno, _⟩
  ·rcases hs.st b' k' hb' with ⟨q', hq', _⟩ | ⟨hno', _⟩
   ·rw [own1 b (some_ne hq), own1 b' (some_ne hq')]; exact hh.good.apart b b' q q' hq hq' hne
   ·rw [own2 b' hno']; exact fun g _ hg => by cases hg
  ·rw [own2 b hno]; exact fun g hg => by cases hg
 ·rcases hs.st b k hb with ⟨k', hk', _⟩ | ⟨hno, _⟩
  ·rw [own1 b (some_ne hk')]; exact hh.good.fresh b k' hk'
  ·rw [own2 b hno]; exact fun g hg => by cases hg
 ·obtain ⟨p1, p2, ph, α, enc, xs, p3, p4⟩ := hh.good.pins b p hp
  have p3 : look b s.st = _ := p3
  have hne : look b s.st ≠ none := some_ne p3
  refine ⟨(e1 b hne).1.trans p1, (e1 b hne).2.trans p2, ph, ?_⟩
  cases e : look b s1.st with
  | none => exact absurd e (hs.fxs b α p.sz enc xs p3)
  | some k =>
    rcases hs.st b k e with ⟨k', hk', hle⟩ | ⟨hno, _⟩
    ·rw [p3] at hk'
     cases hk'
     cases hle with
     | row hxs => exact ⟨α, enc, _, e, by rw [← hxs]; exact p4⟩
    ·exact absurd hno hne
 ·rcases hs.st b _ hb with ⟨k', hk', hle⟩ | ⟨_, hph⟩
  ·cases hle with
   | row hxs => exact hh.good.fxp b _ _ _ _ hk'
  ·cases hph
 ·have hat : at1 b = some (g, base) := hat
  rcases hs.st b k hb with ⟨k', hk', _⟩ | ⟨hno, _⟩
  ·exact hh.good.rt.hot b k' hk' g base ((e1 b (some_ne hk')).1.symm.trans hat)
  ·rw [(e2 b hno).1] at hat; cases hat
 ·obtain ⟨h1, h2, cs, h3⟩ := hh.good.rt.lits b q hq
  have h3 : look b s.st = _ := h3
  refine ⟨(e1 b (some_ne h3)).1.trans h1, h2, ?_⟩
  cases e : look b s1.st with
  | none => exact absurd e (hs.lfs b cs h3)
  | some k =>
    rcases hs.st b k e with ⟨k', hk', hle⟩ | ⟨hno, _⟩
    ·rw [h3] at hk'
     cases hk'
     cases hle with
     | lit _ _ => exact ⟨_, e⟩
    ·rw [h3] at hno; cases hno
 ·rcases hs.st b _ hb with ⟨k', hk', hle⟩ | ⟨_, hph⟩
  ·cases hle with
   | lit _ _ => exact hh.good.rt.lfx b _ hk'
  ·cases hph
theorem swp_swp (b c i : Nat) : swp b c (swp b c i) = i := by
 unfold swp
 by_cases h1 : i = b
 ·subst h1
  rw [Nat.beq_refl, cond_true]
  by_cases h2 : c = i
  ·subst h2; rw [Nat.beq_refl]; rfl
  ·have e : Nat.beq c i = false := by
    cases e : Nat.beq c i with
    | false => rfl
    | true => exact absurd (Nat.eq_of_beq_eq_true e) h2
   rw [e, cond_false, Nat.beq_refl, cond_true]
 ·have e1 : Nat.beq i b = false := by
   cases e : Nat.beq i b with
   | false => rfl
   | true => exact absurd (Nat.eq_of_beq_eq_true e) h1
  rw [e1, cond_false]
  by_cases h2 : i = c
  ·subst h2
   rw [Nat.beq_refl, cond_true, Nat.beq_refl, cond_true]
  ·have e2 : Nat.beq i c = false := by
    cases e : Nat.beq i c with
    | false => rfl
    | true => exact absurd (Nat.eq_of_beq_eq_true e) h2
   rw [e2, cond_false, e1, cond_false, e2, cond_false]
theorem swp_inj {b c i j : Nat} (h : swp b c i = swp b c j) : i = j := by rw [← swp_swp b c i, h, swp_swp]
theorem renL_get {f : Nat → Nat} : ∀ {l : List AV} {i : Nat}, (renL f l)[i]? = (l[i]?).map (renV f)
 | [], i => by simp [renL]
 | x :: r, 0 => by simp [renL]
 | x :: r, i + 1 => by simp [renL, renL_get (l := r)]
theorem renL_len {f : Nat → Nat} : ∀ {l : List AV}, (renL f l).length = l.length
 | [] => rfl
 | x :: r => by simp [renL, renL_len (l := r)]
theorem slot_ren {f : Nat → Nat} {t : Nat} : ∀ {tm : List (Nat × AV)}, slot t (renT f tm) = renV f (slot t tm)
 | [] => rfl
 | p :: r => by
   rw [renT, slot, slot]
   cases Nat.beq p.1 t with
   | true => rfl
   | false => exact slot_ren
theorem look_ren {b c i : Nat} : ∀ {st : List (Nat × Blk)}, look i (renSt (swp b c) st) = (look (swp b c i) st).map (renK (swp b c))
 | [] => rfl
 | p :: r => by
   rw [renSt, look, look]
   have : Nat.beq (swp b c p.1) i = Nat.beq p.1 (swp b c i) := by
    rw [Bool.eq_iff_iff, Nat.beq_eq, Nat.beq_eq]
    exact ⟨fun h => by rw [← h, swp_swp], fun h => by rw [h, swp_swp]⟩
   rw [this]
   cases Nat.beq p.1 (swp b c i) with
   | true => rfl
   | false => exact look_ren
theorem RefAt.ren {E E' : Env} {f : Nat → Nat} (hw : E'.w = E.w) (ha : ∀ b, E'.at_ (f b) = E.at_ b) {b off n len sz : Nat} {v : Value} (h : RefAt E b off n len sz v) : RefAt E' (f b) off n len sz v := by
 obtain ⟨h1, h2⟩ := h
 refine ⟨h1, ?_⟩
 rw [ha, hw]
 exact h2
theorem Loc.ren {E E' : Env} {f : Nat → Nat} (h0 : E'.w0 = E.w0) (hw : E'.w = E.w) (hst : ∀ b, E'.st (f b) = (E.st b).map (renK f)) (ha : ∀ b, E'.at_ (f b) = E.at_ b) {x : AV} {v : Value} (h : Loc E x v) : Loc E' (renV f x) v := by
 have parts : ∀ {cs : List AV} {us : Array Value}, (∀ i x, cs[i]? = some x → Loc E' (renV f x) (us.getD i Go.undef)) → ∀ i x, (renL f cs)[i]? = some x → Loc E' x (us.getD i Go.undef) := by
  intro cs us ih i x hx
  rw [renL_get, Option.map_eq_some_iff] at hx
  obtain ⟨y, hy, rfl⟩ := hx
  exact ih i y hy
 induction h with
 | any v => exact .any v
 | undef => exact .undef
 | int k n => exact .int k n
 | bo b => exact .bo b
 | str s => exact .str s
 | nil => exact .nil
 | emp A => exact .emp A
 | sl h => exact .sl (h0 ▸ h)
 | lsl h => exact .lsl (h0 ▸ h)
 | rptr h => exact .rptr (h0 ▸ h)
 | ref hb hr => rw [renV]; exact .ref ((hst _).trans (by rw [hb]; rfl)) (hr.ren hw ha)
 | refl hb hr => rw [renV]; exact .refl ((hst _).trans (by rw [hb]; rfl)) (by rw [renL_len]; exact hr.ren hw ha)
 | ptr hb hat => rw [renV]; exact .ptr ((hst _).trans (by rw [hb]; rfl)) ((ha _).trans hat)
 | eptr hb hat hi hj => rw [renV]; exact .eptr ((hst _).trans (by rw [hb]; rfl)) ((ha _).trans hat) hi hj
 | own hp hl hi hg hv => rw [renV]; exact .own (h0 ▸ hp) hl hi (h0 ▸ hg) hv
 | agg hl hd ih => rw [renV]; exact .agg (by rw [renL_len]; exact hl) (parts ih)
 | tup hl hd ih => rw [renV]; exact .tup (by rw [renL_len]; exact hl) (parts ih)
 | clo hl hd ih => rw [renV]; exact .clo (by rw [renL_len]; exact hl) (parts ih)
theorem noFx_not {b : Nat} {st : List (Nat × Blk)} {k : Blk} (h : noFx b st = true) (hk : look b st = some k) : notFx k = true := by
 unfold noFx at h
 rw [hk] at h
 cases k with
 | lit sz cs => exact h
 | row sz enc xs fx => cases fx <;> first | rfl | cases h
theorem RelS0.ren1 {s : St} {b c : Nat} (h : RelS0 w0 N s.tm s.st s.nx a w) (hc : noFx c s.st = true) (hb : noFx b s.st = true) (hlt : Nat.blt c s.nx = true) (hlt2 : Nat.blt b s.nx = true) : RelS0 w0 N (renS b c s).tm (renS b c s).st (renS b c s).nx a w := by
 obtain ⟨⟨at_, FP, hh⟩, hfr⟩ := h
 rw [Nat.blt_eq] at hlt hlt2
 let f := swp b c
 have inv : ∀ i, f (f i) = i := swp_swp b c
 let at1 : Nat → Option (Nat × Nat) := fun i => at_ (f i)
 let FP1 : Nat → List Nat := fun i => FP (f i)
 have hlk : ∀ i, look i (renSt f s.st) = (look (f i) s.st).map (renK f) := fun i => look_ren
 have loc : ∀ {x : AV} {v : Value}, Loc ⟨w0, w, at_, fun b => look b s.st⟩ x v → Loc ⟨w0, w, at1, fun b => look b (renSt f s.st)⟩ (renV f x) v := fun h =>
  Loc.ren (E := ⟨w0, w, at_, fun b => look b s.st⟩) (E' := ⟨w0, w, at1, fun b => look b (renSt f s.st)⟩) (f := f) rfl rfl (fun i => by show look (f i) _ = _; rw [hlk, inv]) (fun i => by show at_ (f (f i)) = _; rw [inv]) h
 have get : ∀ {i : Nat} {k : Blk}, look i (renSt f s.st) = some k → ∃ k0, look (f i) s.st = some k0 ∧ k = renK f k0 := fun {i k} hk => by
  rw [hlk, Option.map_eq_some_iff] at hk
  obtain ⟨k0, h1, h2⟩ := hk
  exact ⟨k0, h1, h2.symm⟩
 have fixed0 : ∀ i k, look i s.st = some k → notFx k = false → f i = i := fun i k hi hk => by
  have h1 : i ≠ b := fun e => by
   subst e
   rw [noFx_not hb hi] at hk
   cases hk
  have h2 : i ≠ c := fun e => by
   subst e
   rw [noFx_not hc hi] at hk
   cases hk
  have e1 : Nat.beq i b = false := by
   cases e : Nat.beq i b with
   | false => rfl
   | true => exact absurd (Nat.eq_of_beq_eq_true e) h1
  have e2 : Nat.beq i c = false := by
   cases e : Nat.beq i c with
   | false => rfl
   | true => exact absurd (Nat.eq_of_beq_eq_true e) h2
  show swp b c i = i
  rw [swp, e1, cond_false, e2, cond_false]
 have fixed : ∀ i (α : Type) (sz : Nat) (enc : α → Nat → AV) (xs : Unit → List α), look i s.st = some (.row sz enc xs true) → f i = i := fun i α sz enc xs hi => fixed0 i _ hi rfl
 refine ⟨⟨at1, FP1, ⟨hh.good.below, fun i k hi => ?_, fun i k hi => ?_, fun i k hi => ?_, fun i j k k' hi hj hne => ?_, fun i k hi => ?_, fun i p hp => ?_, fun i β sz' enc' xs' hi => ?_, ⟨fun i k hi g base hat => ?_, fun i q hq => ?_, fun i cs hi => ?_⟩⟩, hh.defers, hh.size, fun t => ?_⟩, fun i k hi => ?_⟩
 ·obtain ⟨k0, h1, rfl⟩ := get hi
  have r := hh.good.rep (f i) k0 h1
  show BlkRep _ i (renK f k0) (FP (f i))
  generalize FP (f i) = fp at r
  cases r with
  | lit hat hg hcl =>
    refine .lit hat hg (fun j x hx => ?_)
    rw [renL_get, Option.map_eq_some_iff] at hx
    obtain ⟨y, hy, rfl⟩ := hx
    obtain ⟨u, hu, hl⟩ := hcl j y hy
    exact ⟨u, hu, loc hl⟩
  | row0 hat hx => exact .row0 hat hx
  | row F hat hg hr hcl => exact .row F hat hg hr hcl
 ·obtain ⟨k0, h1, rfl⟩ := get hi
  exact hh.good.nodup (f i) k0 h1
 ·obtain ⟨k0, h1, rfl⟩ := get hi
  exact hh.good.base (f i) k0 h1
 ·obtain ⟨k0, h1, rfl⟩ := get hi
  obtain ⟨k1, h2, rfl⟩ := get hj
  exact hh.good.apart (f i) (f j) k0 k1 h1 h2 (fun e => hne (swp_inj e))
 ·obtain ⟨k0, h1, rfl⟩ := get hi
  exact hh.good.fresh (f i) k0 h1
 ·obtain ⟨p1, p2, ph, α, enc, xs, p3, p4⟩ := hh.good.pins i p hp
  have e := fixed i α p.sz enc xs p3
  refine ⟨?_, ?_, ph, α, enc, xs, ?_, p4⟩
  ·show at_ (f i) = _; rw [e]; exact p1
  ·show FP (f i) = _; rw [e]; exact p2
  ·show look i (renSt f s.st) = _
   have p3 : look i s.st = _ := p3
   rw [hlk, e, p3]
   rfl
 ·obtain ⟨k0, h1, h2⟩ := get hi
  cases k0 with
  | lit => cases h2
  | row s1 e1 x1 f1 =>
    cases h2
    have e := fixed _ _ _ _ _ h1
    rw [inv] at e
    rw [← e] at h1
    exact hh.good.fxp i _ _ _ _ h1
 ·obtain ⟨k0, h1, rfl⟩ := get hi
  exact hh.good.rt.hot (f i) k0 h1 g base hat
 ·obtain ⟨h1, h2, cs, h3⟩ := hh.good.rt.lits i q hq
  have h3 : look i s.st = _ := h3
  have e := fixed0 i _ h3 rfl
  refine ⟨?_, h2, renL f cs, ?_⟩
  ·show at_ (f i) = _; rw [e]; exact h1
  ·show look i (renSt f s.st) = _
   rw [hlk, e, h3]
   rfl
 ·obtain ⟨k0, h1, h2⟩ := get hi
  cases k0 with
  | row => cases h2
  | lit s1 c1 =>
    cases h2
    have e := fixed0 _ _ h1 rfl
    rw [inv] at e
    rw [← e] at h1
    exact hh.good.rt.lfx i _ h1
 ·show Loc _ (slot t (renT f s.tm)) _
  rw [slot_ren]
  exact loc (hh.loc t)
 ·obtain ⟨k0, h1, rfl⟩ := get hi
  have h2 := hfr _ _ h1
  show i < s.nx
  by_cases e1 : i = c
  ·omega
  ·by_cases e2 : i = b
   ·omega
   ·have e3 : f i = i := by
     have n1 : Nat.beq i b = false := by
      cases e : Nat.beq i b with
      | false => rfl
      | true => exact absurd (Nat.eq_of_beq_eq_true e) e2
     have n2 : Nat.beq i c = false := by
      cases e : Nat.beq i c with
      | false => rfl
      | true => exact absurd (Nat.eq_of_beq_eq_true e) e1
     show swp b c i = i
     rw [swp, n1, cond_false, n2, cond_false]
    rw [e3] at h2
    exact h2
theorem RelS0.ren {s s' : St} (hr : Ren s s') : RelS0 w0 N s.tm s.st s.nx a w → RelS0 w0 N s'.tm s'.st s'.nx a w := by
 induction hr with
 | refl s => exact fun h => h
 | step b c hc hb hlt hlt2 _ ih => exact fun h => ih (h.ren1 hc hb hlt hlt2)
theorem slot_keep {tm : List (Nat × AV)} {t : Nat} : ∀ {l : List Nat}, slot t (keepT tm l) = slot t tm ∨ slot t (keepT tm l) = .any
 | [] => .inr rfl
 | x :: r => by
   rw [keepT, slot]
   cases e : Nat.beq x t with
   | true => rw [Nat.eq_of_beq_eq_true e]; exact .inl rfl
   | false => exact slot_keep
theorem RelS0.keep {tm : List (Nat × AV)} {st : List (Nat × Blk)} {n : Nat} (h : RelS0 w0 N tm st n a w) (l : List Nat) : RelS0 w0 N (keepT tm l) st n a w := by
 obtain ⟨⟨at_, FP, hh⟩, hfr⟩ := h
 refine ⟨⟨at_, FP, hh.good, hh.defers, hh.size, fun t => ?_⟩, hfr⟩
 rcases slot_keep (tm := tm) (t := t) (l := l) with e | e
 ·rw [e]; exact hh.loc t
 ·rw [e]; exact .any _
theorem RelS0.drawn {tm : List (Nat × AV)} {st : List (Nat × Blk)} {n : Nat} (h : RelS0 w0 N tm st n a w) : RelS0 w0 N tm st n a { w with drawn := w.drawn + 1 } := by
 obtain ⟨⟨at_, FP, hh⟩, hfr⟩ := h
 exact ⟨⟨at_, FP, hh.world ⟨rfl, rfl, rfl, Nat.le_refl _, fun _ _ => rfl⟩⟩, hfr⟩
theorem RelS.weak {mu : Nat → Bool} {s s1 : St} (h : RelS mu w0 N s.tm s.st s.nx a w) (hs : LeS s s1) : RelS mu w0 N s1.tm s1.st s1.nx a w := by
 obtain ⟨B, hX, h⟩ := h
 exact ⟨B, hX, h.weak hs⟩
theorem RelS.ren {mu : Nat → Bool} {s s' : St} (hr : Ren s s') (h : RelS mu w0 N s.tm s.st s.nx a w) : RelS mu w0 N s'.tm s'.st s'.nx a w := by
 obtain ⟨B, hX, h⟩ := h
 exact ⟨B, hX, RelS0.ren hr h⟩
theorem RelS.keep {mu : Nat → Bool} {tm : List (Nat × AV)} {st : List (Nat × Blk)} {n : Nat} (h : RelS mu w0 N tm st n a w) (l : List Nat) : RelS mu w0 N (keepT tm l) st n a w := by
 obtain ⟨B, hX, h⟩ := h
 exact ⟨B, hX, h.keep l⟩
theorem okV_lev {st st' : List (Nat × Blk)} (hs : ∀ b, look b st' ≠ none → look b st ≠ none) : (∀ x : AV, okV st' x = true → LeV st st' x x) ∧ ∀ l : List AV, okL st' l = true → ∀ (i : Nat) (x y : AV), l[i]? = some x → l[i]? = some y → LeV st st' x y := by
 have key : ∀ n : Nat, (∀ x : AV, SizeOf.sizeOf x < n → okV st' x = true → LeV st st' x x) ∧ ∀ l : List AV, SizeOf.sizeOf l < n → okL st' l = true → ∀ (i : Nat) (x y : AV), l[i]? = some x → l[i]? = some y → LeV st st' x y := by
  intro n
  induction n with
  | zero => exact ⟨fun x h => absurd h (Nat.not_lt_zero _), fun l h => absurd h (Nat.not_lt_zero _)⟩
  | succ n ih =>
    refine ⟨fun x hn h => ?_, fun l hn h i x y hx hy => ?_⟩
    ·cases x with
     | ref b o m =>
       have hb : look b st' ≠ none := by
        intro e
        simp only [okV, e] at h
        cases h
       exact .ref hb (hs b hb) rfl rfl
     | ptr b j =>
       have hb : look b st' ≠ none := by
        intro e
        simp only [okV, e] at h
        cases h
       exact .ptr hb
     | agg cs => exact .agg rfl (ih.2 cs (by simp at hn; omega) (by simpa only [okV] using h))
     | clo f cs => exact .clo rfl (ih.2 cs (by simp at hn; omega) (by simpa only [okV] using h))
     | any => exact .any _
     | undef => exact .undef
     | int q m => exact .int rfl
     | bo b => exact .bo b
     | str s => exact .str rfl
     | nil => exact .nil
     | emp => exact .emp
     | sl sz enc xs => exact .sl rfl
     | rptr cs => exact .rptr cs
     | lsl cs => exact .lsl cs
     | _ => simp only [okV] at h; cases h
    ·cases l with
     | nil => simp at hx
     | cons z r =>
       rw [okL] at h
       cases e : okV st' z with
       | false => rw [e, cond_false] at h; cases h
       | true =>
         rw [e, cond_true] at h
         cases i with
         | zero =>
           simp at hx hy
           subst hx hy
           exact ih.1 z (by simp at hn; omega) e
         | succ i => exact ih.2 r (by simp at hn; omega) h i x y (by simpa only [List.getElem?_cons_succ] using hx) (by simpa only [List.getElem?_cons_succ] using hy)
 exact ⟨fun x h => (key (SizeOf.sizeOf x + 1)).1 x (Nat.lt_succ_self _) h, fun l h => (key (SizeOf.sizeOf l + 1)).2 l (Nat.lt_succ_self _) h⟩
theorem okT_slot {st' : List (Nat × Blk)} {t : Nat} : ∀ {tm : List (Nat × AV)}, okT st' tm = true → okV st' (slot t tm) = true
 | [], _ => rfl
 | p :: r, h => by
   rw [okT] at h
   cases e : okV st' p.2 with
   | false => rw [e, cond_false] at h; cases h
   | true =>
     rw [e, cond_true] at h
     rw [slot]
     cases Nat.beq p.1 t with
     | true => exact e
     | false => exact okT_slot h
theorem okS_look {st' : List (Nat × Blk)} {b sz : Nat} {cs : List AV} : ∀ {l : List (Nat × Blk)}, okS st' l = true → look b l = some (.lit sz cs) → okL st' cs = true
 | [], _, h => by cases h
 | (c, .lit sz' ds) :: r, h, hl => by
   rw [okS] at h
   cases e : okL st' ds with
   | false => rw [e, cond_false] at h; cases h
   | true =>
     rw [e, cond_true] at h
     rw [look] at hl
     cases e2 : Nat.beq c b with
     | true =>
       simp only [e2, cond_true, Option.some.injEq, Blk.lit.injEq] at hl
       rw [← hl.2]
       exact e
     | false => simp only [e2, cond_false] at hl; exact okS_look h hl
 | (c, .row sz' enc xs fx) :: r, h, hl => by
   simp only [okS] at h
   rw [look] at hl
   cases e2 : Nat.beq c b with
   | true => simp only [e2, cond_true, Option.some.injEq] at hl; cases hl
   | false => simp only [e2, cond_false] at hl; exact okS_look h hl
theorem gcF_look {k : List Nat} {b : Nat} : ∀ {st : List (Nat × Blk)}, look b (gcF k st) = bif memN b k then look b st else none
 | [] => by cases memN b k <;> rfl
 | p :: r => by
   have ih := gcF_look (k := k) (b := b) (st := r)
   rw [gcF, look]
   cases e2 : Nat.beq p.1 b with
   | true =>
     have := Nat.eq_of_beq_eq_true e2
     rw [this]
     cases e : memN b k with
     | true => rw [cond_true, cond_true, look, e2, cond_true, cond_true]
     | false => rw [cond_false, cond_false, ih, e, cond_false]
   | false =>
     rw [cond_false]
     cases e : memN p.1 k with
     | true => rw [cond_true, look, e2, cond_false, ih]
     | false => rw [cond_false, ih]
theorem stayK_mem {b : Nat} {x : Blk} (hx : stayB x = true) : ∀ {st : List (Nat × Blk)}, look b st = some x → b ∈ stayK st
 | [], h => by cases h
 | p :: r, h => by
   rw [look] at h
   rw [stayK]
   cases e2 : Nat.beq p.1 b with
   | true =>
     simp only [e2, cond_true, Option.some.injEq] at h
     rw [h, hx, cond_true]
     have := Nat.eq_of_beq_eq_true e2
     rw [this]
     exact List.mem_cons_self ..
   | false =>
     simp only [e2, cond_false] at h
     have := stayK_mem hx h
     cases stayB p.2 with
     | true => exact List.mem_cons_of_mem _ this
     | false => exact this
theorem RelS.gc {mu : Nat → Bool} {tm : List (Nat × AV)} {st : List (Nat × Blk)} {n : Nat} (h : RelS mu w0 N tm st n a w) : RelS mu w0 N tm (gcB tm st) n a w := by
 unfold gcB
 dsimp only
 generalize hk : nmS (nmT tm) st ++ (nmT tm ++ stayK st) = k
 cases h1 : okT (gcF k st) tm with
 | false => exact h
 | true =>
   rw [cond_true]
   cases h2 : okS (gcF k st) (gcF k st) with
   | false => exact h
   | true =>
     rw [cond_true]
     have hlk : ∀ b, look b (gcF k st) = bif memN b k then look b st else none := fun b => gcF_look
     have hsub : ∀ b x, look b (gcF k st) = some x → look b st = some x := fun b x h => by
      rw [hlk] at h
      cases e : memN b k with
      | true => rw [e, cond_true] at h; exact h
      | false => rw [e, cond_false] at h; cases h
     have hne : ∀ b, look b (gcF k st) ≠ none → look b st ≠ none := fun b h e => by
      cases e2 : look b (gcF k st) with
      | none => exact h e2
      | some x => rw [hsub b x e2] at e; cases e
     have hst : ∀ b x, look b st = some x → stayB x = true → look b (gcF k st) ≠ none := fun b x h hx => by
      have hm : memN b k = true := memN_spec.2 (by rw [← hk]; exact List.mem_append_right _ (List.mem_append_right _ (stayK_mem hx h)))
      rw [hlk, hm, cond_true, h]
      exact fun e => by cases e
     obtain ⟨v1, v2⟩ := okV_lev hne
     have hfr := h
     obtain ⟨B, hX, hrel, hfr⟩ := hfr
     refine RelS.weak (s := ⟨tm, st, n⟩) (s1 := ⟨tm, gcF k st, n⟩) h ⟨fun t => v1 _ (okT_slot h1), fun b x hb => ?_, fun b x hb => hfr b x (hsub b x hb), fun b α sz enc xs hb => hst b _ hb rfl, fun b cs hb => hst b _ hb rfl⟩
     refine .inl ⟨x, hsub b x hb, ?_⟩
     cases x with
     | lit sz cs => exact .lit rfl (v2 cs (okS_look h2 hb))
     | row sz enc xs fx => exact .row rfl
theorem RelS.gcM {mu : Nat → Bool} {tm : List (Nat × AV)} {st : List (Nat × Blk)} {n : Nat} (h : RelS mu w0 N tm st n a w) (live : List Nat) : RelS mu w0 N tm (gcM live tm st) n a w := by
 unfold V.gcM
 cases memN 9998 live with
 | true => exact h.gc
 | false => exact h
theorem RelS.drawn {mu : Nat → Bool} {tm : List (Nat × AV)} {st : List (Nat × Blk)} {n : Nat} (h : RelS mu w0 N tm st n a w) : RelS mu w0 N tm st n a { w with drawn := w.drawn + 1 } := by
 obtain ⟨B, hX, h⟩ := h
 exact ⟨B, hX, h.drawn⟩
end
abbrev Hints := List (Nat × List Nat × List (List Nat) × List Nat × List Nat)
def hintOf (id : Nat) : Hints → List Nat × List (List Nat) × List Nat × List Nat
 | [] => ([], [], [], [])
 | p :: r => bif Nat.beq p.1 id then p.2 else hintOf id r
def compC (P : Program) (mu : Nat → Bool) (N : Nat) (H : Hints) : Code → Option MCode
 | .skip => some .skip
 | .region id ops draw => bif draw then (bif memN 9999 (hintOf id H).2.2.1 then (compOps2 P mu ops N [] (hintOf id H).2.2.2 0 ops.toList (hintOf id H).2.1).bind fun l => if drawOk3 ops (hintOf id H).2.2.2 = true then some (.regionA l.length (fun _ => mkOrd (depsOf ops) (hintOf id H).2.2.2 l l.length []) (hintOf id H).1) else none else (compPre P ops N (hintOf id H).2.2.1).bind fun pl => (compOps2 P mu ops N (hintOf id H).2.2.1 (hintOf id H).2.2.2 0 ops.toList (hintOf id H).2.1).bind fun l => if drawOk2 ops (hintOf id H).2.2.1 (hintOf id H).2.2.2 l = true then some (.region pl l (hintOf id H).1) else none)
   else (compOps P mu ops N ops.toList (hintOf id H).2.1).bind fun l => some (.region [] l (hintOf id H).1)
 | .seq a b => (compC P mu N H a).bind fun x => (compC P mu N H b).map fun y => .seq (fun _ => x) (fun _ => y)
 | .cond c t e => (compC P mu N H t).bind fun x => (compC P mu N H e).map fun y => .cond c (fun _ => x) (fun _ => y)
 | .block id c => (compC P mu N H c).map fun x => .block id (fun _ => x)
 | .loop c => (compC P mu N H c).map fun x => .loop (fun _ => x)
 | .exit id => some (.exit id)
 | .ret => some .ret
 | _ => none
def exOf : Ex → Exit
 | .normal => .normal
 | .exit i => .exit i
 | .ret => .ret
theorem compOps_length {P : Program} {mu : Nat → Bool} {N : Nat} {ops : Array Oper} : ∀ {l : List Oper} {hs : List (List Nat)} {ml : List MOper}, compOps P mu ops N l hs = some ml → ml.length = l.length
 | [], hs, ml, h => by
   simp only [compOps, Option.some.injEq] at h
   subst h
   rfl
 | o :: l, hs, ml, h => by
   simp only [compOps, Option.bind_eq_some_iff, Option.map_eq_some_iff] at h
   obtain ⟨m, _, ml', hml, rfl⟩ := h
   simp [compOps_length hml]
theorem code_ok {P : Program} {Q : AV → Prop} {mu : Nat → Bool} {N : Nat} {H : Hints} {w0 : Base} [TbOk P w0] (hm : P.follows .mixedOrders = true) : ∀ (c : Code) (m : MCode), compC P mu N H c = some m →
 ∀ (As : List (St → Prop)) (K : Ex → St → Tree) (R : Exit → Act → World → Prop) (s : St) (a : Act) (w : World), Sat P Q As (exec m K s) → RelS mu w0 N s.tm s.st s.nx a w →
   (∀ e s' a' w', Sat P Q As (K e s') → RelS mu w0 N s'.tm s'.st s'.nx a' w' → R (exOf e) a' w') → c.wp P R a w := by
 intro c
 induction c with
 | skip =>
   intro m hc As K R s a w h hr hK
   cases hc
   exact wp_skip (hK .normal s a w h hr)
 | region id ops draw =>
   intro m hc As K R s a w h hr hK
   cases draw with
   | false =>
     simp only [compC, cond_false, Option.bind_eq_some_iff] at hc
     obtain ⟨l, hl, hc⟩ := hc
     cases hc
     have hlen := compOps_length hl
     have hlen' : l.length = ops.size := by simpa using hlen
     rw [exec_region] at h
     have hK' : ∀ s' a' w', Sat P Q As ((fun s' : St => K .normal { tm := keepT s'.tm (hintOf id H).1, st := gcM (hintOf id H).1 (keepT s'.tm (hintOf id H).1) s'.st, nx := s.nx + 16 * l.length }) s') → s'.nx = s.nx → RelS mu w0 N s'.tm s'.st (s.nx + 16 * ops.size) a' w' → R .normal a' w' := fun s' a' w' hs _ hr' => by
      refine hK .normal _ a' w' hs ?_
      rw [hlen']
      exact (hr'.keep _).gcM _
     refine wp_region ?_
     rw [List.range_eq_range']
     exact seq_ops (nx := s.nx) s.nx hK' ops.toList l _ 0 (fun j => by simp) (by simp) hl s a w rfl h hr
   | true =>
     cases hA : memN 9999 (hintOf id H).2.2.1 with
     | true =>
       simp only [compC, cond_true, hA, Option.bind_eq_some_iff] at hc
       obtain ⟨l, hl, hc⟩ := hc
       split at hc
       ·rename_i hd
        cases hc
        have hlen' : l.length = ops.size := by
         have := (compOps2_pos (vd := []) (fl := (hintOf id H).2.2.2) (fun i o hi ho => by cases hi) (l := ops.toList) (i := 0) (fun j => by simp) hl).1
         simpa using this
        rw [exec, ordT_eq] at h
        let R0 : Exit → Act → World → Prop := fun e a w => match e with
         | .normal => R .normal a w
         | _ => False
        have hK' : ∀ s' a' w', Sat P Q As ((fun s' : St => K .normal { tm := keepT s'.tm (hintOf id H).1, st := gcM (hintOf id H).1 (keepT s'.tm (hintOf id H).1) s'.st, nx := s.nx + 16 * l.length }) s') → s'.nx = s.nx → RelS mu w0 N s'.tm s'.st (s.nx + 16 * ops.size) a' w' → R0 .normal a' w' := fun s' a' w' hs _ hr' => by
         refine hK .normal _ a' w' hs ?_
         rw [hlen']
         exact (hr'.keep _).gcM _
        refine Code.wp_mono (Q := R0) (fun e a w he => ?_) (wp_region_any hm (any3 (nx := s.nx) (fun c a a' w h => h) hl hd hK' h a _ hr.drawn))
        cases e <;> first | exact he | exact he.elim
       ·cases hc
     | false =>
     simp only [compC, cond_true, cond_false, hA, Option.bind_eq_some_iff] at hc
     obtain ⟨pl, hpl, l, hl, hc⟩ := hc
     split at hc
     ·rename_i hd
      cases hc
      have hlen' : l.length = ops.size := by
       have := (compOps2_pos (vd := (hintOf id H).2.2.1) (fl := (hintOf id H).2.2.2) (fun i o hi ho => (compPre_nosel hpl i (memN_spec.1 hi) o ho).2) (l := ops.toList) (i := 0) (fun j => by simp) hl).1
       simpa using this
      rw [exec_region] at h
      let R0 : Exit → Act → World → Prop := fun e a w => match e with
       | .normal => R .normal a w
       | _ => False
      have hK' : ∀ s' a' w', Sat P Q As ((fun s' : St => K .normal { tm := keepT s'.tm (hintOf id H).1, st := gcM (hintOf id H).1 (keepT s'.tm (hintOf id H).1) s'.st, nx := s.nx + 16 * l.length }) s') → s'.nx = s.nx → RelS mu w0 N s'.tm s'.st (s.nx + 16 * ops.size) a' w' → R0 .normal a' w' := fun s' a' w' hs _ hr' => by
       refine hK .normal _ a' w' hs ?_
       rw [hlen']
       exact (hr'.keep _).gcM _
      refine Code.wp_mono (Q := R0) (fun e a w he => ?_) (wp_region_any hm (any2 (nx := s.nx) (fun c a a' w h => h) hpl hl hd hK' h a _ hr.drawn))
      cases e <;> first | exact he | exact he.elim
     ·cases hc
 | seq x y ihx ihy =>
   intro m hc As K R s a w h hr hK
   simp only [compC, Option.bind_eq_some_iff, Option.map_eq_some_iff] at hc
   obtain ⟨mx, hx, my, hy, rfl⟩ := hc
   rw [exec] at h
   refine wp_seq (ihx mx hx As _ _ s a w h hr (fun e s' a' w' hs hr' => ?_))
   cases e with
   | normal => exact ihy my hy As K R s' a' w' hs hr' hK
   | exit i => exact hK (.exit i) s' a' w' hs hr'
   | ret => exact hK .ret s' a' w' hs hr'
 | cond c t e iht ihe =>
   intro m hc As K R s a w h hr hK
   simp only [compC, Option.bind_eq_some_iff, Option.map_eq_some_iff] at hc
   obtain ⟨mt, ht, me, he, rfl⟩ := hc
   rw [exec] at h
   split at h
   ·rename_i b hb
    obtain ⟨B, _, ⟨at_, FP, hh⟩, _⟩ := id hr
    have hl := hh.ev c
    rw [hb] at hl
    refine wp_cond hl.bo_inv ?_
    cases b with
    | true => exact iht mt ht As K R s a w h hr hK
    | false => exact ihe me he As K R s a w h hr hK
   ·exact (no_bad h).elim
 | block id c ih =>
   intro m hc As K R s a w h hr hK
   simp only [compC, Option.map_eq_some_iff] at hc
   obtain ⟨x, hx, rfl⟩ := hc
   rw [exec] at h
   refine wp_block (ih x hx As _ _ s a w h hr (fun e s' a' w' hs hr' => ?_))
   cases e with
   | normal => exact hK .normal s' a' w' hs hr'
   | ret => exact hK .ret s' a' w' hs hr'
   | exit i =>
     show (if i = id then R .normal a' w' else R (.exit i) a' w')
     cases e : Nat.beq i id with
     | true =>
       have := Nat.eq_of_beq_eq_true e
       subst this
       rw [if_pos rfl]
       simp only [e, cond_true] at hs
       exact hK .normal s' a' w' hs hr'
     | false =>
       rw [if_neg (fun h => by subst h; rw [Nat.beq_refl] at e; cases e)]
       simp only [e, cond_false] at hs
       exact hK (.exit i) s' a' w' hs hr'
 | loop c ih =>
   intro m hc As K R s a w h hr hK
   simp only [compC, Option.map_eq_some_iff] at hc
   obtain ⟨x, hx, rfl⟩ := hc
   rw [exec] at h
   cases h with
   | @loop _ _ _ ι S G μ x0 hs hg hb =>
     have rounds : ∀ (n : Nat) (y : ι) (a : Act) (w : World), μ y < n → G y → RelS mu w0 N (S y).tm (S y).st (S y).nx a w → Code.rounds P c R n a w := by
      intro n
      induction n with
      | zero => intro y a w h; exact absurd h (Nat.not_lt_zero _)
      | succ n ihn =>
        intro y a w hn hG hr'
        rw [rounds_succ]
        refine ih x hx _ _ _ (S y) a w (hb y hG) hr' (fun e s' a' w' hs' hr2 => ?_)
        cases e with
        | normal =>
          cases hs' with
          | again hren hA =>
            obtain ⟨z, hle, hGz, hμ⟩ := hA
            exact ihn z a' w' (by omega) hGz ((RelS.ren hren hr2).weak hle)
        | exit i =>
          cases hs' with
          | pop hs' => exact hK (.exit i) s' a' w' hs' hr2
        | ret =>
          cases hs' with
          | pop hs' => exact hK .ret s' a' w' hs' hr2
     exact wp_loop_rounds (μ x0 + 1) (rounds _ x0 a w (Nat.lt_succ_self _) hg (hr.weak hs))
 | exit id =>
   intro m hc As K R s a w h hr hK
   cases hc
   exact wp_exit (hK (.exit id) s a w h hr)
 | ret =>
   intro m hc As K R s a w h hr hK
   cases hc
   exact wp_ret (hK .ret s a w h hr)
 | _ => intro m hc; cases hc
end Go.V
namespace Go.V
open Go Go.RowKit
theorem TbOk.wider {P : Program} {w : World} {m m' : Nat → Prop} {p p' : Nat → Option Pin} {r r' : Nat → Prop} {l l' : Nat → Option (Nat × Nat)} {b b' : Nat → Prop} (h : TbOk P ⟨w, m', p', r', l', b'⟩) (hm : ∀ g, m g → m' g) (hc : ∀ g, m' g → ∃ cs t, w.heap[g]? = some (.cells cs t (0, 0))) : TbOk P ⟨w, m, p, r, l, b⟩ :=
 ⟨fun w' hk => h.ok w' ⟨hk.os, hk.tape, hk.output, hk.size, fun k h1 h2 => hk.block k h1 (fun h => h2 (hm k h)), fun g hg => by
  by_cases hmg : m g
  ·exact hk.shape g hmg
  ·obtain ⟨cs, t, e⟩ := hc g hg
   have e' : w.heap[g]? = some (.cells cs t (0, 0)) := e
   exact ⟨cs, t, cs, e', (hk.block g (Array.getElem?_eq_some_iff.1 e').1 hmg).trans e', rfl⟩⟩⟩
theorem slot_number {t : Nat} : ∀ {l : List AV} {i : Nat}, slot t (number i l) = if i ≤ t ∧ t < i + l.length then l.getD (t - i) .any else .any
 | [], i => by
   rw [number, slot, if_neg (by simp only [List.length_nil]; omega)]
 | x :: r, i => by
   rw [number, slot]
   cases e : Nat.beq i t with
   | true =>
     have := Nat.eq_of_beq_eq_true e
     subst this
     rw [if_pos (by simp)]
     simp
   | false =>
     rw [cond_false, slot_number (l := r) (i := i + 1)]
     have hne : i ≠ t := fun h => by subst h; rw [Nat.beq_refl] at e; cases e
     by_cases h : i ≤ t ∧ t < i + (x :: r).length
     ·rw [if_pos h, if_pos (by simp at h ⊢; omega)]
      rw [show t - i = (t - (i + 1)) + 1 by omega]
      simp
     ·rw [if_neg h, if_neg (by simp at h ⊢; omega)]
def compR (P : Program) : ResultVar → Option RV
 | .tmp t => some (.t t)
 | .cell a t => (sizeOf? P t).bind fun n => (agg? P t).bind fun g => if g = false ∧ n ≠ 1 then none else some (.c a n g)
def resS (tmps : Array Value) : ResultVar → Sem Value
 | .tmp t => pure (tmps.getD t undef)
 | .cell a t => do loadVar t (← asAddr (tmps.getD a undef))
theorem results_eq (fn : Func) (tmps : Array Value) : results fn tmps = (do let vs ← fn.results.mapM (resS tmps); pure (if h : vs.size = 1 then vs[0] else .tuple vs)) := by
 unfold results
 congr 1
theorem res_run {P : Program} {w0 : Base} {w : World} {N : Nat} {s : St} {a : Act} {at_ : Nat → Option (Nat × Nat)} {FP : Nat → List Nat} (hh : Here w0 N s.tm (fun b => look b s.st) a w at_ FP) {r : ResultVar} {q : RV} {v : AV} (hc : compR P r = some q) (hv : resA s q = some v) :
 ∃ u, Loc ⟨w0, w, at_, fun b => look b s.st⟩ v u ∧ (resS a.tmps r).run P w = .ok u w := by
 cases r with
 | tmp t =>
   simp only [compR, Option.some.injEq] at hc
   subst hc
   simp only [resA, Option.some.injEq] at hv
   subst hv
   exact ⟨_, hh.loc t, by simp [resS]⟩
 | cell x t =>
   simp only [compR, Option.bind_eq_some_iff] at hc
   obtain ⟨n, hn, g, hg, hc⟩ := hc
   split at hc
   ·cases hc
   ·rename_i h1
    cases hc
    simp only [resA] at hv
    split at hv
    ·rename_i b j hx
     split at hv
     ·rename_i sz cs hb
      cases e : Nat.beq ((cs.drop j).take n).length n with
      | false => rw [e] at hv; cases hv
      | true =>
        rw [e, cond_true] at hv
        have hll := Nat.eq_of_beq_eq_true e
        have hr : resAV g ((cs.drop j).take n) = some v := by
         cases g with
         | true => exact hv
         | false => rw [cond_false] at hv; exact hv
        have hl := hh.loc x
        rw [hx] at hl
        obtain ⟨B, off, f, he, hcell, hloc⟩ := ld_ptr hh.good hb hll hl
        refine ⟨_, res_loc hr hloc, ?_⟩
        have h2 : g = false → n = 1 := fun e => by
         by_cases hh : n = 1
         ·exact hh
         ·exact absurd ⟨e, hh⟩ h1
        have := load_run (P := P) hn hg h2 f hcell
        rw [hll]
        simp only [resS, he, asAddr, Sem.run_bind, Sem.run_pure, Result.andThen_ok]
        exact this
     ·cases hv
    ·cases hv
theorem resL_run {P : Program} {w0 : Base} {w : World} {N : Nat} {s : St} {a : Act} {at_ : Nat → Option (Nat × Nat)} {FP : Nat → List Nat} (hh : Here w0 N s.tm (fun b => look b s.st) a w at_ FP) : ∀ {l : List ResultVar} {rs : List RV} {vs : List AV}, l.mapM (compR P) = some rs → resL s rs = some vs →
 ∃ us : List Value, us.length = vs.length ∧ (∀ i x, vs[i]? = some x → Loc ⟨w0, w, at_, fun b => look b s.st⟩ x (us.getD i undef)) ∧ (l.mapM (resS a.tmps)).run P w = .ok us w
 | [], rs, vs, hc, hv => by
   simp only [List.mapM_nil, Option.pure_def, Option.some.injEq] at hc
   subst hc
   simp only [resL, Option.some.injEq] at hv
   subst hv
   exact ⟨[], rfl, fun i x hx => by simp at hx, by simp⟩
 | r :: l, rs, vs, hc, hv => by
   rw [List.mapM_cons, Option.bind_eq_bind, Option.bind_eq_some_iff] at hc
   obtain ⟨q, hq, hc⟩ := hc
   rw [Option.bind_eq_bind, Option.bind_eq_some_iff] at hc
   obtain ⟨qs, hqs, hc⟩ := hc
   simp only [Option.pure_def, Option.some.injEq] at hc
   subst hc
   rw [resL] at hv
   split at hv
   ·rename_i v hv1
    split at hv
    ·rename_i vs' hv2
     cases hv
     obtain ⟨u, hl, hr⟩ := res_run hh hq hv1
     obtain ⟨us, e1, e2, e3⟩ := resL_run hh hqs hv2
     refine ⟨u :: us, by simp [e1], fun i x hx => ?_, ?_⟩
     ·cases i with
      | zero => simp at hx; subst hx; exact hl
      | succ i => exact e2 i x (by simpa using hx)
     ·rw [List.mapM_cons, Sem.run_bind, hr]
      simp only [Result.andThen_ok, Sem.run_bind, e3, Sem.run_pure]
    ·cases hv
   ·cases hv
theorem results_run {P : Program} {fn : Func} {w0 : Base} {w : World} {N : Nat} {s : St} {a : Act} {at_ : Nat → Option (Nat × Nat)} {FP : Nat → List Nat} (hh : Here w0 N s.tm (fun b => look b s.st) a w at_ FP) {rs : List RV} {vs : List AV} (hc : fn.results.toList.mapM (compR P) = some rs) (hv : resL s rs = some vs) :
 ∃ v, (results fn a.tmps).run P w = .ok v w ∧ Loc ⟨w0, w, at_, fun b => look b s.st⟩ (one vs) v := by
 obtain ⟨us, e1, e2, e3⟩ := resL_run hh hc hv
 have hrun : (results fn a.tmps).run P w = .ok (if h : us.toArray.size = 1 then us.toArray[0] else .tuple us.toArray) w := by
  rw [results_eq, Sem.run_bind, Array.mapM_eq_mapM_toList]
  have : (List.toArray <$> (fn.results.toList.mapM (resS a.tmps))).run P w = .ok us.toArray w := by
   rw [map_eq_pure_bind, Sem.run_bind, e3]
   simp
  rw [this]
  simp
 refine ⟨_, hrun, ?_⟩
 match vs, us, e1, e2 with
 | [], [], _, e2 => exact .tup rfl (fun i x hx => by simp at hx)
 | [v], [u], _, e2 => exact e2 0 v rfl
 | v1 :: v2 :: vs, u1 :: u2 :: us, e1, e2 =>
   have hne : ¬ (u1 :: u2 :: us).toArray.size = 1 := by simp
   rw [dif_neg hne]
   refine .tup (by simpa using e1) (fun i x hx => ?_)
   have := e2 i x hx
   simpa [Array.getD_eq_getD_getElem?, List.getD_eq_getElem?_getD] using this
theorem fn_of {P : Program} {mu : Nat → Bool} {f : Nat} {fn : Func} {c : Code} {H : Hints} {m : MCode} {rs : List RV} {args : List AV} {r : AV} (hm : P.follows .mixedOrders = true) (hf : P.funcs[f]? = some fn) (hn : fn.name ≠ "runtime.NumGoroutine") (hb : fn.body = some c)
 (hc : compC P mu fn.ntmps H c = some m) (hrs : fn.results.toList.mapM (compR P) = some rs) (hl : args.length ≤ fn.ntmps) (h : Sat P (fun q => LeD q r) [] (runT m rs args)) : Fn P f args r := by
 refine ⟨⟨fn, hf, hn, by rw [hb]; rfl⟩, fun w vs F htb hsz hd => ?_⟩
 refine calls_of_wp hf hb ?_
 haveI : TbOk P ⟨w, fun _ => False, fun _ => none, fun _ => False, fun _ => none, fun _ => False⟩ := TbOk.of htb
 have h0 : RelS mu ⟨w, fun _ => False, fun _ => none, fun _ => False, fun _ => none, fun _ => False⟩ fn.ntmps (start args).tm (start args).st (start args).nx { tmps := vs ++ Array.replicate (fn.ntmps - vs.size) undef, defers := [] } w := by
  refine ⟨_, .refl ⟨fun _ => ⟨fun _ => rfl, fun _ => rfl⟩, fun _ _ h => h⟩, ⟨fun _ => none, fun _ => [], ⟨Kept.refl w _ _ _ _ (fun _ h => h.elim), fun b k hb => (by cases hb), fun b k hb => (by cases hb), fun b k hb => (by cases hb), fun b b' k k' hb => (by cases hb), fun b k hb => (by cases hb), fun b p hp => (by cases hp), fun b _ _ _ _ hb => (by cases hb), ⟨fun b k hb => (by cases hb), fun b q hq => (by cases hq), fun b cs hb => (by cases hb)⟩⟩, rfl, (by simp; omega), fun t => ?_⟩, fun b k hb => (by cases hb)⟩
  show Loc _ (slot t (number 0 args)) _
  rw [slot_number]
  split
  ·rename_i ht
   have hx : args[t]? = some (args.getD t .any) := by
    have : t < args.length := by omega
    simp [List.getD, this]
   have hv : (vs ++ Array.replicate (fn.ntmps - vs.size) undef).getD t undef = vs.getD t undef := by
    rw [Array.getD_eq_getD_getElem?, Array.getElem?_append_left (by omega), ← Array.getD_eq_getD_getElem?]
   rw [hv]
   exact deep_loc (hd t _ (by rw [Nat.sub_zero]; exact hx)) (fun _ _ => ⟨fun h => h, fun h => h⟩)
  ·exact .any _
 have fin : ∀ (s' : St) (a' : Act) (w' : World), Sat P (fun q => LeD q r) [] (endT rs s') → RelS mu ⟨w, fun _ => False, fun _ => none, fun _ => False, fun _ => none, fun _ => False⟩ fn.ntmps s'.tm s'.st s'.nx a' w' →
  a'.defers = [] ∧ ∃ v, (results fn a'.tmps).run P w' = .ok v w' ∧ ∃ v_1 fp, Ending.returned v = .returned v_1 ∧ Deep w' r v_1 fp ∧ fp.Nodup ∧ (∀ g ∈ fp, w.heap.size ≤ g ∧ ∃ cs t, w'.heap[g]? = some (.cells cs t (0, 0))) ∧ Below w.heap.size w w' := by
  intro s' a' w' hs hr
  obtain ⟨B, hX, ⟨at_, FP, hh⟩, _⟩ := hr
  have key : ∀ (x y : AV) (st' : List (Nat × Blk)) (v : Value), exp 3 s'.st x = some (y, st') → LeD y r → Loc ⟨B, w', at_, fun b => look b s'.st⟩ x v →
   ∃ v_1 fp, Ending.returned v = .returned v_1 ∧ Deep w' r v_1 fp ∧ fp.Nodup ∧ (∀ g ∈ fp, w.heap.size ≤ g ∧ ∃ cs t, w'.heap[g]? = some (.cells cs t (0, 0))) ∧ Below w.heap.size w w' := by
   intro x y st' v hx hle hl
   obtain ⟨fp, hd, ho⟩ := exp_ok 3 _ FP s'.st st' x y v hh.good (fun b k hb => hb) hx hl
   refine ⟨v, fp, rfl, hle.deep hd, ho.nodup, fun g hg => ?_, (hX.kept _ hh.good.below).below⟩
   obtain ⟨b, b1, _, b3⟩ := ho.from_ g hg
   cases q : look b s'.st with
   | none => exact absurd q b1
   | some k => exact ⟨(hX.free g (hh.good.base b k q g b3)).elim id (fun h => h.elim False.elim False.elim), hh.good.fresh b k q g b3⟩
  unfold endT at hs
  split at hs
  ·rename_i vs hvs
   split at hs
   ·rename_i q hq
    cases hs with
    | done hle =>
      obtain ⟨v, hrun, hloc⟩ := results_run hh hrs hvs
      exact ⟨hh.defers, v, hrun, key _ _ _ _ hq hle hloc⟩
   ·exact (no_bad hs).elim
  ·exact (no_bad hs).elim
 refine code_ok hm c m hc [] _ _ (start args) _ w h h0 (fun e s' a' w' hs hr => ?_)
 cases e with
 | normal => exact fin s' a' w' hs hr
 | ret => exact fin s' a' w' hs hr
 | exit i => exact (no_bad hs).elim
end Go.V
namespace Go.V
open Go Go.RowKit
inductive PlaceR (w : World) {α : Type} (sz : Nat) (enc : α → Nat → AV) (xs : List α) : Value → List Nat → Option (Nat × Nat) → List Nat → Prop
 | none (A : Option Addr) (fp : List Nat) (hx : xs = []) (hd : ∀ w' : World, (∀ g ∈ fp, SameShape w w' g) → Deep w' (.sl sz enc (fun _ => [])) (.slice A 0 0) fp) : PlaceR w sz enc xs (.slice A 0 0) fp none []
 | some (g off cap : Nat) (cs : Array Value) (t : TypeId) (F : Nat → Nat → List Nat) (hc : 0 < cap) (hn : xs.length ≤ cap) (hg : w.heap[g]? = some (.cells cs t (0, 0))) (hr : off + cap * sz ≤ cs.size)
  (hd : ∀ i x, xs[i]? = some x → ∀ j, j < sz → ∃ u, cs[off + i * sz + j]? = some u ∧ Deep w (enc x j) u (F i j)) :
  PlaceR w sz enc xs (.slice (some ⟨g, off, none⟩) xs.length cap) (g :: (List.range xs.length).flatMap fun i => (List.range sz).flatMap (F i)) (some (g, off)) ((List.range xs.length).flatMap fun i => (List.range sz).flatMap (F i))
theorem PlaceR.own {w : World} {α : Type} {sz : Nat} {enc : α → Nat → AV} {xs : List α} {v : Value} {fp fi : List Nat} {p : Option (Nat × Nat)} (h : PlaceR w sz enc xs v fp p fi) : ∀ g ∈ ownOf p fi, g ∈ fp := by
 cases h with
 | none => intro g hg; cases hg
 | some => exact fun g hg => hg
theorem PlaceR.nodup {w : World} {α : Type} {sz : Nat} {enc : α → Nat → AV} {xs : List α} {v : Value} {fp fi : List Nat} {p : Option (Nat × Nat)} (h : PlaceR w sz enc xs v fp p fi) (hn : fp.Nodup) : (ownOf p fi).Nodup := by
 cases h with
 | none => exact List.nodup_nil
 | some => exact hn
theorem PlaceR.rep {E : Env} {b : Nat} {α : Type} {sz : Nat} {enc : α → Nat → AV} {xs : Unit → List α} {v : Value} {fp fi : List Nat} {p : Option (Nat × Nat)} (h : PlaceR E.w sz enc (xs ()) v fp p fi) (ha : E.at_ b = p) : BlkRep E b (.row sz enc xs true) fi := by
 cases h with
 | none A fp hx hd => exact .row0 ha hx
 | some g off cap cs t F hc hn hg hr hd => exact .row F ha hg (by have := Nat.mul_le_mul_right sz hn; omega) hd
theorem PlaceR.loc {E : Env} {b : Nat} {α : Type} {sz : Nat} {enc : α → Nat → AV} {xs : Unit → List α} {v : Value} {fp fi : List Nat} {p : Option (Nat × Nat)} (h : PlaceR E.w sz enc (xs ()) v fp p fi) (ha : E.at_ b = p) (hb : E.st b = Option.some (.row sz enc xs true)) : Loc E (.ref b (fun _ => 0) (fun _ => (xs ()).length)) v := by
 refine .ref hb ?_
 generalize hxs : xs () = l at h ⊢
 cases h with
 | none A fp hx hd =>
   rw [hx]
   exact .ofNone ha (by simp)
 | some g off cap cs t F hc hn hg hr hd => exact .ofSome ha (by simp) hn hg (.inr ⟨by simp, by simpa using hr⟩)
theorem PlaceR.back {w : World} {E : Env} {b : Nat} {α β : Type} {sz : Nat} {enc : α → Nat → AV} {enc' : β → Nat → AV} {xs : List α} {ys : Unit → List β} {v : Value} {fp fi : List Nat} {p : Option (Nat × Nat)} (h : PlaceR w sz enc xs v fp p fi)
 (hs : ∀ g ∈ fp, SameShape w E.w g) (ha : E.at_ b = p) (hr : BlkRep E b (.row sz enc' ys true) fi) (hl : (ys ()).length = xs.length) : Deep E.w (.sl sz enc' ys) v fp := by
 cases h with
 | none A fp hx hd =>
   have hy : ys () = [] := List.eq_nil_of_length_eq_zero (by rw [hl, hx]; rfl)
   have d := hd E.w hs
   generalize hv : Value.slice A 0 0 = v at d ⊢
   cases d with
   | sl0 A' _ => exact .sl0 A' hy
   | @sl _ _ _ _ g off cap cs t fr u F hn hg hr hu hd =>
     have e : ([] : List α).length = (ys ()).length := by rw [hy]; rfl
     have d2 := Deep.sl (w := E.w) (sz := sz) (enc := enc') (xs := ys) (g := g) (off := off) (cap := cap) (cs := cs) (t := t) (fr := fr) u F (by rw [hy]; exact Nat.zero_le _) hg hr (fun i x hx => by rw [hy] at hx; simp at hx) (fun i x hx => by rw [hy] at hx; simp at hx)
     rw [← e] at d2
     exact d2
 | some g off cap cs t F hc hn hg hrr hd =>
   generalize hfi : ((List.range xs.length).flatMap fun i => (List.range sz).flatMap (F i)) = fi at hr ⊢
   cases hr with
   | row0 ha' _ => rw [ha] at ha'; cases ha'
   | @row _ _ _ _ _ g' base' cells ty F' ha' hg' hr' hc' =>
     rw [ha] at ha'
     cases ha'
     obtain ⟨cs1, t1, cs2, s1, s2, s3⟩ := hs g (List.mem_cons_self ..)
     rw [hg] at s1
     cases s1
     rw [hg'] at s2
     cases s2
     have d := Deep.sl (w := E.w) (sz := sz) (enc := enc') (xs := ys) (g := g) (off := off) (cap := cap) (cs := cells) (t := t) (fr := (0, 0)) (fun i j => cells.getD (off + i * sz + j) Go.undef) F' (by omega) hg' (by omega)
      (fun i x hx j hj => by
        obtain ⟨u, hu, _⟩ := hc' i x hx j hj
        rw [Array.getD_eq_getD_getElem?, hu]
        rfl)
      (fun i x hx j hj => by
        obtain ⟨u, hu, hdd⟩ := hc' i x hx j hj
        rw [Array.getD_eq_getD_getElem?, hu]
        exact hdd)
     rw [hl] at d
     rw [hl]
     exact d
theorem led_tup_inv {l l' : List AV} (h : LeD (.tup l) (.tup l')) : l'.length = l.length ∧ ∀ (i : Nat) (x y : AV), l[i]? = some x → l'[i]? = some y → LeD x y := by
 cases h with
 | same => exact ⟨rfl, fun i x y hx hy => by rw [hx] at hy; cases hy; exact .same _⟩
 | tup hl h => exact ⟨hl, h⟩
end Go.V
