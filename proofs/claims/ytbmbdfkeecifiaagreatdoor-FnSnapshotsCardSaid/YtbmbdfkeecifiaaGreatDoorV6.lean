/- A theory of its own: Go code in short, evaluated, with proof that the machine does what the evaluation tells. Conditions: those that each theorem states. Part 6. -/
import Derived.Test.YtbmbdfkeecifiaaGreatDoorV5
import Derived.Carry
import Derived.ChangeArms
import Derived.ChangeMaps5
import Derived.ChangeOld
import Derived.ChangeSame
import Derived.ChangeShapes
import Derived.ChangeSlices
import Derived.Handed
import Derived.IntWalk
import Derived.KernelRfl
import Derived.LaidLaws
import Derived.Lay
import Derived.OpenShut
import Derived.SevenTiedAt
import Derived.Shelf.Vars
import Derived.SizedLaws
import Derived.WideShapes
set_option linter.unusedVariables false
set_option linter.unusedSimpArgs false
namespace Go.V
open Go Go.RowKit
theorem look_litsOfB : ∀ {bs : List (List AV)} {k i : Nat}, k ≤ i → look i (litsOfB bs k) = (bs[i - k]?).map (fun cs => .lit 99 cs)
 | [], k, i, _ => by simp [litsOfB, look]
 | cs :: r, k, i, hk => by
   rw [litsOfB, look]
   cases e : Nat.beq k i with
   | true =>
     have := Nat.eq_of_beq_eq_true e
     subst this
     simp
   | false =>
     have hne : k ≠ i := fun h => by subst h; rw [Nat.beq_refl] at e; cases e
     rw [cond_false, look_litsOfB (bs := r) (k := k + 1) (by omega), show i - k = (i - (k + 1)) + 1 by omega]
     simp
theorem outsP_at {st : List (Nat × Blk)} : ∀ {k i : Nat} {l : List AV}, outsP st k i = some l → l.length = k ∧ ∀ j x, l[j]? = some x → ∃ cs, x = .tup cs ∧ cs.all cellP = true ∧ look (i + j) st = some (.lit 99 cs)
 | 0, i, l, h => by
   simp only [outsP, Option.some.injEq] at h
   subst h
   exact ⟨rfl, fun j x hx => by simp at hx⟩
 | k + 1, i, l, h => by
   rw [outsP] at h
   split at h
   ·rename_i sz cs hb
    cases e : (Nat.beq sz 99 && cs.all cellP) with
    | false => rw [e] at h; cases h
    | true =>
      rw [e, cond_true] at h
      rw [Bool.and_eq_true] at e
      have e1 := Nat.eq_of_beq_eq_true e.1
      subst e1
      split at h
      ·rename_i l' hl
       cases h
       obtain ⟨h1, h2⟩ := outsP_at hl
       refine ⟨by simp [h1], fun j x hx => ?_⟩
       cases j with
       | zero => simp at hx; subst hx; exact ⟨cs, rfl, e.2, hb⟩
       | succ j =>
         obtain ⟨cs', h3, h4, h5⟩ := h2 j x (by simpa using hx)
         exact ⟨cs', h3, h4, by rw [show i + (j + 1) = i + 1 + j by omega]; exact h5⟩
      ·cases h
   ·cases h
theorem argRep_loc {w w0' : World} {B : Base} {at_ : Nat → Option (Nat × Nat)} {st : Nat → Option Blk} {nb : Nat} {gs os : Nat → Nat} {bs : List (List AV)} (hw : B.w = w) (hban : ∀ g, ¬ B.ban g) (hm : ∀ g, B.mine g → ∃ i, i < nb ∧ g = gs i) (hat : ∀ i, i < nb → at_ i = some (gs i, os i)) (hst : ∀ i, i < nb → ∃ cs, st i = some (.lit 99 cs)) {x : AV} {v : Value}
 (h : ArgRep w (fun i => .pointer (some ⟨gs i, os i, none⟩)) nb (fun g => ∃ i, i < nb ∧ g = gs i) x v) : Loc ⟨B, w0', at_, st⟩ x v := by
 induction h with
 | deep h ho => exact deep_loc (E := ⟨B, w0', at_, st⟩) (hw ▸ h) (fun g hg => ⟨fun hmm => ho g hg (hm g hmm), hban g⟩)
 | lent i hi =>
   obtain ⟨cs, hs⟩ := hst i hi
   have := Loc.ptr (E := ⟨B, w0', at_, st⟩) (b := i) (j := 0) hs (hat i hi)
   rw [Nat.add_zero] at this
   exact this
 | agg hl hd ih => exact .agg hl ih
theorem slot_args {args : List AV} {vs : Array Value} {E : Env} {n : Nat} (hsz : vs.size = args.length) (h : ∀ (i : Nat) (x : AV), args[i]? = some x → Loc E x (vs.getD i undef)) (t : Nat) : Loc E (slot t (number 0 args)) ((vs ++ Array.replicate n undef).getD t undef) := by
 rw [slot_number]
 split
 ·rename_i ht
  have hx : args[t]? = some (args.getD t .any) := by
   have : t < args.length := by omega
   simp [List.getD, this]
  have hv : (vs ++ Array.replicate n undef).getD t undef = vs.getD t undef := by
   rw [Array.getD_eq_getD_getElem?, Array.getElem?_append_left (by omega), ← Array.getD_eq_getD_getElem?]
  rw [hv]
  exact h t _ (by rw [Nat.sub_zero]; exact hx)
 ·exact .any _
theorem cell_end {x' x : AV} {E : Env} {u : Value} (hc : cellP x' = true) (hl : Loc E x' u) (hle : LeD x' x) : (flatS x = true ∧ ∀ w, Deep w x u []) ∨ (flatS x = false ∧ ∃ A n c, u = .slice A n c) := by
 cases hl with
 | int k n =>
   cases hle with
   | same => exact .inl ⟨rfl, fun w => .int k n⟩
   | int h => exact .inl ⟨rfl, fun w => by rw [h]; exact .int _ _⟩
 | bo b => cases hle with | same => exact .inl ⟨rfl, fun w => .bo b⟩
 | str s =>
   cases hle with
   | same => exact .inl ⟨rfl, fun w => .str s⟩
   | str h => exact .inl ⟨rfl, fun w => by rw [h]; exact .str _⟩
 | nil =>
   cases hle with
   | same => exact .inr ⟨rfl, _, _, _, rfl⟩
   | nil h => exact .inr ⟨rfl, _, _, _, rfl⟩
 | sl hd =>
   have hs : ∃ A n c, u = .slice A n c := by
    obtain ⟨hd, _⟩ := hd
    cases hd with
    | sl0 A _ => exact ⟨_, _, _, rfl⟩
    | sl => exact ⟨_, _, _, rfl⟩
   cases hle with
   | same => exact .inr ⟨rfl, hs⟩
   | sl h => exact .inr ⟨rfl, hs⟩
 | _ => cases hc
theorem fn_of_p {P : Program} {mu : Nat → Bool} {f : Nat} {fn : Func} {c : Code} {H : Hints} {m : MCode} {rs : List RV} {args : List AV} {bs : List (List AV)} {Φ : AV → List (List AV) → Prop} (hm : P.follows .mixedOrders = true) (hf : P.funcs[f]? = some fn) (hn : fn.name ≠ "runtime.NumGoroutine") (hb : fn.body = some c)
 (hc : compC P mu fn.ntmps H c = some m) (hrs : fn.results.toList.mapM (compR P) = some rs) (hcm : cm mu = false) (hl : args.length ≤ fn.ntmps)
 (h : Sat P (fun q => ∃ ret outs, Φ ret outs ∧ outs.length = bs.length ∧ LeD q (.tup (ret :: outs.map .tup))) [] (runP m rs args bs)) : FnP P f args bs Φ := by
 refine ⟨⟨fn, hf, hn, by rw [hb]; rfl⟩, fun w vs gs os arr ty htb hbk hinj hsz hargs => ?_⟩
 refine calls_of_wp hf hb ?_
 let B : Base := ⟨w, fun g => ∃ i, i < bs.length ∧ g = gs i, fun _ => none, fun _ => False, fun i => if i < bs.length then some (gs i, os i) else none, fun _ => False⟩
 haveI : TbOk P B := TbOk.wider htb (fun g h => h) (fun g ⟨i, hi, hg⟩ => by rw [hg]; exact ⟨_, _, (hbk i _ (List.getElem?_eq_getElem hi)).1⟩)
 let at0 : Nat → Option (Nat × Nat) := fun i => if i < bs.length then some (gs i, os i) else none
 have at_lt : ∀ i, i < bs.length → at0 i = some (gs i, os i) := fun i hi => if_pos hi
 have row0 : ∀ i blk, look i (litsOfB bs 0) = some blk → ∃ cs, bs[i]? = some cs ∧ blk = .lit 99 cs ∧ i < bs.length := fun i blk hi => by
  rw [look_litsOfB (Nat.zero_le i), Nat.sub_zero, Option.map_eq_some_iff] at hi
  obtain ⟨cs, h1, h2⟩ := hi
  exact ⟨cs, h1, h2.symm, lt_of_get h1⟩
 have stl : ∀ i, i < bs.length → ∃ cs, look i (litsOfB bs 0) = some (.lit 99 cs) := fun i hi => ⟨bs[i], by rw [look_litsOfB (Nat.zero_le i), Nat.sub_zero, List.getElem?_eq_getElem hi]; rfl⟩
 have own0 : ∀ i, i < bs.length → (⟨B, w, at0, fun b => look b (litsOfB bs 0)⟩ : Env).own (fun _ => []) i = [gs i] := fun i hi => by
  show ownOf (at0 i) [] = _
  rw [at_lt i hi]
  rfl
 have heap : ∀ i, i < bs.length → w.heap[gs i]? = some (.cells (arr i) (ty i) (0, 0)) := fun i hi => (hbk i _ (List.getElem?_eq_getElem hi)).1
 have good : Good ⟨B, w, at0, fun b => look b (litsOfB bs 0)⟩ (fun _ => []) := by
  refine ⟨Kept.refl w _ _ _ _ (fun g hg => ?_), fun b blk hb => ?_, fun b blk hb => ?_, fun b blk hb => ?_, fun b b' blk blk' hb hb' hne => ?_, fun b blk hb => ?_, fun b p hp => (by cases hp), fun b β sz' enc' xs' hb => ?_, ⟨fun b blk hb g base hat => ?_, fun b p hp => ?_, fun b cs hb => ?_⟩⟩
  ·obtain ⟨i, hi, rfl⟩ := hg
   exact ⟨_, _, heap i hi⟩
  ·obtain ⟨cs, h1, rfl, h3⟩ := row0 b blk hb
   obtain ⟨e1, e2, e3⟩ := hbk b cs h1
   refine .lit (at_lt b h3) e1 (fun j x hx => ?_)
   obtain ⟨u, fp, hu, hd, hfp⟩ := e3 j x hx
   exact ⟨u, hu, deep_loc (E := ⟨B, w, at0, fun b => look b (litsOfB bs 0)⟩) hd (fun q hq => ⟨hfp q hq, fun h => h⟩)⟩
  ·obtain ⟨cs, h1, rfl, h3⟩ := row0 b blk hb
   rw [own0 b h3]
   exact List.nodup_cons.2 ⟨by simp, List.nodup_nil⟩
  ·obtain ⟨cs, h1, rfl, h3⟩ := row0 b blk hb
   rw [own0 b h3]
   intro g hg
   rw [List.mem_singleton.1 hg]
   exact .inr (.inl ⟨b, h3, rfl⟩)
  ·obtain ⟨cs, h1, rfl, h3⟩ := row0 b blk hb
   obtain ⟨cs', h1', rfl, h3'⟩ := row0 b' blk' hb'
   rw [own0 b h3, own0 b' h3']
   intro g hg hg'
   rw [List.mem_singleton] at hg hg'
   exact hinj b b' h3 h3' hne (hg.symm.trans hg')
  ·obtain ⟨cs, h1, rfl, h3⟩ := row0 b blk hb
   rw [own0 b h3]
   intro g hg
   rw [List.mem_singleton.1 hg]
   exact ⟨_, _, heap b h3⟩
  ·obtain ⟨cs, h1, h2, h3⟩ := row0 b _ hb
   cases h2
  ·obtain ⟨cs, h1, h2, h3⟩ := row0 b _ hb
   have hat : at0 b = some (g, base) := hat
   rw [at_lt b h3] at hat
   cases hat
   exact .inr ⟨b, h3, rfl⟩
  ·have hp : (if b < bs.length then some (gs b, os b) else none) = some p := hp
   split at hp
   ·rename_i h3
    cases hp
    exact ⟨at_lt b h3, Heads.refl w _, stl b h3⟩
   ·cases hp
  ·obtain ⟨cs', h1, h2, h3⟩ := row0 b _ hb
   exact ⟨(gs b, os b), if_pos h3⟩
 have h0 : RelS mu B fn.ntmps (startP args bs).tm (startP args bs).st (startP args bs).nx { tmps := vs ++ Array.replicate (fn.ntmps - vs.size) undef, defers := [] } w := by
  refine ⟨B, .refl ⟨fun e => (by rw [hcm] at e; cases e), fun _ _ h => h⟩, ⟨at0, fun _ => [], good, rfl, (by simp; omega), fun t => ?_⟩, fun b k hb => ?_⟩
  ·exact slot_args hsz (fun i x hx => argRep_loc (B := B) (bs := bs) rfl (fun _ h => h) (fun _ h => h) (fun i hi => at_lt i hi) (fun i hi => stl i hi) (hargs i x hx)) t
  ·obtain ⟨_, _, _, h3⟩ := row0 b k hb
   exact h3
 have fin : ∀ (s' : St) (a' : Act) (w' : World), Sat P (fun q => ∃ ret outs, Φ ret outs ∧ outs.length = bs.length ∧ LeD q (.tup (ret :: outs.map .tup))) [] (endP rs bs.length s') → RelS mu B fn.ntmps s'.tm s'.st s'.nx a' w' →
  a'.defers = [] ∧ ∃ v, (results fn a'.tmps).run P w' = .ok v w' ∧ ∃ v_1 ret outs fp, Ending.returned v = .returned v_1 ∧ Φ ret outs ∧ outs.length = bs.length ∧ Deep w' ret v_1 fp ∧ fp.Nodup ∧ (∀ g ∈ fp, w.heap.size ≤ g ∧ ∃ cs t, w'.heap[g]? = some (.cells cs t (0, 0))) ∧
  Kept ⟨w, fun g => ∃ i, i < bs.length ∧ g = gs i, fun _ => none, fun _ => False, fun _ => none, fun _ => False⟩ w' ∧
  ∀ i cs, outs[i]? = some cs → ∃ arr', w'.heap[gs i]? = some (.cells arr' (ty i) (0, 0)) ∧ arr'.size = (arr i).size ∧ Heads w w' (gs i) ∧ ∀ (j : Nat) (x : AV), cs[j]? = some x → ∃ u, arr'[os i + j]? = some u ∧ ((flatS x = true ∧ Deep w' x u []) ∨ (flatS x = false ∧ (arr i)[os i + j]? = some u)) := by
  intro s' a' w' hs hr
  obtain ⟨B', hX, ⟨at_, FP, hh⟩, _⟩ := hr
  obtain rfl : B' = B := hX.same hcm
  have hk := hh.good.below
  have litAt : ∀ i, i < bs.length → at_ i = some (gs i, os i) ∧ Heads w w' (gs i) ∧ ∃ cs, look i s'.st = some (.lit 99 cs) := fun i hi => hh.good.rt.lits i (gs i, os i) (if_pos hi)
  unfold endP at hs
  split at hs
  ·rename_i vs' hvs
   split at hs
   ·rename_i outs' ho
    split at hs
    ·rename_i e he
     obtain ⟨y, st'⟩ := e
     cases hs with
     | done hq =>
       obtain ⟨ret, outs, hΦ, hol, hle⟩ := hq
       obtain ⟨l1, l2⟩ := led_tup_inv hle
       obtain ⟨v, hrun, hloc⟩ := results_run hh hrs hvs
       obtain ⟨fp, hd, hout⟩ := exp_ok 3 _ FP s'.st st' _ y v hh.good (fun b k hb => hb) he hloc
       obtain ⟨o1, o2⟩ := outsP_at ho
       refine ⟨hh.defers, v, hrun, v, ret, outs, fp, rfl, hΦ, hol, (l2 0 _ _ rfl rfl).deep hd, hout.nodup, fun g hg => ?_, ⟨hk.os, hk.tape, hk.output, hk.size, hk.block, hk.shape⟩, fun i cs hi => ?_⟩
       ·obtain ⟨b, b1, b2, b3⟩ := hout.from_ g hg
        cases e : look b s'.st with
        | none => exact absurd e b1
        | some k =>
          refine ⟨?_, hh.good.fresh b k e g b3⟩
          rcases hh.good.base b k e g b3 with h | ⟨i, hi, hgi⟩ | h
          ·exact h
          ·exfalso
           obtain ⟨p1, _, cs, p3⟩ := litAt i hi
           have hne : b ≠ i := fun e2 => by
            subst e2
            have := exp_fx 3 _ _ _ _ he b ⟨_, p3, rfl⟩
            rw [b2, p3] at this
            cases this
           refine hh.good.apart b i _ _ e p3 hne g b3 ?_
           show g ∈ ownOf (at_ i) (FP i)
           rw [p1, hgi]
           exact List.mem_cons_self ..
          ·exact (show False from h).elim
       ·have hib : i < bs.length := by have := lt_of_get hi; omega
        have ho' : outs'[i]? = some (outs'[i]'(by omega)) := List.getElem?_eq_getElem (by omega)
        obtain ⟨cs', e1, e2, e3⟩ := o2 i _ ho'
        rw [Nat.zero_add] at e3
        have hle1 := l2 (i + 1) (.tup cs') (.tup cs) (by simp only [List.getElem?_cons_succ]; rw [ho', e1]) (by simp only [List.getElem?_cons_succ, List.getElem?_map, hi]; rfl)
        obtain ⟨k1, k2⟩ := led_tup_inv hle1
        obtain ⟨p1, p2, _⟩ := litAt i hib
        have r := hh.good.rep i _ e3
        generalize FP i = fpi at r
        cases r with
        | @lit _ _ g base cells t ha hg hcc =>
          have ha : at_ i = some (g, base) := ha
          rw [p1] at ha
          cases ha
          have hg : w'.heap[gs i]? = some (.cells cells t (0, 0)) := hg
          obtain ⟨cs1, t1, cs2, s1, s2, s3⟩ := hk.shape (gs i) ⟨i, hib, rfl⟩
          have s1 : w.heap[gs i]? = _ := s1
          rw [heap i hib] at s1
          cases s1
          rw [hg] at s2
          cases s2
          refine ⟨cells, hg, s3, p2, fun j x hx => ?_⟩
          obtain ⟨x', hx'⟩ := get_of_len k1 hx
          obtain ⟨u, hu, hlu⟩ := hcc j x' hx'
          refine ⟨u, hu, ?_⟩
          rcases cell_end (List.all_eq_true.1 e2 x' (List.mem_of_getElem? hx')) hlu (k2 j x' x hx' hx) with ⟨f1, f2⟩ | ⟨f1, A, n, c0, rfl⟩
          ·exact .inl ⟨f1, f2 w'⟩
          ·refine .inr ⟨f1, ?_⟩
           obtain ⟨cs0, q1, q2⟩ := p2 cells _ hg
           rw [heap i hib] at q1
           cases q1
           exact q2 _ _ _ _ hu
    ·exact (no_bad hs).elim
   ·exact (no_bad hs).elim
  ·exact (no_bad hs).elim
 refine code_ok hm c m hc [] _ _ (startP args bs) _ w h h0 (fun e s' a' w' hs hr => ?_)
 cases e with
 | normal => exact fin s' a' w' hs hr
 | ret => exact fin s' a' w' hs hr
 | exit i => exact (no_bad hs).elim
theorem fn_of_q {P : Program} {mu : Nat → Bool} {f : Nat} {fn : Func} {c : Code} {H : Hints} {m : MCode} {rs : List RV} {args : List AV} {Φ : AV → List (List AV) → Prop} (hm : P.follows .mixedOrders = true) (hf : P.funcs[f]? = some fn) (hn : fn.name ≠ "runtime.NumGoroutine") (hb : fn.body = some c)
 (hc : compC P mu fn.ntmps H c = some m) (hrs : fn.results.toList.mapM (compR P) = some rs) (hl : args.length ≤ fn.ntmps)
 (h : Sat P (fun q => ∃ ret, Φ ret [] ∧ LeD q ret) [] (runT m rs args)) : FnP P f args [] Φ := by
 refine ⟨⟨fn, hf, hn, by rw [hb]; rfl⟩, fun w vs gs os arr ty htb hbk hinj hsz hargs => ?_⟩
 refine calls_of_wp hf hb ?_
 let B : Base := ⟨w, fun _ => False, fun _ => none, fun _ => False, fun _ => none, fun _ => False⟩
 haveI : TbOk P B := TbOk.wider htb (fun g h => h.elim) (fun g ⟨i, hi, _⟩ => by cases hi)
 have h0 : RelS mu B fn.ntmps (start args).tm (start args).st (start args).nx { tmps := vs ++ Array.replicate (fn.ntmps - vs.size) undef, defers := [] } w := by
  refine ⟨_, .refl ⟨fun _ => ⟨fun _ => rfl, fun _ => rfl⟩, fun _ _ h => h⟩, ⟨fun _ => none, fun _ => [], ⟨Kept.refl w _ _ _ _ (fun _ h => h.elim), fun b k hb => (by cases hb), fun b k hb => (by cases hb), fun b k hb => (by cases hb), fun b b' k k' hb => (by cases hb), fun b k hb => (by cases hb), fun b p hp => (by cases hp), fun b _ _ _ _ hb => (by cases hb), ⟨fun b k hb => (by cases hb), fun b q hq => (by cases hq), fun b cs hb => (by cases hb)⟩⟩, rfl, (by simp; omega), fun t => ?_⟩, fun b k hb => (by cases hb)⟩
  exact slot_args hsz (fun i x hx => argRep_loc (B := B) (bs := []) rfl (fun _ h => h) (fun _ h => h.elim) (fun i hi => by cases hi) (fun i hi => by cases hi) (hargs i x hx)) t
 have fin : ∀ (s' : St) (a' : Act) (w' : World), Sat P (fun q => ∃ ret, Φ ret [] ∧ LeD q ret) [] (endT rs s') → RelS mu B fn.ntmps s'.tm s'.st s'.nx a' w' →
  a'.defers = [] ∧ ∃ v, (results fn a'.tmps).run P w' = .ok v w' ∧ ∃ v_1 ret outs fp, Ending.returned v = .returned v_1 ∧ Φ ret outs ∧ outs.length = ([] : List (List AV)).length ∧ Deep w' ret v_1 fp ∧ fp.Nodup ∧ (∀ g ∈ fp, w.heap.size ≤ g ∧ ∃ cs t, w'.heap[g]? = some (.cells cs t (0, 0))) ∧
  Kept ⟨w, fun g => ∃ i, i < ([] : List (List AV)).length ∧ g = gs i, fun _ => none, fun _ => False, fun _ => none, fun _ => False⟩ w' ∧
  ∀ i cs, outs[i]? = some cs → ∃ arr', w'.heap[gs i]? = some (.cells arr' (ty i) (0, 0)) ∧ arr'.size = (arr i).size ∧ Heads w w' (gs i) ∧ ∀ (j : Nat) (x : AV), cs[j]? = some x → ∃ u, arr'[os i + j]? = some u ∧ ((flatS x = true ∧ Deep w' x u []) ∨ (flatS x = false ∧ (arr i)[os i + j]? = some u)) := by
  intro s' a' w' hs hr
  obtain ⟨B', hX, ⟨at_, FP, hh⟩, _⟩ := hr
  unfold endT at hs
  split at hs
  ·rename_i vs' hvs
   split at hs
   ·rename_i e he
    obtain ⟨y, st'⟩ := e
    cases hs with
    | done hq =>
      obtain ⟨ret, hΦ, hle⟩ := hq
      obtain ⟨v, hrun, hloc⟩ := results_run hh hrs hvs
      obtain ⟨fp, hd, hout⟩ := exp_ok 3 _ FP s'.st st' _ y v hh.good (fun b k hb => hb) he hloc
      have hk := hX.kept _ hh.good.below
      refine ⟨hh.defers, v, hrun, v, ret, [], fp, rfl, hΦ, rfl, hle.deep hd, hout.nodup, fun g hg => ?_, ⟨hk.os, hk.tape, hk.output, hk.size, fun k h1 _ => hk.block k h1 (fun h => h), fun g hg => ?_⟩, fun i cs hi => by simp at hi⟩
      ·obtain ⟨b, b1, b2, b3⟩ := hout.from_ g hg
       cases e : look b s'.st with
       | none => exact absurd e b1
       | some k => exact ⟨(hX.free g (hh.good.base b k e g b3)).elim id (fun h => h.elim False.elim False.elim), hh.good.fresh b k e g b3⟩
      ·obtain ⟨i, hi, _⟩ := hg
       cases hi
   ·exact (no_bad hs).elim
  ·exact (no_bad hs).elim
 refine code_ok hm c m hc [] _ _ (start args) _ w h h0 (fun e s' a' w' hs hr => ?_)
 cases e with
 | normal => exact fin s' a' w' hs hr
 | ret => exact fin s' a' w' hs hr
 | exit i => exact (no_bad hs).elim
theorem fn_of_n {P : Program} {mu : Nat → Bool} {f : Nat} {fn : Func} {c : Code} {H : Hints} {m : MCode} {rs : List RV} {args : List AV} {Φ : List AV → Prop} (hm : P.follows .mixedOrders = true) (hf : P.funcs[f]? = some fn) (hn : fn.name ≠ "runtime.NumGoroutine") (hb : fn.body = some c)
 (hc : compC P mu fn.ntmps H c = some m) (hrs : fn.results.toList.mapM (compR P) = some rs) (hcm : cm mu = false) (hl : args.length ≤ fn.ntmps)
 (h : Sat P (fun q => ∃ cs, Φ cs ∧ LeD q (.tup cs)) [] (runN m rs args)) : FnN P f args Φ := by
 refine ⟨⟨fn, hf, hn, by rw [hb]; rfl⟩, fun w vs F L htb hsz hd hL => ?_⟩
 refine calls_of_wp hf hb ?_
 let B : Base := ⟨w, fun _ => False, fun _ => none, fun _ => False, fun _ => none, L⟩
 haveI : TbOk P B := TbOk.of htb
 have h0 : RelS mu B fn.ntmps (start args).tm (start args).st (start args).nx { tmps := vs ++ Array.replicate (fn.ntmps - vs.size) undef, defers := [] } w := by
  refine ⟨_, .refl ⟨fun _ => ⟨fun _ => rfl, fun _ => rfl⟩, fun _ _ h => h⟩, ⟨fun _ => none, fun _ => [], ⟨Kept.refl w _ _ _ _ (fun _ h => h.elim), fun b k hb => (by cases hb), fun b k hb => (by cases hb), fun b k hb => (by cases hb), fun b b' k k' hb => (by cases hb), fun b k hb => (by cases hb), fun b p hp => (by cases hp), fun b _ _ _ _ hb => (by cases hb), ⟨fun b k hb => (by cases hb), fun b q hq => (by cases hq), fun b cs hb => (by cases hb)⟩⟩, rfl, (by simp; omega), fun t => ?_⟩, fun b k hb => (by cases hb)⟩
  exact slot_args hsz (fun i x hx => deep_loc (E := ⟨B, w, _, _⟩) (hd i x hx) (fun q hq => ⟨fun h => h, hL i (lt_of_get hx) q hq⟩)) t
 have fin : ∀ (s' : St) (a' : Act) (w' : World), Sat P (fun q => ∃ cs, Φ cs ∧ LeD q (.tup cs)) [] (endN rs s') → RelS mu B fn.ntmps s'.tm s'.st s'.nx a' w' →
  a'.defers = [] ∧ ∃ v, (results fn a'.tmps).run P w' = .ok v w' ∧ ∃ g off arr t cs, Ending.returned v = .returned (.pointer (some ⟨g, off, none⟩)) ∧ Φ cs ∧ w.heap.size ≤ g ∧ w'.heap[g]? = some (.cells arr t (0, 0)) ∧ CellsRep w' (fun q => q = g ∨ L q) arr off cs ∧ Below w.heap.size w w' := by
  intro s' a' w' hs hr
  obtain ⟨B', hX, ⟨at_, FP, hh⟩, _⟩ := hr
  obtain rfl : B' = B := hX.same hcm
  unfold endN at hs
  split at hs
  ·rename_i b j hvs
   cases ej : Nat.beq j 0 with
   | false => rw [ej, cond_false] at hs; exact (no_bad hs).elim
   | true =>
     rw [ej, cond_true] at hs
     have := Nat.eq_of_beq_eq_true ej
     subst this
     split at hs
     ·rename_i sz cs' hb'
      cases ec : cs'.all cellP with
      | false => rw [ec, cond_false] at hs; exact (no_bad hs).elim
      | true =>
        rw [ec, cond_true] at hs
        cases hs with
        | done hq =>
          obtain ⟨cs, hΦ, hle⟩ := hq
          obtain ⟨k1, k2⟩ := led_tup_inv hle
          obtain ⟨v, hrun, hloc⟩ := results_run hh hrs hvs
          have hloc : Loc ⟨B, w', at_, fun b => look b s'.st⟩ (.ptr b 0) v := hloc
          obtain ⟨sz', cs2, g, base, hb2, ha, rfl⟩ := hloc.ptr_inv
          have r := hh.good.rep b _ hb'
          have hhot := hh.good.rt.hot b _ hb' g base ha
          generalize FP b = fpb at r
          cases r with
          | @lit _ _ g' base' cells t ha' hg hcc =>
            rw [ha] at ha'
            cases ha'
            refine ⟨hh.defers, _, hrun, g, base, cells, t, cs, by rw [Nat.add_zero], hΦ, hhot.elim id (fun h => (show False from h).elim), hg, fun j x hx => ?_, hh.good.below.below⟩
            obtain ⟨x', hx'⟩ := get_of_len k1 hx
            obtain ⟨u, hu, hlu⟩ := hcc j x' hx'
            obtain ⟨fp, hd, hfp⟩ := cellP_deep (E := ⟨B, w', at_, fun b => look b s'.st⟩) hh.good.below (List.all_eq_true.1 ec x' (List.mem_of_getElem? hx')) hlu
            refine ⟨u, fp, hu, (k2 j x' x hx' hx).deep hd, fun q hq e => ?_⟩
            rcases e with e | e
            ·have h1 := (hfp q hq).1
             have h2 : w.heap.size ≤ g := hhot.elim id (fun h => (show False from h).elim)
             have h1 : q < w.heap.size := h1
             have e : q = g := e
             omega
            ·exact (hfp q hq).2.2 e
     ·exact (no_bad hs).elim
  ·exact (no_bad hs).elim
 refine code_ok hm c m hc [] _ _ (start args) _ w h h0 (fun e s' a' w' hs hr => ?_)
 cases e with
 | normal => exact fin s' a' w' hs hr
 | ret => exact fin s' a' w' hs hr
 | exit i => exact (no_bad hs).elim
end Go.V
namespace Go.V
open Go Go.RowKit Go.ChangeShapes Go.WideShapes
structure Opens {H : Type} (enc : TypeId × Value → H) (P : Program) (t : TypeId) {α : Type} (sz : Nat) (ea : α → Nat → AV) (F : α → Prop) : Prop where
 cells : P.cellsOf t = sz
 run : ∀ {W : World} {fuel : Nat} {cs : List Value} {y : DataW H × List MemPlace}, DataW.trod enc P W 0 (fun _ => true) true fuel t cs = some y →
  ∃ x, cs.length = sz ∧ (∀ j, j < sz → ∃ fp, Deep W (ea x j) (cs.getD j undef) fp) ∧ ((DataW.weights P t y.1).all (· ≤ reachBytes) = true → F x)
def encL {α : Type} (sz : Nat) (ea : α → Nat → AV) (l : List α) : Nat → AV := fun _ => .sl sz ea (fun _ => l)
section
variable {H : Type} {enc : TypeId × Value → H} {P : Program} {t : TypeId}
theorem opens_int {k : IntKind} (hu : P.underlying t = some (.int k)) (hc : P.cellsOf t = 1) : Opens enc P t 1 (encI k) (fun x => (Lit.int k x).wf = true) :=
 ⟨hc, fun h => by
  obtain ⟨n, rfl, rfl, hw⟩ := DataW.trod_int hu h
  exact ⟨n, rfl, fun j hj => ⟨_, by have : j = 0 := by omega
                                    subst this; exact .int k _⟩, fun _ => hw⟩⟩
theorem weightsAll_mem {e : TypeId} : ∀ {l : List (DataW H)}, (DataW.weightsAll P e l).all (· ≤ reachBytes) = true → ∀ x ∈ l, (DataW.weights P e x).all (· ≤ reachBytes) = true
 | [], _, x, hx => by cases hx
 | a :: r, h, x, hx => by
   rw [DataW.weightsAll, List.all_append, Bool.and_eq_true] at h
   rcases List.mem_cons.1 hx with rfl | hx
   ·exact h.1
   ·exact weightsAll_mem h.2 x hx
theorem cells?_len {W : World} {b n : Nat} {a : Addr} {c : List Value} (h : W.cells? b a n = some c) : c.length = n ∧ ∀ i u, c[i]? = some u → W.cell? (a.add i) = some u := by
 unfold World.cells? at h
 split at h
 ·obtain ⟨h1, h2⟩ := mapM_get h
  rw [List.length_range] at h1
  refine ⟨h1, fun i u hu => ?_⟩
  have hi : i < n := by
   have := (List.getElem?_eq_some_iff.1 hu).1
   omega
  exact h2 i i u (by rw [List.getElem?_range hi]) hu
 ·cases h
theorem cell?_block {W : World} {a : Addr} {u : Value} (h : W.cell? a = some u) : ∃ cs t fr, W.heap[a.block]? = some (.cells cs t fr) ∧ a.spot = none ∧ cs[a.off]? = some u := by
 unfold World.cell? at h
 split at h
 ·rename_i c t fr hc
  split at h
  ·cases h
  ·rename_i hs
   exact ⟨c, t, fr, hc, by simpa using hs, h⟩
 ·cases h
theorem add_block (a : Addr) (n : Nat) : (a.add n).block = a.block := by unfold Addr.add; split <;> rfl
theorem add_off (a : Addr) (n : Nat) : (a.add n).off = a.off + n := by unfold Addr.add; split <;> simp_all
theorem opens_slice {α : Type} {e : TypeId} {sz B : Nat} {ea : α → Nat → AV} {F : α → Prop} (hu : P.underlying t = some (.slice e)) (hc : P.cellsOf t = 1) (hB : P.bytesOf e = B) (h0 : 0 < sz) (o : Opens enc P e sz ea F) :
 Opens enc P t 1 (encL sz ea) (fun l => l.length ≤ maxLen ∧ l.length * B ≤ 140737488351232 ∧ ∀ x ∈ l, F x) :=
 ⟨hc, fun {W fuel cs y} h => by
  rcases DataW.trod_slice hu h with ⟨rfl, rfl⟩ | ⟨a, len, cap, elems, rest, n, _, rfl, rfl, _, hl, hm, hlen, hel, hre, _⟩
  ·refine ⟨[], rfl, fun j hj => ⟨[], ?_⟩, fun _ => ⟨by simp, by simp, fun x hx => by cases hx⟩⟩
   have : j = 0 := by omega
   subst this
   exact .sl0 none rfl
  ·obtain ⟨hrl, hre⟩ := hre rfl
   have each : ∀ i (hi : i < elems.length), ∃ x, (∀ j, j < sz → ∃ u fp, W.cell? ((a.add (i * sz)).add j) = some u ∧ Deep W (ea x j) u fp) ∧ ((DataW.weights P e elems[i].1).all (· ≤ reachBytes) = true → F x) := by
    intro i hi
    have h1 := hel i (by omega)
    rw [List.getElem?_eq_getElem hi, Option.bind_eq_some_iff] at h1
    obtain ⟨c, hcs, h2⟩ := h1
    obtain ⟨x, hcl, hd, hF⟩ := o.run h2
    rw [o.cells] at hcs
    refine ⟨x, fun j hj => ?_, hF⟩
    obtain ⟨fp, hd⟩ := hd j hj
    have hj' : c[j]? = some (c.getD j undef) := by
     have : j < c.length := by omega
     simp [List.getD, this]
    exact ⟨_, fp, (cells?_len hcs).2 j _ hj', hd⟩
   obtain ⟨xs, hxl, hxs⟩ : ∃ xs : List α, xs.length = elems.length ∧ ∀ i (hi : i < elems.length) x, xs[i]? = some x → (∀ j, j < sz → ∃ u fp, W.cell? ((a.add (i * sz)).add j) = some u ∧ Deep W (ea x j) u fp) ∧ ((DataW.weights P e elems[i].1).all (· ≤ reachBytes) = true → F x) := by
    refine ⟨List.ofFn (fun i : Fin elems.length => Classical.choose (each i.1 i.2)), by simp, fun i hi x hx => ?_⟩
    rw [List.getElem?_ofFn] at hx
    simp only [hi, dif_pos] at hx
    obtain rfl := Option.some.inj hx
    exact Classical.choose_spec (each i hi)
   refine ⟨xs, rfl, fun j hj => ?_, fun hw => ?_⟩
   ·have : j = 0 := by omega
    subst this
    by_cases hcap : cap = 0
    ·have hl0 : len = 0 := by omega
     have : xs = [] := List.eq_nil_of_length_eq_zero (by omega)
     subst this hcap hl0
     exact ⟨[], .sl0 (some a) rfl⟩
    ·
     have cell : ∀ i j, i < cap → j < sz → ∃ u, W.cell? ((a.add (i * sz)).add j) = some u := by
      intro i j hi hj
      have key : ∀ (r : Option (DataW H × List MemPlace)) y, (W.cells? 0 (a.add (i * P.cellsOf e)) (P.cellsOf e)).bind (DataW.trod enc P W 0 (fun _ => true) true n e) = r → r = some y → ∃ u, W.cell? ((a.add (i * sz)).add j) = some u := by
       intro r y hr hy
       rw [hy, Option.bind_eq_some_iff] at hr
       obtain ⟨c, hcs, _⟩ := hr
       rw [o.cells] at hcs
       obtain ⟨hcl, hcc⟩ := cells?_len hcs
       exact ⟨_, hcc j _ (List.getElem?_eq_getElem (by omega))⟩
      by_cases hi2 : i < len
      ·exact key _ _ (hel i hi2) (List.getElem?_eq_getElem (by omega))
      ·have := hre (i - len) (by omega)
       rw [show len + (i - len) = i by omega] at this
       exact key _ _ this (List.getElem?_eq_getElem (by omega))
     obtain ⟨u0, hu0⟩ := cell 0 0 (by omega) h0
     obtain ⟨B0, t0, fr0, hg, hsp, _⟩ := cell?_block hu0
     have ha : a = ⟨a.block, a.off, none⟩ := by
      have : a.spot = none := by simpa [Addr.add] using hsp
      cases a
      simp_all
     rw [add_block, add_block] at hg
     have cell' : ∀ i j u, W.cell? ((a.add (i * sz)).add j) = some u → B0[a.off + i * sz + j]? = some u := by
      intro i j u hu
      obtain ⟨B1, t1, fr1, hg1, _, hc1⟩ := cell?_block hu
      rw [add_block, add_block, hg] at hg1
      cases hg1
      rw [add_off, add_off] at hc1
      exact hc1
     have hr : a.off + cap * sz ≤ B0.size := by
      obtain ⟨u, hu⟩ := cell (cap - 1) (sz - 1) (by omega) (by omega)
      have := (Array.getElem?_eq_some_iff.1 (cell' _ _ _ hu)).1
      have e : cap * sz = (cap - 1) * sz + sz := by
       have : cap = (cap - 1) + 1 := by omega
       rw [this, Nat.add_mul]
       simp
      omega
     obtain ⟨F2, hF2⟩ : ∃ F2 : Nat → Nat → List Nat, ∀ i x, xs[i]? = some x → ∀ j, j < sz → Deep W (ea x j) (B0.getD (a.off + i * sz + j) undef) (F2 i j) := by
      have : ∀ i, ∃ G : Nat → List Nat, ∀ x, xs[i]? = some x → ∀ j, j < sz → Deep W (ea x j) (B0.getD (a.off + i * sz + j) undef) (G j) := by
       intro i
       cases hx : xs[i]? with
       | none => exact ⟨fun _ => [], fun x h => by cases h⟩
       | some x =>
         have hi := lt_of_get hx
         obtain ⟨G, hG⟩ := pick_fp (n := sz) (R := fun j fp => Deep W (ea x j) (B0.getD (a.off + i * sz + j) undef) fp) (fun j hj => by
          obtain ⟨u, fp, hu, hd⟩ := (hxs i (by omega) x hx).1 j hj
          refine ⟨fp, ?_⟩
          rw [Array.getD_eq_getD_getElem?, cell' i j u hu]
          exact hd)
         exact ⟨G, fun x' h => by cases h; exact hG⟩
      obtain ⟨F2, h⟩ := Classical.axiomOfChoice this
      exact ⟨F2, h⟩
     have hlx : xs.length = len := by omega
     have d := Deep.sl (w := W) (sz := sz) (enc := ea) (xs := fun _ => xs) (g := a.block) (off := a.off) (cap := cap) (cs := B0) (t := t0) (fr := fr0) (fun i j => B0.getD (a.off + i * sz + j) undef) F2 (by show xs.length ≤ cap; omega) hg hr
      (fun i x hx j hj => by
        obtain ⟨u, fp, hu, _⟩ := (hxs i (by have := lt_of_get hx; have : i < xs.length := this; omega) x hx).1 j hj
        rw [Array.getD_eq_getD_getElem?, cell' i j u hu]
        rfl) hF2
     have e : Value.slice (some a) len cap = .slice (some ⟨a.block, a.off, none⟩) xs.length cap := by rw [← ha, hlx]
     obtain ⟨fp, d⟩ : ∃ fp, Deep W (.sl sz ea (fun _ => xs)) (.slice (some ⟨a.block, a.off, none⟩) xs.length cap) fp := ⟨_, d⟩
     rw [← e] at d
     exact ⟨fp, d⟩
   ·simp only [DataW.weights, hu, List.all_cons, List.all_append, Bool.and_eq_true, decide_eq_true_eq, List.length_map] at hw
    obtain ⟨hw1, hw2, _⟩ := hw
    have hlx : xs.length = len := by omega
    refine ⟨by unfold maxLen at *; omega, ?_, fun x hx => ?_⟩
    ·rw [hB] at hw1
     have : xs.length * B ≤ (elems.length + rest.length) * B := Nat.mul_le_mul_right _ (by omega)
     unfold reachBytes at hw1
     omega
    ·obtain ⟨i, hi⟩ := List.getElem?_of_mem hx
     have hil : i < elems.length := by
      have := (List.getElem?_eq_some_iff.1 hi).1
      omega
     exact (hxs i hil x hi).2 (weightsAll_mem hw2 _ (by rw [List.mem_map]; exact ⟨elems[i], List.getElem_mem _, rfl⟩))⟩
structure OFields {H : Type} (enc : TypeId × Value → H) (P : Program) (fs : List Field) (off : Nat) {α : Type} (sz : Nat) (ea : α → Nat → AV) (F : α → Prop) : Prop where
 run : ∀ {W : World} {fuel : Nat} {cs : List Value} {ys : List (DataW H × List MemPlace)}, (fs.mapM fun f => DataW.trod enc P W 0 (fun _ => true) true fuel f.type ((cs.drop f.offset).take (P.cellsOf f.type))) = some ys →
  cs.length = off + sz → ∃ x, (∀ j, j < sz → ∃ fp, Deep W (ea x j) (cs.getD (off + j) undef) fp) ∧ ((DataW.weightsEach P (fs.map (·.type)) (ys.map (·.1))).all (· ≤ reachBytes) = true → F x)
theorem Opens.one {α : Type} {ea : α → Nat → AV} {F : α → Prop} (o : Opens enc P t 1 ea F) {W : World} {v : Value} {y : DataW H} {p : List MemPlace} (h : DataW.Trod enc P W 0 (fun _ => true) true t v y p)
 (hv : v.cells = #[v]) (hw : (DataW.weights P t y).all (· ≤ reachBytes) = true) : ∃ x fp, Deep W (ea x 0) v fp ∧ F x := by
 obtain ⟨fuel, hf⟩ := h
 obtain ⟨x, _, hd, hF⟩ := o.run hf
 obtain ⟨fp, hd⟩ := hd 0 (by omega)
 rw [hv] at hd
 exact ⟨x, fp, hd, hF hw⟩
theorem Opens.agg {α : Type} {sz : Nat} {ea : α → Nat → AV} {F : α → Prop} (o : Opens enc P t sz ea F) {W : World} {v : Value} {y : DataW H} {p : List MemPlace} (h : DataW.Trod enc P W 0 (fun _ => true) true t v y p)
 {us : Array Value} (hv : v = .agg us) (hw : (DataW.weights P t y).all (· ≤ reachBytes) = true) : ∃ x fp, Deep W (.agg ((List.range sz).map (ea x))) v fp ∧ F x := by
 obtain ⟨fuel, hf⟩ := h
 subst hv
 obtain ⟨x, hl, hd, hF⟩ := o.run hf
 obtain ⟨G, hG⟩ := pick_fp (n := sz) (R := fun j fp => Deep W (ea x j) (us.getD j undef) fp) (fun j hj => by
  obtain ⟨fp, hd⟩ := hd j hj
  refine ⟨fp, ?_⟩
  have e : (Value.cells (.agg us)).toList.getD j undef = us.getD j undef := by
   rw [List.getD_eq_getElem?_getD, Array.getD_eq_getD_getElem?]
   simp [Value.cells]
  rw [← e]
  exact hd)
 refine ⟨x, _, .agg G ?_ (fun i z hz => ?_), hF hw⟩
 ·have : us.toList.length = sz := hl
  simpa using this
 ·rw [List.getElem?_map, Option.map_eq_some_iff] at hz
  obtain ⟨i', hi', rfl⟩ := hz
  have hlt := lt_of_get hi'
  rw [List.length_range] at hlt
  rw [List.getElem?_range hlt] at hi'
  cases hi'
  exact hG i hlt
end
end Go.V
namespace Go.V
open Go Go.RowKit
structure Known (P : Program) (mu : Nat → Bool) (f : Nat) (m : MCode) (rs : List RV) (n : Nat) : Prop where
 ok : ∃ fn c H, P.follows .mixedOrders = true ∧ P.funcs[f]? = some fn ∧ fn.name ≠ "runtime.NumGoroutine" ∧ fn.body = some c ∧ compC P mu fn.ntmps H c = some m ∧ fn.results.toList.mapM (compR P) = some rs ∧ fn.ntmps = n
theorem Known.fn {P : Program} {mu : Nat → Bool} {f : Nat} {m : MCode} {rs : List RV} {n : Nat} (k : Known P mu f m rs n) {args : List AV} {r : AV} (hl : Nat.ble args.length n = true) (h : Sat P (fun q => LeD q r) [] (runT m rs args)) : Fn P f args r := by
 obtain ⟨fn, c, H, h1, h2, h3, h4, h5, h6, h7⟩ := k.ok
 exact fn_of h1 h2 h3 h4 h5 h6 (by rw [h7]; exact Nat.le_of_ble_eq_true hl) h
theorem Known.of {P : Program} {mu : Nat → Bool} {f : Nat} {m : MCode} {rs : List RV} {fn : Func} (H : Hints) (h1 : P.follows .mixedOrders = true) (h2 : P.funcs[f]? = some fn) (h3 : (fn.name != "runtime.NumGoroutine") = true := by kernel_rfl) (h4 : fn.body.isSome = true := by kernel_rfl) (h5 : compC P mu fn.ntmps H (fn.body.getD .skip) = some m := by kernel_rfl)
 (h6 : fn.results.toList.mapM (compR P) = some rs := by kernel_rfl) : Known P mu f m rs fn.ntmps := by
 refine ⟨fn, fn.body.getD .skip, H, h1, h2, by simpa using h3, ?_, h5, h6, rfl⟩
 cases e : fn.body with
 | none => rw [e] at h4; cases h4
 | some c => rfl
theorem Known.fnp {P : Program} {mu : Nat → Bool} {f : Nat} {m : MCode} {rs : List RV} {n : Nat} (k : Known P mu f m rs n) {args : List AV} {bs : List (List AV)} {Φ : AV → List (List AV) → Prop} (hl : Nat.ble args.length n = true)
 (h : Sat P (fun q => ∃ ret outs, Φ ret outs ∧ outs.length = bs.length ∧ LeD q (.tup (ret :: outs.map .tup))) [] (runP m rs args bs)) (hcm : cm mu = false := by kernel_rfl) : FnP P f args bs Φ := by
 obtain ⟨fn, c, H, h1, h2, h3, h4, h5, h6, h7⟩ := k.ok
 exact fn_of_p h1 h2 h3 h4 h5 h6 hcm (by rw [h7]; exact Nat.le_of_ble_eq_true hl) h
theorem Known.fnq {P : Program} {mu : Nat → Bool} {f : Nat} {m : MCode} {rs : List RV} {n : Nat} (k : Known P mu f m rs n) {args : List AV} {Φ : AV → List (List AV) → Prop} (hl : Nat.ble args.length n = true) (h : Sat P (fun q => ∃ ret, Φ ret [] ∧ LeD q ret) [] (runT m rs args)) : FnP P f args [] Φ := by
 obtain ⟨fn, c, H, h1, h2, h3, h4, h5, h6, h7⟩ := k.ok
 exact fn_of_q h1 h2 h3 h4 h5 h6 (by rw [h7]; exact Nat.le_of_ble_eq_true hl) h
theorem Known.fnn {P : Program} {mu : Nat → Bool} {f : Nat} {m : MCode} {rs : List RV} {n : Nat} (k : Known P mu f m rs n) {args : List AV} {Φ : List AV → Prop} (hl : Nat.ble args.length n = true) (h : Sat P (fun q => ∃ cs, Φ cs ∧ LeD q (.tup cs)) [] (runN m rs args)) (hcm : cm mu = false := by kernel_rfl) : FnN P f args Φ := by
 obtain ⟨fn, c, H, h1, h2, h3, h4, h5, h6, h7⟩ := k.ok
 exact fn_of_n h1 h2 h3 h4 h5 h6 hcm (by rw [h7]; exact Nat.le_of_ble_eq_true hl) h
theorem led_bo {b b' : Bool} (h : b = b') : LeD (.bo b) (.bo b') := h ▸ .same _
theorem led_nil : ∀ (i : Nat) (x y : AV), ([] : List AV)[i]? = some x → ([] : List AV)[i]? = some y → LeD x y := fun i x y h => by simp at h
theorem led_cons {a b : AV} {l r : List AV} (h : LeD a b) (hr : ∀ (i : Nat) (x y : AV), l[i]? = some x → r[i]? = some y → LeD x y) : ∀ (i : Nat) (x y : AV), (a :: l)[i]? = some x → (b :: r)[i]? = some y → LeD x y := fun i x y hx hy => by
 cases i with
 | zero => simp at hx hy; subst hx hy; exact h
 | succ i => exact hr i x y (by simpa using hx) (by simpa using hy)
end Go.V
namespace Go.V
open Go Go.RowKit Go.ChangeShapes Go.WideShapes
def Takes {H : Type} (enc : TypeId × Value → H) (P : Program) (ts : List TypeId) {X : Type} (avs : X → List AV) (F : X → Prop) : Prop :=
 ∀ (W : World) (base : Nat) (vs : List Value) (ds : List (DataW H)) (ps : List MemPlace), DataW.TrodAll enc P W 0 (fun _ => true) true ts vs ds ps → (∀ (j : Nat) t v, ts[j]? = some t → vs[j]? = some v → Value.okWide P W .any base t v) →
   (DataW.weightsEach P ts ds).all (· ≤ reachBytes) = true → ∃ x, F x ∧ vs.length = (avs x).length ∧ ∀ (i : Nat) (a : AV), (avs x)[i]? = some a → ∃ fp, Deep W a (vs.getD i undef) fp
section
variable {H : Type} {enc : TypeId × Value → H} {P : Program} {ts : List TypeId} {t : TypeId}
theorem takes_nil : Takes enc P [] (fun _ : Unit => []) (fun _ => True) := fun W base vs ds ps h _ _ => by
 obtain ⟨rfl, rfl, rfl⟩ := trodAll_nil h
 exact ⟨(), trivial, rfl, fun i a h => by simp at h⟩
theorem takes_cons {α X : Type} {b : α → AV} {avs : X → List AV} {F : α → Prop} {G : X → Prop} (o : ∀ (W : World) (base : Nat) (v : Value) (y : DataW H) (p : List MemPlace), DataW.Trod enc P W 0 (fun _ => true) true t v y p → Value.okWide P W .any base t v → (DataW.weights P t y).all (· ≤ reachBytes) = true → ∃ x fp, Deep W (b x) v fp ∧ F x)
 (h : Takes enc P ts avs G) : Takes enc P (t :: ts) (fun x : α × X => b x.1 :: avs x.2) (fun x => F x.1 ∧ G x.2) := fun W base vs ds ps ht hv hw => by
 obtain ⟨v, vs', d, ds', p, q, rfl, rfl, rfl, h1, h2⟩ := trodAll_cons ht
 rw [DataW.weightsEach, List.all_append, Bool.and_eq_true] at hw
 obtain ⟨x, fp, hd, hF⟩ := o W base v d p h1 (hv 0 t v rfl rfl) hw.1
 obtain ⟨x', hG, hl, hd'⟩ := h W base vs' ds' q h2 (fun j t v h1 h2 => hv (j + 1) t v h1 h2) hw.2
 refine ⟨(x, x'), ⟨hF, hG⟩, by simp [hl], fun i a ha => ?_⟩
 cases i with
 | zero => simp at ha; subst ha; exact ⟨fp, hd⟩
 | succ i => exact hd' i a (by simpa using ha)
theorem takes_slice {α X : Type} {ea : α → Nat → AV} {avs : X → List AV} {G : X → Prop} {e : TypeId} {sz : Nat} {F' : List α → Prop} (hu : P.underlying t = some (.slice e)) (o : Opens enc P t 1 (encL sz ea) F') (h : Takes enc P ts avs G) :
 Takes enc P (t :: ts) (fun x : List α × X => .sl sz ea (fun _ => x.1) :: avs x.2) (fun x => F' x.1 ∧ G x.2) :=
 takes_cons (b := fun x => .sl sz ea (fun _ => x)) (F := F') (fun W base v y p h hv hw => by
  obtain ⟨a, n, c, rfl⟩ := okWide_slice hu hv
  obtain ⟨x, fp, hd, hF⟩ := o.one h rfl hw
  exact ⟨x, fp, hd, hF⟩) h
theorem back {W W' : World} (hl : laidOutB P = true) (bel : Below W.heap.size W W') : ∀ {ts : List TypeId} {vs : List Value} {ds : List (DataW H)} {ps : List MemPlace}, (ts.all fun t => P.readableRec t && Nat.blt t P.types.size) = true →
 DataW.TrodAll enc P W 0 (fun _ => true) true ts vs ds ps → DataW.TrodAll enc P W' 0 (fun b => decide (b < W.heap.size)) true ts vs ds ps
 | [], vs, ds, ps, _, h => by
   obtain ⟨rfl, rfl, rfl⟩ := trodAll_nil h
   exact trodAll_mk0
 | t :: ts, vs, ds, ps, ht, h => by
   obtain ⟨v, vs', d, ds', p, q, rfl, rfl, rfl, h1, h2⟩ := trodAll_cons h
   rw [List.all_cons, Bool.and_eq_true, Bool.and_eq_true] at ht
   have lt : ∀ x ∈ p, x.block < W.heap.size := by
    obtain ⟨m, hm⟩ := h1
    exact DataW.trod_lt m _ _ _ hm
   exact trodAll_cons_mk (Below.trod hl ht.1.1 (by have := ht.1.2; rw [Nat.blt_eq] at this; exact this) h1 bel lt) (back hl bel ht.2 h2)
end
theorem trodAll_len {H : Type} {enc : TypeId × Value → H} {P : Program} {W : World} : ∀ {ts : List TypeId} {vs : List Value} {ds : List (DataW H)} {ps : List MemPlace}, DataW.TrodAll enc P W 0 (fun _ => true) true ts vs ds ps → ts.length = ds.length
 | [], vs, ds, ps, h => by
   obtain ⟨rfl, rfl, rfl⟩ := trodAll_nil h
   rfl
 | t :: ts, vs, ds, ps, h => by
   obtain ⟨v, vs', d, ds', p, q, rfl, rfl, rfl, h1, h2⟩ := trodAll_cons h
   rw [List.length_cons, List.length_cons, trodAll_len h2]
end Go.V
namespace Go.V
open Go Go.RowKit
theorem slot_mem {t : Nat} : ∀ {l : List (Nat × AV)}, slot t l = .any ∨ ∃ v, (t, v) ∈ l ∧ slot t l = v
 | [] => .inl rfl
 | p :: r => by
   rw [slot]
   cases e : Nat.beq p.1 t with
   | true =>
     have := Nat.eq_of_beq_eq_true e
     subst this
     exact .inr ⟨p.2, List.mem_cons_self .., rfl⟩
   | false =>
     rcases slot_mem (t := t) (l := r) with h | ⟨v, h1, h2⟩
     ·exact .inl h
     ·exact .inr ⟨v, List.mem_cons_of_mem _ h1, h2⟩
theorem look_in {b : Nat} {k : Blk} : ∀ {l : List (Nat × Blk)}, look b l = some k → (b, k) ∈ l
 | [], h => by cases h
 | p :: r, h => by
   rw [look] at h
   cases e : Nat.beq p.1 b with
   | true =>
     rw [e, cond_true] at h
     cases h
     have := Nat.eq_of_beq_eq_true e
     subst this
     exact List.mem_cons_self ..
   | false =>
     rw [e, cond_false] at h
     exact List.mem_cons_of_mem _ (look_in h)
def TmOk (s : St) (st1 : List (Nat × Blk)) : List (Nat × AV) → Prop
 | [] => True
 | p :: r => LeV s.st st1 (slot p.1 s.tm) p.2 ∧ TmOk s st1 r
def BkOk (s : St) (st1 : List (Nat × Blk)) (nx : Nat) : List (Nat × Blk) → Prop
 | [] => True
 | p :: r => (((∃ k', look p.1 s.st = some k' ∧ LeK s.st st1 k' p.2) ∨ (look p.1 s.st = none ∧ phantom p.2)) ∧ p.1 < nx) ∧ BkOk s st1 nx r
theorem TmOk.mem {s : St} {st1 : List (Nat × Blk)} : ∀ {l : List (Nat × AV)}, TmOk s st1 l → ∀ p ∈ l, LeV s.st st1 (slot p.1 s.tm) p.2
 | [], _, p, hp => by cases hp
 | q :: r, h, p, hp => by
   rcases List.mem_cons.1 hp with rfl | hp
   ·exact h.1
   ·exact TmOk.mem h.2 p hp
theorem BkOk.mem {s : St} {st1 : List (Nat × Blk)} {nx : Nat} : ∀ {l : List (Nat × Blk)}, BkOk s st1 nx l → ∀ p ∈ l, ((∃ k', look p.1 s.st = some k' ∧ LeK s.st st1 k' p.2) ∨ (look p.1 s.st = none ∧ phantom p.2)) ∧ p.1 < nx
 | [], _, p, hp => by cases hp
 | q :: r, h, p, hp => by
   rcases List.mem_cons.1 hp with rfl | hp
   ·exact h.1
   ·exact BkOk.mem h.2 p hp
def FxOk (st1 : List (Nat × Blk)) : List (Nat × Blk) → Bool
 | [] => true
 | (b, .row _ _ _ true) :: r => (match look b st1 with | some _ => true | none => false) && FxOk st1 r
 | (b, .lit sz _) :: r => (bif Nat.beq sz 99 then (match look b st1 with | some _ => true | none => false) else true) && FxOk st1 r
 | _ :: r => FxOk st1 r
theorem FxOk.mem {st1 : List (Nat × Blk)} : ∀ {l : List (Nat × Blk)}, FxOk st1 l = true → ∀ (b : Nat) (α : Type) (sz : Nat) (enc : α → Nat → AV) (xs : Unit → List α), (b, Blk.row sz enc xs true) ∈ l → look b st1 ≠ none
 | [], _, b, α, sz, enc, xs, h => by cases h
 | (c, k) :: r, h, b, α, sz, enc, xs, hm => by
   rcases List.mem_cons.1 hm with e | hm
   ·cases e
    rw [FxOk] at h
    intro hn
    rw [hn] at h
    simp at h
   ·refine FxOk.mem (l := r) ?_ b α sz enc xs hm
    cases k with
    | lit sz cs =>
      rw [FxOk, Bool.and_eq_true] at h
      exact h.2
    | row sz enc xs fx =>
      cases fx with
      | false => exact h
      | true =>
        rw [FxOk, Bool.and_eq_true] at h
        exact h.2
theorem FxOk.memL {st1 : List (Nat × Blk)} : ∀ {l : List (Nat × Blk)}, FxOk st1 l = true → ∀ (b : Nat) (cs : List AV), (b, Blk.lit 99 cs) ∈ l → look b st1 ≠ none
 | [], _, b, cs, h => by cases h
 | (c, k) :: r, h, b, cs, hm => by
   rcases List.mem_cons.1 hm with e | hm
   ·cases e
    rw [FxOk] at h
    intro hn
    rw [hn] at h
    simp at h
   ·refine FxOk.memL (l := r) ?_ b cs hm
    cases k with
    | lit sz cs =>
      rw [FxOk, Bool.and_eq_true] at h
      exact h.2
    | row sz enc xs fx =>
      cases fx with
      | false => exact h
      | true =>
        rw [FxOk, Bool.and_eq_true] at h
        exact h.2
theorem les_of {s : St} {tm1 : List (Nat × AV)} {st1 : List (Nat × Blk)} {nx : Nat} (h1 : TmOk s st1 tm1) (h2 : BkOk s st1 nx st1) (h3 : FxOk st1 s.st = true) : LeS s ⟨tm1, st1, nx⟩ := by
 refine ⟨fun t => ?_, fun b k hk => (h2.mem _ (look_in hk)).1, fun b k hk => (h2.mem _ (look_in hk)).2, fun b α sz enc xs hk => FxOk.mem h3 b α sz enc xs (look_in hk), fun b cs hk => FxOk.memL h3 b cs (look_in hk)⟩
 rcases slot_mem (t := t) (l := tm1) with h | ⟨v, hm, h⟩
 ·show LeV _ _ _ (slot t tm1)
  rw [h]; exact .any _
 ·show LeV _ _ _ (slot t tm1)
  rw [h]; exact h1.mem _ hm
def patchT (ch : List (Nat × AV)) : List (Nat × AV) → List (Nat × AV)
 | [] => []
 | p :: r => (p.1, match ch.find? (fun q => Nat.beq q.1 p.1) with | some q => q.2 | none => p.2) :: patchT ch r
def patchB (cb : List (Nat × Blk)) : List (Nat × Blk) → List (Nat × Blk)
 | [] => []
 | p :: r => match cb.find? (fun q => Nat.beq q.1 p.1) with | some _ => patchB cb r | none => p :: patchB cb r
def patch (s : St) (ch : List (Nat × AV)) (cb : List (Nat × Blk)) : St := ⟨patchT ch s.tm, cb ++ patchB cb s.st, s.nx + cb.length⟩
variable {P : Program} {Q : AV → Prop}
theorem Sat.loopP {As : List (St → Prop)} {s : St} {body : St → Tree} {ι : Type} (ch : ι → List (Nat × AV)) (cb : ι → List (Nat × Blk)) (G : ι → Prop) (μ : ι → Nat) (x0 : ι) (hs : LeS s (patch s (ch x0) (cb x0))) (hg : G x0)
 (hb : ∀ x, G x → Sat P Q ((fun s' => ∃ y, LeS s' (patch s (ch y) (cb y)) ∧ G y ∧ μ y < μ x) :: As) (body (patch s (ch x) (cb x)))) : Sat P Q As (.loop s body) :=
 .loop (fun x => patch s (ch x) (cb x)) G μ x0 hs hg hb
theorem Sat.next {ι : Type} {As : List (St → Prop)} {s : St} {G : ι → Prop} {μ : ι → Nat} {S : ι → St} {x : ι} (y : ι) (h : LeS s (S y)) (hg : G y) (hm : μ y < μ x) : Sat P Q ((fun s' => ∃ y, LeS s' (S y) ∧ G y ∧ μ y < μ x) :: As) (.again s) :=
 .again (.refl _) ⟨y, h, hg, hm⟩
theorem Sat.nextR {ι : Type} {As : List (St → Prop)} {s : St} {G : ι → Prop} {μ : ι → Nat} {S : ι → St} {x : ι} (b c : Nat) (y : ι) (hc : noFx c s.st = true) (hb : noFx b s.st = true) (hlt : Nat.blt c s.nx = true) (hlt2 : Nat.blt b s.nx = true) (h : LeS (renS b c s) (S y)) (hg : G y) (hm : μ y < μ x) : Sat P Q ((fun s' => ∃ y, LeS s' (S y) ∧ G y ∧ μ y < μ x) :: As) (.again s) :=
 .again (.step b c hc hb hlt hlt2 (.refl _)) ⟨y, h, hg, hm⟩
theorem Sat.idxk {As : List (St → Prop)} {α : Type} {xs : Unit → List α} {i : Unit → Nat} {c : α → Tree} {x : α} (hx : (xs ())[i ()]? = some x) (h : Sat P Q As (c x)) : Sat P Q As (.idx xs i c) :=
 .idx (lt_of_get hx) (fun y hy => by rw [hx] at hy; cases hy; exact h)
theorem lev_nil {st st1 : List (Nat × Blk)} : ∀ (i : Nat) (x y : AV), ([] : List AV)[i]? = some x → ([] : List AV)[i]? = some y → LeV st st1 x y := fun i x y h => by simp at h
theorem lev_cons {st st1 : List (Nat × Blk)} {a b : AV} {l r : List AV} (h : LeV st st1 a b) (hr : ∀ (i : Nat) (x y : AV), l[i]? = some x → r[i]? = some y → LeV st st1 x y) : ∀ (i : Nat) (x y : AV), (a :: l)[i]? = some x → (b :: r)[i]? = some y → LeV st st1 x y := fun i x y hx hy => by
 cases i with
 | zero => simp at hx hy; subst hx hy; exact h
 | succ i => exact hr i x y (by simpa using hx) (by simpa using hy)
@[simp] theorem take_all {α : Type} {l : List α} {n : Nat} (h : l.length ≤ n) : l.take n = l := List.take_of_length_le h
theorem ncast (n : Nat) : @NatCast.natCast Int instNatCastInt n = @Nat.cast Int instNatCastInt n := rfl
theorem tnil {f : Nat → AV} : ∀ (j : Nat) (x : AV), ([] : List AV)[j]? = some x → LeD x (f j) := fun j x h => by simp at h
theorem tcons {a : AV} {r : List AV} {f : Nat → AV} (h : LeD a (f 0)) (hr : ∀ (j : Nat) (x : AV), r[j]? = some x → LeD x (f (j + 1))) : ∀ (j : Nat) (x : AV), (a :: r)[j]? = some x → LeD x (f j) := fun j x hx => by
 cases j with
 | zero => simp at hx; subst hx; exact h
 | succ j => exact hr j x (by simpa using hx)
theorem Sat.ari64 {As : List (St → Prop)} {v : Unit → Int} {c : (Unit → Int) → Tree} (h1 : -9223372036854775808 ≤ v ()) (h2 : v () ≤ 9223372036854775807) (hc : Sat P Q As (c v)) : Sat P Q As (.ari .i64 v c) :=
 .ari (IntWalk.i64_in _ ⟨h1, h2⟩) hc
end Go.V
namespace Go.V
open Go Go.RowKit
theorem ledA {p : Prop} (h : p := by (repeat' (first | exact led_nil | refine led_cons ?_ ?_ | exact .same _ | exact .int rfl | exact .sl rfl | exact .str rfl | exact .nil rfl | exact .emp rfl | refine .agg rfl ?_ | refine .tup rfl ?_ | (refine .sl ?_; simp; done))); (first | done | fail)) : p := h
theorem arA {p : Prop} (h : p := by first | omega | (simp only [ncast, true_and, List.length_append, List.length_take, List.length_drop, List.length_replicate, List.length_cons, List.length_nil] at *; omega)) : p := h
theorem ndA {p : Prop} (h : p := by (try dsimp only); first | omega | (simp only [ncast, true_and, List.length_append, List.length_take, List.length_drop, List.length_replicate, List.length_cons, List.length_nil] at *; omega)) : p := h
theorem tcA {p : Prop} (h : p := by (repeat' (first | exact tnil | refine tcons ?_ ?_ | exact .same _ | exact .int rfl | exact .str rfl | exact .sl rfl | exact .nil rfl | (refine .sl ?_; simp; done))); (first | done | fail)) : p := h
theorem lesA {p : Prop} (h : p := by refine les_of ?_ ?_ rfl <;> (repeat' (first | exact trivial | refine And.intro ?_ ?_ | exact .any _ | exact .undef | exact .bo _ | exact .nil | exact .emp | exact .int rfl | exact .sl rfl | exact .str rfl | exact .ptr (fun h => nomatch h) | exact .rptr _ | exact .clo rfl (fun i x y h => by simp at h) | exact .ref (fun h => nomatch h) (fun h => nomatch h) rfl rfl | exact lev_nil | refine lev_cons ?_ ?_ | refine LeV.agg rfl ?_ | exact Nat.le_of_ble_eq_true rfl | exact Or.inl ⟨_, rfl, .row rfl⟩ | refine Or.inl ⟨_, rfl, .row ?_⟩ | refine Or.inl ⟨_, rfl, .lit rfl ?_⟩ | exact Or.inr ⟨rfl, rfl⟩)) <;> done) : p := h
theorem levA {p : Prop} (h : p := by first | exact .any _ | exact .undef | exact .bo _ | exact .nil | exact .emp | exact .int rfl | exact .sl rfl | exact .str rfl | exact .ptr (fun h => nomatch h) | exact .rptr _ | exact .clo rfl (fun i x y h => by simp at h) | exact .ref (fun h => nomatch h) (fun h => nomatch h) rfl rfl | exact lev_nil) : p := h
variable {P : Program} {Q : AV → Prop}
abbrev curA (code : List Int) (i h : Int) : List AV := [.sl 1 (encI .u8) (fun _ => code), .int .i64 (fun _ => i), .int .i64 (fun _ => h)]
def Dr (code : List Int) (R : AV → Prop) (ret : AV) (outs : List (List AV)) : Prop := ∃ i h : Int, (0 ≤ i ∧ i ≤ (code.length : Int)) ∧ R ret ∧ outs = [curA code i h]
theorem Sat.draw {As : List (St → Prop)} {f : Nat} {args cargs : List AV} {code : List Int} {R : AV → Prop} {c : AV → List (List AV) → Tree} {xs : Unit → List Int} {i h : Unit → Int} (hF : ∀ i h : Int, (0 ≤ i ∧ i ≤ (code.length : Int)) → FnP P f cargs [curA code i h] (Dr code R)) (hi : 0 ≤ i () ∧ i () ≤ (code.length : Int))
 (hc : ∀ (ret : AV) (i' h' : Int), (0 ≤ i' ∧ i' ≤ (code.length : Int)) → R ret → Sat P Q As (c ret [curA code i' h'])) (hx : xs () = code := by rfl) (hl : cargs.length = args.length := by rfl) (ha : ∀ (i : Nat) (x y : AV), args[i]? = some x → cargs[i]? = some y → LeD x y := by exact ledA) : Sat P Q As (.callp f args [[.sl 1 (encI .u8) xs, .int .i64 i, .int .i64 h]] c) :=
 .callp (hF (i ()) (h ()) hi) hl ha rfl (fun k cs ds h1 h2 => by
  cases k with
  | zero =>
    simp only [List.getElem?_cons_zero, Option.some.injEq] at h1 h2
    subst h1 h2
    exact ⟨rfl, rfl, led_cons (.sl hx) (led_cons (.int rfl) (led_cons (.int rfl) led_nil))⟩
  | succ k => simp at h1) (fun ret outs ⟨i', h', h1, h2, h3⟩ => by subst h3; exact hc ret i' h' h1 h2)
theorem dr_end {code : List Int} {R : AV → Prop} {y ret : AV} {xs : Unit → List Int} {i h : Unit → Int} {i0 h0 : Int} (hR : R ret) (hle : LeD y ret) (hi : 0 ≤ i () ∧ i () ≤ (code.length : Int)) (hx : xs () = code := by rfl) :
 ∃ r outs, Dr code R r outs ∧ outs.length = [curA code i0 h0].length ∧ LeD (.tup [y, .tup [.sl 1 (encI .u8) xs, .int .i64 i, .int .i64 h]]) (.tup (r :: outs.map .tup)) :=
 ⟨ret, [curA code (i ()) (h ())], ⟨_, _, hi, hR, rfl⟩, rfl, .tup rfl (led_cons hle (led_cons (.tup rfl (led_cons (.sl hx) (led_cons (.int rfl) (led_cons (.int rfl) led_nil)))) led_nil))⟩
theorem Sat.rel {As : List (St → Prop)} {f : Nat} {args cargs : List AV} {Φ : AV → List (List AV) → Prop} {c : AV → List (List AV) → Tree} (hF : FnP P f cargs [] Φ) (hc : ∀ ret outs, Φ ret outs → Sat P Q As (c ret outs)) (hl : cargs.length = args.length := by rfl) (ha : ∀ (i : Nat) (x y : AV), args[i]? = some x → cargs[i]? = some y → LeD x y := by exact ledA) : Sat P Q As (.callp f args [] c) :=
 .callp hF hl ha rfl (fun k cs ds h1 h2 => by simp at h1) hc
theorem Sat.newv {As : List (St → Prop)} {f : Nat} {args cargs : List AV} {Φ : List AV → Prop} {c : List AV → Tree} (hF : FnN P f cargs Φ) (hc : ∀ cs, Φ cs → Sat P Q As (c cs)) (hl : cargs.length = args.length := by rfl) (ha : ∀ (i : Nat) (x y : AV), args[i]? = some x → cargs[i]? = some y → LeD x y := by exact ledA) : Sat P Q As (.calln f args c) :=
 .calln hF hl ha hc
theorem wrap_small {n : Nat} (h : n < 9223372036854775808) : IntKind.i64.wrap (n : Int) = n := IntWalk.i64_in _ ⟨by omega, by omega⟩
theorem and_le {x : Int} {m : Nat} (hm : m < 9223372036854775808) : 0 ≤ bitI .and .i64 x m ∧ bitI .and .i64 x m ≤ m := by
 have hb : (BitVec.ofInt IntKind.i64.bits x &&& BitVec.ofInt IntKind.i64.bits (m : Int)).toNat ≤ m := by
  rw [BitVec.toNat_and]
  refine Nat.le_trans Nat.and_le_right ?_
  rw [BitVec.toNat_ofInt]
  have e : IntKind.i64.bits = 64 := rfl
  rw [e]
  have : (m : Int) % ((2 ^ 64 : Nat) : Int) = m := Int.emod_eq_of_lt (by omega) (by omega)
  omega
 show 0 ≤ IntKind.i64.wrap _ ∧ IntKind.i64.wrap _ ≤ (m : Int)
 rw [wrap_small (by omega)]
 omega
end Go.V
namespace Go.V
open Go Go.RowKit Go.ChangeShapes Go.WideShapes
theorem noStand {P : Program} {fn : Func} (h : (fn.params.toList.all fun t => !P.wantsStandIn t) = true) : ∀ (j : Nat) (t : TypeId), fn.params[j]? = some t → P.wantsStandIn t = false := fun j t ht => by
 have hm : t ∈ fn.params.toList := by
  have : fn.params.toList[j]? = some t := by rw [Array.getElem?_toList]; exact ht
  exact List.mem_of_getElem? this
 have := List.all_eq_true.1 h t hm
 cases e : P.wantsStandIn t with
 | false => rfl
 | true => rw [e] at this; cases this
theorem tab_of_vars {P : Program} {w : World} {name : String} {k : IntKind} {zs : List Int} {g : Nat} {t e : TypeId} {n : Nat} (hg : P.globalNamed name = some g) (hty : (P.globals[g]?).map (·.type) = some t) (ht : P.underlying t = some (.array n e)) (he : P.underlying e = some (.int k)) (hce : P.cellsOf e = 1) (hct : P.cellsOf t = n) :
 ∀ {l : List (String × DataW Unit)} {ps : List MemPlace}, DataW.LaidVars P w l ps → ∀ (i : Nat), l[i]? = some (name, Lib.tabData k zs) → Lib.TabIs P w name k zs
 | [], _, _, i, h => by simp at h
 | (m, d) :: r, ps, ⟨g', t', cs, fuel, p, q, hg', ht', hvar, hd, hr, _⟩, 0, h => by
   have h' : (m, d) = (name, Lib.tabData k zs) := by simpa using h
   cases h'
   obtain rfl := Option.some.inj (hg.symm.trans hg')
   obtain rfl := Option.some.inj (hty.symm.trans ht')
   unfold Lib.TabIs
   rw [hvar, ← Lib.cells_of_tab ht he hce hct hd]
 | _ :: r, ps, ⟨_, _, _, _, _, _, _, _, _, _, hr, _⟩, i + 1, h => tab_of_vars hg hty ht he hce hct hr i (by simpa using h)
theorem tab_of_laid {P : Program} {w : World} {lv : List (String × DataW Unit)} {name : String} {k : IntKind} {zs : List Int} {g : Nat} {t e : TypeId} {n : Nat} (hg : P.globalNamed name = some g) (hty : (P.globals[g]?).map (·.type) = some t) (ht : P.underlying t = some (.array n e)) (he : P.underlying e = some (.int k)) (hce : P.cellsOf e = 1) (hct : P.cellsOf t = n)
 (hf : (lv.filter fun x => x.2.handleName?.isSome) = []) (i : Nat) (hi : lv[i]? = some (name, Lib.tabData k zs)) (h : laidMetH P lv w) : Lib.TabIs P w name k zs := by
 unfold laidMetH at h
 rw [hf] at h
 obtain ⟨ps, hv, _⟩ := h
 exact tab_of_vars hg hty ht he hce hct hv i hi
theorem returnsInHanded_shaped {H : Type} {enc : TypeId × Value → H} {a : Assume} {C : Checked} {os : Os} {f : FuncId} {fn : Func} {s : ChangeSpec} {conds : List PathCond} {apart fresh handsOn again : Bool} {X : World → Array Value → Prop}
 (hX : ∀ (w w' : World) (args : Array Value), w.heap = w'.heap → X w args → X w' args)
 (own : ownKnob C.prog.godebug = none) (started : os.Started) (noInit : C.prog.inits.idxOf? f = none) (hfn : C.prog.funcs[f]? = some fn)
 (witness : ∃ (w : World) (tape : Tape) (i : Input), w.os = os ∧ (w.forCall tape i).Shaped C.prog ∧ i.vars = [] ∧ Input.okWide C.prog (w.forCall tape i) .any w.heap.size f i ∧
   ((s.pre enc C.prog fn conds apart (w.forCall tape i).memory i.args ∧ X (w.forCall tape i).memory i.args) ∧ sizedMet enc C.prog fn (OpenSpec.ofChange s) apart (w.forCall tape i).memory i.args) ∧ a.holds C.prog (lone (Frame.enter C.prog f i.args .normal) [] (w.forCall tape i)))
 (contract : ∀ (W : World) (base : Nat) (args : Array Value) (ds gs : List (DataW H)) (before : List MemPlace),
   (∀ (j : Nat) t v, fn.params[j]? = some t → args[j]? = some v → Value.okWide C.prog W .any base t v) →
   DataW.Whole enc C.prog fn.params.toList s.vars apart W args.toList ds gs before →
   conds.all (PathCond.test C.prog ⟨fn.params.toList, ds, s.plain.varTypes C.prog, gs⟩) = true →
   (DataW.weightsEach C.prog (fn.params.toList ++ s.plain.varTypes C.prog) (ds ++ gs)).all (· ≤ reachBytes) = true → X W args → W.ShapedOpen C.prog →
   Calls C.prog f args W fun e W' => ∃ v, e = .returned v ∧ s.post enc C.prog fn apart fresh handsOn again W args v W') :
 ReturnsInHanded a C os f .any (fun w args => (s.pre enc C.prog fn conds apart w args ∧ X w args) ∧ sizedMet enc C.prog fn (OpenSpec.ofChange s) apart w args) (s.post enc C.prog fn apart fresh handsOn again) := by
 refine returnsInHanded_of_calls own started noInit witness ?_
 intro w tape i _ hsh _ hok hpre _
 obtain ⟨_, _, _, fn', hfn', _, _, _, _, hval⟩ := hok
 have e : fn' = fn := Option.some.inj (hfn'.symm.trans hfn)
 subst e
 obtain ⟨⟨⟨ds, gs, before, hw, hc⟩, hx⟩, hz⟩ := hpre
 have hw' := DataW.Whole.of_heap (w' := w.forCall tape i) (by rfl) hw
 refine (contract (w.forCall tape i) w.heap.size i.args ds gs before hval hw' hc (hz.weights hw) (hX _ _ _ (by rfl) hx) hsh).mono fun e W' ⟨v, he, hp⟩ => ?_
 subst he
 exact ChangeSpec.post_blind hp
theorem lifted_laid {lv : List (String × DataW Unit)} {C : Checked} {f : Nat} {fn : Func} {s : ChangeSpec} {conds : List PathCond} {rt : TypeId} (own : ownKnob C.prog.godebug = none) (laid : laidOutB C.prog = true) (noInit : C.prog.inits.idxOf? f = none) (hf : C.prog.funcs[f]? = some fn) (hv : s.vars = []) (hTb : ∀ W : World, laidMetH C.prog lv W → W.ShapedOpen C.prog → Tb C.prog W)
 (hread : (fn.params.toList.all fun t => C.prog.readableRec t && Nat.blt t C.prog.types.size) = true) (hrt : C.prog.underlying rt = some .bool) (hres : fn.resultTypes = #[rt]) {ts : List TypeId} (hts : fn.params.toList = ts) (hargs : ∀ (H : Type) (ds : List (DataW H)), ds.length = ts.length → s.fn H ds = { results := [.lit (.bool true)], args := ds })
 {X : Type} {avs : X → List AV} {F : X → Prop} (ht : ∀ (H : Type) (enc : TypeId × Value → H), Takes enc C.prog ts avs F) (hF : ∀ x, F x → Fn C.prog f (avs x) (.bo true)) (os : Os) (started : os.Started) (H : Type) (enc : TypeId × Value → H)
 (witness : ∃ (w : World) (tape : Tape) (i : Input), w.os = os ∧ (w.forCall tape i).Shaped C.prog ∧ i.vars = [] ∧ Input.okWide C.prog (w.forCall tape i) .any w.heap.size f i ∧ ((s.pre enc C.prog fn conds false (w.forCall tape i).memory i.args ∧ laidMetH C.prog lv (w.forCall tape i).memory) ∧ sizedMet enc C.prog fn (OpenSpec.ofChange s) false (w.forCall tape i).memory i.args) ∧ ({} : Assume).holds C.prog (lone (Frame.enter C.prog f i.args .normal) [] (w.forCall tape i))) :
 ReturnsInHanded {} C os f .any (fun w args => (s.pre enc C.prog fn conds false w args ∧ laidMetH C.prog lv w) ∧ sizedMet enc C.prog fn (OpenSpec.ofChange s) false w args) (s.post enc C.prog fn false true false false) := by
 subst hts
 refine returnsInHanded_shaped (X := fun w _ => laidMetH C.prog lv w) (fun _ _ _ hh h => h.of_heap hh) own started noInit hf witness ?_
 intro W base args ds gs before hval0 hW hcnd hsz0 hLaid hShp
 have hvt : s.plain.varTypes C.prog = [] := by
  unfold ChangeSpec.plain
  simp [DataSpec.varTypes, hv]
 rw [hvt, List.append_nil] at hsz0
 have hW' := hW
 obtain ⟨p, q, hA, hV, hbef, hfz, hnd⟩ := hW
 rw [hv] at hV
 obtain ⟨rfl, rfl⟩ := trodVars_none hV
 rw [List.append_nil] at hsz0
 obtain ⟨x, hFx, hlen, hd⟩ := ht H enc W base args.toList ds p hA (fun j t v h1 h2 => hval0 j t v (by simpa using h1) (by simpa using h2)) hsz0
 obtain ⟨G, hG⟩ := pick_fp (n := (avs x).length) (R := fun i fp => ∀ a, (avs x)[i]? = some a → Deep W a (args.getD i undef) fp) (fun i hi => by
  obtain ⟨fp, h⟩ := hd i _ (List.getElem?_eq_getElem hi)
  refine ⟨fp, fun a ha => ?_⟩
  rw [List.getElem?_eq_getElem hi] at ha
  cases ha
  rw [List.getD_eq_getElem?_getD] at h
  rw [Array.getD_eq_getD_getElem?, ← Array.getElem?_toList]
  exact h)
 refine ((hF x hFx).2 W args G (hTb W hLaid hShp) (by simpa using hlen) (fun i a ha => hG i (lt_of_get ha) a ha)).mono fun e W' he => ?_
 obtain ⟨v, fp, rfl, hdv, _, _, bel⟩ := he
 cases hdv
 have hdl := trodAll_len hA
 have e : s.fn H (ds ++ []) = { results := [.lit (.bool true)], args := ds } := by rw [List.append_nil]; exact hargs H ds hdl.symm
 refine ⟨_, rfl, ds, [], before, [], p, [], hW', ?_, ?_, ?_, bel.frame _, fun h => by cases h⟩
 ·rw [e, hres]
  exact trodAll_mk1 (shut_bool hrt true)
 ·rw [e]
  exact back laid bel hread hA
 ·rw [e, hv]
  rfl
end Go.V
