/- Contracts of the functions that FnOps reaches: what each returns. Conditions: those that each theorem states. -/
import Derived.Test.YtgjnigpoemkkaaaGreatDoorWLOps2
import Derived.Shelf.Strings.Cut
namespace Go.V.T
open Go Go.V Go.RowKit
set_option maxRecDepth 100000
set_option linter.unusedVariables false
set_option linter.unusedSimpArgs false
--import Derived.Shelf.Strings.Cut
theorem opT_no {o : GOp} : ∀ b ∈ (opT o).data.toList, b ≠ 58 ∧ b ≠ 59 := fun b hb => by
 unfold opT at hb
 split at hb
 ·rename_i h
  have hr := okOp_spec h
  have nI : ∀ n : Int, 0 ≤ n → ∀ b ∈ (sI n).data.toList, b ≠ 58 ∧ b ≠ 59 := fun n hn b hb => ⟨sI_ne hn (.inr (by decide)) b hb, sI_ne hn (.inr (by decide)) b hb⟩
  have hb : b ∈ (sI o.Client).data.toList ++ [46] ++ (sI o.Seq).data.toList ++ (kT o).data.toList := by simpa using hb
  rw [List.mem_append, List.mem_append, List.mem_append, List.mem_singleton] at hb
  rcases hb with ((hb | rfl) | hb) | hb
  ·exact nI _ (by omega) b hb
  ·decide
  ·exact nI _ (by omega) b hb
  ·unfold kT at hb
   split at hb
   ·have hb : b ∈ swT.data.toList ++ (sI o.Object).data.toList ++ [32] ++ (sI o.Old).data.toList ++ [32] ++ (sI o.Value).data.toList := by simpa using hb
    simp only [List.mem_append, List.mem_singleton] at hb
    rcases hb with ((((hb | hb) | rfl) | hb) | rfl) | hb
    ·exact (by decide : ∀ b ∈ swT.data.toList, b ≠ 58 ∧ b ≠ 59) b hb
    ·exact nI _ (by omega) b hb
    ·decide
    ·exact nI _ (by omega) b hb
    ·decide
    ·exact nI _ (by omega) b hb
   ·have hb : b ∈ wrT.data.toList ++ (sI o.Object).data.toList ++ [32] ++ (sI o.Value).data.toList := by simpa using hb
    simp only [List.mem_append, List.mem_singleton] at hb
    rcases hb with ((hb | hb) | rfl) | hb
    ·exact (by decide : ∀ b ∈ wrT.data.toList, b ≠ 58 ∧ b ≠ 59) b hb
    ·exact nI _ (by omega) b hb
    ·decide
    ·exact nI _ (by omega) b hb
 ·cases hb
theorem entT_list (e : GEntry) : (entT e).data.toList = (sI e.Epoch).data.toList ++ 58 :: (opT e.Op).data.toList := by
 rw [entT]
 simp
theorem ent_back {e : GEntry} (h : (1 ≤ e.Epoch ∧ e.Epoch ≤ 20) ∧ okOp e.Op = true) : ent (entT e) = e := by
 have hc := ct_at (c := 58) (entT_list e) (sI_ne (by omega) (.inr (by decide)))
 rw [ent, hc.1, hc.2, pO_back h.2, (pNum_sI (n := e.Epoch) (by omega) (by omega)).1]
theorem entT_no {e : GEntry} (h : 1 ≤ e.Epoch) : ∀ b ∈ (entT e).data.toList, b ≠ 59 := fun b hb => by
 rw [entT_list, List.mem_append, List.mem_cons] at hb
 rcases hb with hb | rfl | hb
 ·exact sI_ne (by omega) (.inr (by decide)) b hb
 ·decide
 ·exact (opT_no b hb).2
theorem head_dig {s : ByteArray} {b : UInt8} {r : List UInt8} (h : s.data.toList = b :: r) (hb : b.toNat ≤ 57) : s ≠ noneT := fun e => by
 rw [e] at h
 have h : ([110, 111, 110, 101] : List UInt8) = b :: r := h
 have := (List.cons.inj h).1
 rw [← this] at hb
 exact absurd hb (by decide)
theorem sI_cons {n : Int} (h : 0 ≤ n) (h1 : n < 100) : ∃ b r, (sI n).data.toList = b :: r ∧ b.toNat ≤ 57 := by
 have hz := (sI_size h h1).1
 have e : (sI n).data.toList.length = (sI n).size := rfl
 cases hl : (sI n).data.toList with
 | nil => rw [hl] at e; simp at e; omega
 | cons b r => exact ⟨b, r, rfl, (sI_digs h b (by rw [hl]; exact List.mem_cons_self ..)).2⟩
theorem pLg_back {l : List GEntry} (h : isLog l = true) : pLg (logT l) = (l, true) := by
 obtain ⟨h16, hall⟩ := isLog_spec h
 cases l with
 | nil => rw [logT, if_pos h, if_pos rfl, pLg, pLL, if_pos rfl]
 | cons e r =>
   have he := hall e (List.mem_cons_self ..)
   have hL : (logT (e :: r)).data.toList = logL (e :: r) := by
    rw [logT, if_pos h, if_neg (by simp)]
   have hc : cutB 59 (logT (e :: r)) = entT e :: r.map entT := cut_texts 59 _ _ _ (entT_no he.1.1) (fun y hy => by
    rw [List.mem_map] at hy
    obtain ⟨x, hx, rfl⟩ := hy
    exact entT_no (hall x (List.mem_cons_of_mem _ hx)).1.1) (by
    rw [hL, logL, List.map_map, List.flatMap_map]
    rfl)
   have hm : (entT e :: r.map entT).map ent = e :: r := by
    rw [List.map_cons, ent_back he, List.map_map]
    congr 1
    exact (List.map_congr_left (fun x hx => ent_back (hall x (List.mem_cons_of_mem _ hx)))).trans (List.map_id _)
   obtain ⟨b, q, hb, hb57⟩ := sI_cons (n := e.Epoch) (by omega) (by omega)
   have hh : (logT (e :: r)).data.toList = b :: (q ++ 58 :: (opT e.Op).data.toList ++ r.flatMap (fun x => 59 :: entL x)) := by
    rw [hL, logL, entL, entT_list, hb]
    simp
   rw [pLg, pLL, if_neg (head_dig hh hb57), hc, hm, if_neg]
   rintro (e1 | e1)
   ·rw [e1] at hh
    cases hh
   ·exact e1 rfl
theorem pLg_empty : pLg ⟨#[]⟩ = ([], false) := by
 rw [pLg, pLL, if_neg (by decide), if_pos (.inl rfl)]
theorem pLg_logT (l : List GEntry) : pLg (logT l) = if isLog l = true then (l, true) else ([], false) := by
 by_cases h : isLog l = true
 ·rw [if_pos h, pLg_back h]
 ·rw [if_neg h, logT, if_neg h, pLg_empty]
theorem pM_empty : pM ⟨#[]⟩ = (zeroM, false) := pM_bad (v := ⟨#[]⟩) (r := []) (cutB_nil 32) rfl (.inl rfl)
theorem pM_mchT (m : GMachine) : pM (mchT m) = if validM m = true then (m, true) else (zeroM, false) := by
 by_cases h : validM m = true
 ·rw [if_pos h, pM_back h]
 ·rw [if_neg h, mchT, if_neg h, pM_empty]
theorem srvT_ne {l : List Int} (h : areServers l = true) : pSrv (srvT l) = (l, true) := by
 have hr := areServers_rng h
 have hr9 : ∀ v ∈ l, 0 ≤ v ∧ v ≤ 9 := fun v hv => by have := hr v hv; omega
 rw [srvT, if_pos h]
 by_cases hl : l = []
 ·rw [if_pos hl, hl]
  exact pSrv_none rfl
 ·rw [if_neg hl]
  obtain ⟨a, r, rfl⟩ := List.exists_cons_of_ne_nil hl
  have hd := fS_digs hr9
  have h1 : fS (a :: r) ≠ noneT := head_dig hd (by rw [dg_nat (hr9 a (List.mem_cons_self ..))]; have := hr a (List.mem_cons_self ..); omega)
  have h2 : fS (a :: r) ≠ ⟨#[]⟩ := fun e => by rw [e] at hd; cases hd
  have h3 : srvT (sv (fS (a :: r))) = fS (a :: r) := by rw [sv_fS hr9, srvT, if_pos h, if_neg hl]
  rw [pSrv_ok h1 h2 h3, sv_fS hr9]
theorem srvT_no {l : List Int} (h : areServers l = true) : ∀ b ∈ (srvT l).data.toList, b ≠ 32 := fun b hb => by
 rw [srvT, if_pos h] at hb
 split at hb
 ·exact (by decide : ∀ b ∈ (⟨#[110, 111, 110, 101]⟩ : ByteArray).data.toList, b ≠ 32) b hb
 ·have hr9 : ∀ v ∈ l, 0 ≤ v ∧ v ≤ 9 := fun v hv => by have := areServers_rng h v hv; omega
  rw [fS_digs hr9, List.mem_map] at hb
  obtain ⟨v, hv, rfl⟩ := hb
  exact dg_ne (hr9 v hv) (by decide)
theorem pC_back {c : GConfig} (h : validC c = true) : pC (cfgT c) = (c, true) := by
 obtain ⟨e1, e2, e3, _⟩ := validC_spec h
 have hp := validC_prim h
 have hc : cutB 32 (cfgT c) = [sI c.Epoch, sI c.Primary, srvT c.Replicas, srvT c.Witnesses] := cut_texts 32 _ _ _ (sI_ne (by omega) (.inl (by decide))) (fun y hy => by
  simp only [List.mem_cons, List.mem_nil_iff, or_false] at hy
  rcases hy with rfl | rfl | rfl
  ·exact sI_ne (by omega) (.inl (by decide))
  ·exact srvT_no e2
  ·exact srvT_no e3) (by
  rw [cfgT, if_pos h]
  simp)
 have hw : cfg4 pNum (sI c.Epoch) (sI c.Primary) (srvT c.Replicas) (srvT c.Witnesses) = c := by
  rw [cfg4, srvT_ne e2, srvT_ne e3, (pNum_sI (n := c.Epoch) (by omega) (by omega)).1, (pNum_sI (n := c.Primary) (by omega) (by omega)).1]
 rw [pC_4 hc, hw, if_pos rfl]
theorem pC_cfgT (c : GConfig) : pC (cfgT c) = if validC c = true then (c, true) else (zeroC, false) := by
 by_cases h : validC c = true
 ·rw [if_pos h, pC_back h]
 ·rw [if_neg h, cfgT, if_neg h]
  exact pC_no4 (by rw [cutB_nil]; decide)
theorem w_spec_l4Copy (m : GMachine) (hb : bMachine m) : Fn Pr n_spec_l4Copy [aGMachine m] (aGMachine m) := by
 have h0 : m.Objects.length * 8 ≤ 140737488351232 := hb.1
 have h1 : m.Sessions.length * 32 ≤ 140737488351232 := hb.2
 refine k_spec_l4Copy.fn (by kernel_rfl) ?_
 conv=>arg 4;cbv
 repeat' first
  | (refine Sat.cmp (fun h => ?_) (fun h => ?_) <;> simp only [Cmp.holds] at h <;> (conv=>arg 4;cbv))
  | (refine Sat.need ⟨fun y _ => flat_encI .i64 y, by exact arA⟩ ?_; conv=>arg 4;cbv)
  | (refine Sat.need ⟨fun y _ => flat_GSession y, by exact arA⟩ ?_; conv=>arg 4;cbv)
  | (refine Sat.may (fun h => ?_) ?_ <;> (conv=>arg 4;cbv))
  | (refine Sat.need ndA ?_; conv=>arg 4;cbv)
  | (refine Sat.idxk (by assumption) ?_; conv=>arg 4;cbv) | (refine Sat.idx ndA (fun v_ hv_ => ?_); conv=>arg 4;cbv)
  | (refine Sat.ari64 ndA ndA ?_; conv=>arg 4;cbv)
  | (refine Sat.pop ?_; conv=>arg 4;cbv)
  | refine Sat.done ?_
 all_goals refine .agg rfl ?_
 all_goals (repeat' first | exact led_nil | refine led_cons ?_ ?_ | exact .same _ | exact .nil (by assumption) | exact .emp (by assumption) | exact .sl (by simp))
theorem w_spec_NewMachine : Fn Pr n_spec_NewMachine [] (aGMachine ⟨[0, 0, 0], []⟩) := by
 refine k_spec_NewMachine.fn (by kernel_rfl) ?_
 conv=>arg 4;cbv
 refine Sat.done (.agg rfl ?_)
 (repeat' first | exact led_nil | refine led_cons ?_ ?_ | exact .same _ | exact .nil rfl | exact .emp rfl | exact .sl (by simp))
def zeroSes : GSession := ⟨0, 0, ⟨false, 0⟩⟩
def sesF : List GSession → Int → GSession × Bool
 | [], _ => (zeroSes, false)
 | x :: r, c => if x.Client = c then (x, true) else sesF r c
theorem sesF_hit {l : List GSession} {c : Int} {i : Nat} {x : GSession} (h : sesF l c = sesF (l.drop i) c) (hx : l[i]? = some x) (hc : x.Client = c) : sesF l c = (x, true) := by
 rw [h, drop_get hx, sesF, if_pos hc]
theorem sesF_step {l : List GSession} {c : Int} {i : Nat} {x : GSession} (h : sesF l c = sesF (l.drop i) c) (hx : l[i]? = some x) (hc : ¬ x.Client = c) : sesF l c = sesF (l.drop (i + 1)) c := by
 rw [h, drop_get hx, sesF, if_neg hc]
theorem sesF_in : ∀ {l : List GSession} {c : Int}, (sesF l c).2 = true → ∃ x ∈ l, x.Client = c ∧ (sesF l c).1 = x
 | [], c, h => by cases h
 | x :: r, c, h => by
   rw [sesF] at h ⊢
   by_cases hc : x.Client = c
   ·exact ⟨x, List.mem_cons_self .., hc, by rw [if_pos hc]⟩
   ·rw [if_neg hc] at h ⊢
    obtain ⟨y, hy, h1, h2⟩ := sesF_in h
    exact ⟨y, List.mem_cons_of_mem _ hy, h1, h2⟩
theorem w_spec_SessionOf (m : GMachine) (c : Int) (hb : bMachine m) : Fn Pr n_spec_SessionOf [aGMachine m, .int .i64 (fun _ => c)] (.tup [aGSession (sesF m.Sessions c).1, .bo (sesF m.Sessions c).2]) := by
 have h1 : m.Sessions.length * 32 ≤ 140737488351232 := hb.2
 have h0 : sesF m.Sessions c = sesF (m.Sessions.drop 0) c := rfl
 generalize hr : sesF m.Sessions c = r at h0 ⊢
 obtain ⟨s, b⟩ := r
 refine k_spec_SessionOf.fn (by kernel_rfl) ?_
 conv=>arg 4;cbv
 refine Sat.loopP (ι := Nat) (fun i => [(6, .int .i64 (fun _ => (i : Int)))]) (fun i => []) (fun i => i ≤ m.Sessions.length ∧ sesF m.Sessions c = sesF (m.Sessions.drop i) c) (fun i => m.Sessions.length - i) 0 ?_ ⟨Nat.zero_le _, rfl⟩ (fun i hi => ?_)
 ·exact lesA
 conv=>arg 4;cbv
 refine Sat.cmp (fun h5 => ?_) (fun h5 => ?_) <;> simp only [Cmp.holds] at h5
 ·have hi2 : i < m.Sessions.length := by exact arA
  conv=>arg 4;cbv
  refine Sat.need (by (try dsimp only); exact arA) ?_
  conv=>arg 4;cbv
  refine Sat.idx (by (try dsimp only); exact arA) (fun x hx => ?_)
  have hx : m.Sessions[i]? = some x := by simpa using hx
  conv=>arg 4;cbv
  refine Sat.cmp (fun h6 => ?_) (fun h6 => ?_) <;> simp only [Cmp.holds] at h6
  ·have he := hr.symm.trans (sesF_hit hi.2 hx h6)
   obtain ⟨rfl, rfl⟩ := Prod.mk.inj he
   conv=>arg 4;cbv
   repeat' first
    | (refine Sat.need ndA ?_; conv=>arg 4;cbv)
    | (refine Sat.idxk (by assumption) ?_; conv=>arg 4;cbv) | (refine Sat.idx ndA (fun v_ hv_ => ?_); conv=>arg 4;cbv)
    | (refine Sat.pop ?_; conv=>arg 4;cbv)
    | refine Sat.done ?_
   all_goals exact ledA
  ·conv=>arg 4;cbv
   refine Sat.ari64 (by (try dsimp only); exact arA) (by (try dsimp only); exact arA) ?_
   conv=>arg 4;cbv
   refine Sat.next (i + 1) ?_ ⟨by exact arA, sesF_step hi.2 hx h6⟩ (by (try dsimp only); exact arA)
   exact lesA
 ·have he := hr.symm.trans (hi.2.trans (by rw [show i = m.Sessions.length by (have := hi.1; exact arA), List.drop_length, sesF]))
  obtain ⟨rfl, rfl⟩ := Prod.mk.inj he
  conv=>arg 4;cbv
  refine Sat.pop ?_
  conv=>arg 4;cbv
  refine Sat.done ?_
  exact ledA
def kOf (l : List GSession) (c : Int) : Nat := (l.takeWhile (fun x => decide (x.Client < c))).length
theorem kOf_eq : ∀ {l : List GSession} {c : Int} {i : Nat}, (∀ x ∈ l.take i, x.Client < c) → (i = l.length ∨ ∃ e, l[i]? = some e ∧ ¬ e.Client < c) → kOf l c = i
 | [], c, i, _, h => by
   rcases h with h | ⟨e, h, _⟩
   ·rw [h]
    rfl
   ·cases h
 | x :: r, c, 0, _, h => by
   rcases h with h | ⟨e, h, hn⟩
   ·cases h
   ·rw [List.getElem?_cons_zero] at h
    cases h
    rw [kOf, List.takeWhile_cons_of_neg (by simp; omega)]
    rfl
 | x :: r, c, i + 1, ha, h => by
   have h1 : x.Client < c := ha x (by simp)
   have h2 : kOf r c = i := kOf_eq (fun y hy => ha y (by rw [List.take_succ_cons]; exact List.mem_cons_of_mem _ hy)) (by
    rcases h with h | ⟨e, h, hn⟩
    ·exact .inl (by simpa using h)
    ·exact .inr ⟨e, by simpa using h, hn⟩)
   rw [kOf, List.takeWhile_cons_of_pos (by simp; omega), List.length_cons]
   rw [kOf] at h2
   omega
def addS (l : List GSession) (had : Bool) (s : GSession) : List GSession := l.take (kOf l s.Client) ++ s :: l.drop (if had = true then kOf l s.Client + 1 else kOf l s.Client)
theorem get_nat {l : List GSession} {i : Nat} {e : GSession} (h : l[0 + (i : Int).toNat]? = some e) : l[i]? = some e := by
 rw [show 0 + (i : Int).toNat = i by omega] at h
 exact h
theorem had_lt {l : List GSession} {c : Int} {i : Nat} {x : GSession} (ha : ∀ x ∈ l.take i, x.Client < c) (hx : x ∈ l) (hc : x.Client = c) : i < l.length := by
 rcases Nat.lt_or_ge i l.length with h1 | h1
 ·exact h1
 ·exfalso
  have := ha x (by rw [List.take_of_length_le h1]; exact hx)
  omega
theorem ap3 {l : List GSession} {i j : Nat} {x : GSession} (hi : i ≤ l.length) : List.take ((i - 0 + 1) + (List.take (l.length - j) (List.drop (0 + j) l)).length) (List.drop 0 (List.take (i - 0 + 1) (List.take (i - 0) (List.take (i - 0) (List.drop (0 + 0) l)) ++ [x]) ++ List.take (l.length - j) (List.drop (0 + j) l))) = l.take i ++ x :: l.drop j := by
 simp only [Nat.sub_zero, Nat.zero_add, List.drop_zero]
 have e0 : List.take i (List.take i l) = l.take i := by rw [List.take_take, Nat.min_self]
 have e1 : List.take (i + 1) (l.take i ++ [x]) = l.take i ++ [x] := List.take_of_length_le (by rw [List.length_append, List.length_take, List.length_singleton]; omega)
 have e2 : List.take (l.length - j) (l.drop j) = l.drop j := List.take_of_length_le (by rw [List.length_drop]; exact Nat.le_refl _)
 rw [e2, e0, e1, List.take_of_length_le (by rw [List.length_append, List.length_append, List.length_take, List.length_singleton]; omega), List.append_assoc]
 rfl
theorem take_lt {l : List GSession} {c : Int} {i : Nat} {e : GSession} (h : ∀ x ∈ l.take i, x.Client < c) (he : l[i]? = some e) (hc : e.Client < c) : ∀ x ∈ l.take (i + 1), x.Client < c := fun x hx => by
 rw [List.take_add_one, he, List.mem_append] at hx
 rcases hx with hx | hx
 ·exact h x hx
 ·simp at hx
  rw [hx]
  exact hc
def resO (m : GMachine) (o : GOp) : GResult := ⟨decide (o.Kind = 1) || decide (m.Objects.getD o.Object.toNat 0 = o.Old), m.Objects.getD o.Object.toNat 0⟩
def newO (m : GMachine) (o : GOp) : GMachine := ⟨if (resO m o).Done = true then m.Objects.set o.Object.toNat o.Value else m.Objects, addS m.Sessions (sesF m.Sessions o.Client).2 ⟨o.Client, o.Seq, resO m o⟩⟩
def aplO (m : GMachine) (o : GOp) : GMachine × GResult × Bool :=
 if validM m = true ∧ okOp o = true then
  if (sesF m.Sessions o.Client).2 = true ∧ (sesF m.Sessions o.Client).1.Seq = o.Seq then (m, (sesF m.Sessions o.Client).1.Result, true)
  else if (sesF m.Sessions o.Client).2 = true ∧ (sesF m.Sessions o.Client).1.Seq > o.Seq then (m, ⟨false, 0⟩, false)
  else (newO m o, resO m o, true)
 else (m, ⟨false, 0⟩, false)
set_option maxHeartbeats 2000000 in
theorem w_spec_ApplyOp (m : GMachine) (o : GOp) (hb : bMachine m) : Fn Pr n_spec_ApplyOp [aGMachine m, aGOp o] (.tup [aGMachine (aplO m o).1, aGResult (aplO m o).2.1, .bo (aplO m o).2.2]) := by
 have h0 : m.Objects.length * 8 ≤ 140737488351232 := hb.1
 have h1 : m.Sessions.length * 32 ≤ 140737488351232 := hb.2
 have WS := w_spec_SessionOf m o.Client hb
 generalize hs : sesF m.Sessions o.Client = sb at WS
 obtain ⟨s, had⟩ := sb
 have hsA : (sesF m.Sessions o.Client).1 = s := congrArg Prod.fst hs
 have hsB : (sesF m.Sessions o.Client).2 = had := congrArg Prod.snd hs
 refine k_spec_ApplyOp.fn (by kernel_rfl) ?_
 conv=>arg 4;cbv
 refine Sat.call (w_spec_l4Copy m hb) rfl ledA ?_
 conv=>arg 4;cbv
 refine Sat.callb (w_spec_IsValidMachine m hb) rfl ledA (fun hA => ?_) (fun hA => ?_)
 rotate_left
 ·have he : aplO m o = (m, ⟨false, 0⟩, false) := by rw [aplO, if_neg (fun e => by rw [hA] at e; exact Bool.false_ne_true e.1)]
  conv=>arg 4;cbv
  refine Sat.done ?_
  rw [he]
  exact ledA
 conv=>arg 4;cbv
 refine Sat.callb (w_spec_IsValidOp o) rfl ledA (fun hB => ?_) (fun hB => ?_)
 rotate_left
 ·have he : aplO m o = (m, ⟨false, 0⟩, false) := by rw [aplO, if_neg (fun e => by rw [hB] at e; exact Bool.false_ne_true e.2)]
  conv=>arg 4;cbv
  refine Sat.done ?_
  rw [he]
  exact ledA
 have hv := validM_spec hA
 have ho := okOp_spec hB
 obtain ⟨sc, sq, sd, sv⟩ := s
 obtain ⟨v, hv2⟩ : ∃ v, m.Objects[o.Object.toNat]? = some v := ⟨_, List.getElem?_eq_getElem (by omega)⟩
 have hgd : m.Objects.getD o.Object.toNat 0 = v := by rw [List.getD_eq_getElem?_getD, hv2]; rfl
 conv=>arg 4;cbv
 cases had
 ·refine Sat.call WS rfl ledA ?_
  conv=>arg 4;cbv
  have he : aplO m o = (newO m o, resO m o, true) := by rw [aplO, if_pos ⟨hA, hB⟩, hs, if_neg (fun q => Bool.false_ne_true q.1), if_neg (fun q => Bool.false_ne_true q.1)]
  refine Sat.need (by (try dsimp only); exact arA) ?_
  conv=>arg 4;cbv
  refine Sat.idx (by (try dsimp only); exact arA) (fun v2 hv3 => ?_)
  obtain rfl : v = v2 := Option.some.inj (Eq.trans (Eq.symm hv2) (by simpa using hv3))
  conv=>arg 4;cbv
  refine Sat.cmp (fun h7 => ?_) (fun h7 => ?_) <;> simp only [Cmp.holds] at h7
  ·have hres : resO m o = ⟨true, v⟩ := by rw [resO, hgd, h7]; rfl
   conv=>arg 4;cbv
   repeat' first | (refine Sat.need ndA ?_; conv=>arg 4;cbv) | (refine Sat.idxk (by assumption) ?_; conv=>arg 4;cbv) | (refine Sat.idx ndA (fun v_ hv_ => ?_); conv=>arg 4;cbv) | (refine Sat.typed o.Value tcA ?_; conv=>arg 4;cbv)
   refine Sat.loopP (ι := Nat) (fun i => [(12, .int .i64 (fun _ => (i : Int)))]) (fun i => []) (fun i => i ≤ m.Sessions.length ∧ ∀ x ∈ m.Sessions.take i, x.Client < o.Client) (fun i => m.Sessions.length - i) 0 ?_ ⟨Nat.zero_le _, by simp⟩ (fun i hi => ?_)
   ·exact lesA
   conv=>arg 4;cbv
   repeat' first
    | (refine Sat.cmp (fun h => ?_) (fun h => ?_) <;> simp only [Cmp.holds] at h <;> (conv=>arg 4;cbv))
    | (refine Sat.may (fun h => ?_) ?_ <;> (conv=>arg 4;cbv))
    | (refine Sat.need ndA ?_; conv=>arg 4;cbv)
    | (refine Sat.idxk (by assumption) ?_; conv=>arg 4;cbv) | (refine Sat.idx ndA (fun v_ hv_ => ?_); conv=>arg 4;cbv)
    | (refine Sat.ari64 ndA ndA ?_; conv=>arg 4;cbv)
    | (refine Sat.pop ?_; conv=>arg 4;cbv)
    | refine Sat.next (i + 1) ?_ ?_ (by (try dsimp only); exact arA)
   all_goals try rw [hres] at he
   all_goals try first
    | (exact lesA; done)
    | exact ⟨by exact arA, take_lt (i := i) hi.2 (by assumption) (by assumption)⟩
    | exact ⟨by exact arA, take_lt (i := i) hi.2 (get_nat (by assumption)) (by assumption)⟩
   all_goals repeat' first
    | (refine Sat.need ⟨fun y _ => flat_GSession y, (by (try dsimp only); (try simp only [List.length_append, List.length_take, List.length_drop, List.length_cons, List.length_nil]); exact arA)⟩ ?_; conv=>arg 4;cbv)
    | (refine Sat.need ⟨rfl, rfl, rfl, (by (try dsimp only); (try simp only [List.length_append, List.length_take, List.length_drop, List.length_cons, List.length_nil]); exact arA)⟩ ?_; conv=>arg 4;cbv)
    | (refine Sat.need ⟨rfl, fun y _ => flat_GSession y, (by (try dsimp only); (try simp only [List.length_append, List.length_take, List.length_drop, List.length_cons, List.length_nil]); exact arA)⟩ ?_; conv=>arg 4;cbv)
    | (refine Sat.typed (⟨o.Client, o.Seq, ⟨true, v⟩⟩ : GSession) tcA ?_; conv=>arg 4;cbv)
    | (refine Sat.same ?_; conv=>arg 4;cbv)
    | (refine Sat.may (fun h => ?_) ?_ <;> (conv=>arg 4;cbv))
    | (refine Sat.need ndA ?_; conv=>arg 4;cbv)
    | (refine Sat.ari64 ndA ndA ?_; conv=>arg 4;cbv)
    | refine Sat.done ?_
   all_goals have hk : kOf m.Sessions o.Client = i := kOf_eq hi.2 (by first | exact .inr ⟨_, get_nat (by assumption), by assumption⟩ | exact .inl (by exact arA))
   all_goals have hS : (newO m o).Sessions = m.Sessions.take i ++ ⟨o.Client, o.Seq, ⟨true, v⟩⟩ :: m.Sessions.drop i := by rw [newO, addS, hk, hsB, hres]; rfl
   all_goals have hO : (newO m o).Objects = m.Objects.set o.Object.toNat o.Value := by rw [newO, hres]; rfl
   all_goals rw [he]
   all_goals refine .tup rfl (led_cons (.agg rfl (led_cons (.sl ?_) (led_cons (.sl ?_) led_nil))) (led_cons (.same _) (led_cons (.same _) led_nil)))
   all_goals first
    | (rw [hO]; simp [setAt]; done)
    | exact (ap3 (j := i) hi.1).trans hS.symm
  conv=>arg 4;cbv
  refine Sat.cmp (fun h8 => ?_) (fun h8 => ?_) <;> simp only [Cmp.holds] at h8
  ·have hres : resO m o = ⟨true, v⟩ := by rw [resO, hgd, h8]; simp
   conv=>arg 4;cbv
   repeat' first | (refine Sat.need ndA ?_; conv=>arg 4;cbv) | (refine Sat.idxk (by assumption) ?_; conv=>arg 4;cbv) | (refine Sat.idx ndA (fun v_ hv_ => ?_); conv=>arg 4;cbv) | (refine Sat.typed o.Value tcA ?_; conv=>arg 4;cbv)
   refine Sat.loopP (ι := Nat) (fun i => [(12, .int .i64 (fun _ => (i : Int)))]) (fun i => []) (fun i => i ≤ m.Sessions.length ∧ ∀ x ∈ m.Sessions.take i, x.Client < o.Client) (fun i => m.Sessions.length - i) 0 ?_ ⟨Nat.zero_le _, by simp⟩ (fun i hi => ?_)
   ·exact lesA
   conv=>arg 4;cbv
   repeat' first
    | (refine Sat.cmp (fun h => ?_) (fun h => ?_) <;> simp only [Cmp.holds] at h <;> (conv=>arg 4;cbv))
    | (refine Sat.may (fun h => ?_) ?_ <;> (conv=>arg 4;cbv))
    | (refine Sat.need ndA ?_; conv=>arg 4;cbv)
    | (refine Sat.idxk (by assumption) ?_; conv=>arg 4;cbv) | (refine Sat.idx ndA (fun v_ hv_ => ?_); conv=>arg 4;cbv)
    | (refine Sat.ari64 ndA ndA ?_; conv=>arg 4;cbv)
    | (refine Sat.pop ?_; conv=>arg 4;cbv)
    | refine Sat.next (i + 1) ?_ ?_ (by (try dsimp only); exact arA)
   all_goals try rw [hres] at he
   all_goals try first
    | (exact lesA; done)
    | exact ⟨by exact arA, take_lt (i := i) hi.2 (by assumption) (by assumption)⟩
    | exact ⟨by exact arA, take_lt (i := i) hi.2 (get_nat (by assumption)) (by assumption)⟩
   all_goals repeat' first
    | (refine Sat.need ⟨fun y _ => flat_GSession y, (by (try dsimp only); (try simp only [List.length_append, List.length_take, List.length_drop, List.length_cons, List.length_nil]); exact arA)⟩ ?_; conv=>arg 4;cbv)
    | (refine Sat.need ⟨rfl, rfl, rfl, (by (try dsimp only); (try simp only [List.length_append, List.length_take, List.length_drop, List.length_cons, List.length_nil]); exact arA)⟩ ?_; conv=>arg 4;cbv)
    | (refine Sat.need ⟨rfl, fun y _ => flat_GSession y, (by (try dsimp only); (try simp only [List.length_append, List.length_take, List.length_drop, List.length_cons, List.length_nil]); exact arA)⟩ ?_; conv=>arg 4;cbv)
    | (refine Sat.typed (⟨o.Client, o.Seq, ⟨true, v⟩⟩ : GSession) tcA ?_; conv=>arg 4;cbv)
    | (refine Sat.same ?_; conv=>arg 4;cbv)
    | (refine Sat.may (fun h => ?_) ?_ <;> (conv=>arg 4;cbv))
    | (refine Sat.need ndA ?_; conv=>arg 4;cbv)
    | (refine Sat.ari64 ndA ndA ?_; conv=>arg 4;cbv)
    | refine Sat.done ?_
   all_goals have hk : kOf m.Sessions o.Client = i := kOf_eq hi.2 (by first | exact .inr ⟨_, get_nat (by assumption), by assumption⟩ | exact .inl (by exact arA))
   all_goals have hS : (newO m o).Sessions = m.Sessions.take i ++ ⟨o.Client, o.Seq, ⟨true, v⟩⟩ :: m.Sessions.drop i := by rw [newO, addS, hk, hsB, hres]; rfl
   all_goals have hO : (newO m o).Objects = m.Objects.set o.Object.toNat o.Value := by rw [newO, hres]; rfl
   all_goals rw [he]
   all_goals refine .tup rfl (led_cons (.agg rfl (led_cons (.sl ?_) (led_cons (.sl ?_) led_nil))) (led_cons (.same _) (led_cons (.same _) led_nil)))
   all_goals first
    | (rw [hO]; simp [setAt]; done)
    | exact (ap3 (j := i) hi.1).trans hS.symm
  ·have hres : resO m o = ⟨false, v⟩ := by rw [resO, hgd, decide_eq_false h7, decide_eq_false h8]; rfl
   conv=>arg 4;cbv
   refine Sat.loopP (ι := Nat) (fun i => [(12, .int .i64 (fun _ => (i : Int)))]) (fun i => []) (fun i => i ≤ m.Sessions.length ∧ ∀ x ∈ m.Sessions.take i, x.Client < o.Client) (fun i => m.Sessions.length - i) 0 ?_ ⟨Nat.zero_le _, by simp⟩ (fun i hi => ?_)
   ·exact lesA
   conv=>arg 4;cbv
   repeat' first
    | (refine Sat.cmp (fun h => ?_) (fun h => ?_) <;> simp only [Cmp.holds] at h <;> (conv=>arg 4;cbv))
    | (refine Sat.may (fun h => ?_) ?_ <;> (conv=>arg 4;cbv))
    | (refine Sat.need ndA ?_; conv=>arg 4;cbv)
    | (refine Sat.idxk (by assumption) ?_; conv=>arg 4;cbv) | (refine Sat.idx ndA (fun v_ hv_ => ?_); conv=>arg 4;cbv)
    | (refine Sat.ari64 ndA ndA ?_; conv=>arg 4;cbv)
    | (refine Sat.pop ?_; conv=>arg 4;cbv)
    | refine Sat.next (i + 1) ?_ ?_ (by (try dsimp only); exact arA)
   all_goals try rw [hres] at he
   all_goals try first
    | (exact lesA; done)
    | exact ⟨by exact arA, take_lt (i := i) hi.2 (by assumption) (by assumption)⟩
    | exact ⟨by exact arA, take_lt (i := i) hi.2 (get_nat (by assumption)) (by assumption)⟩
   all_goals repeat' first
    | (refine Sat.need ⟨fun y _ => flat_GSession y, (by (try dsimp only); (try simp only [List.length_append, List.length_take, List.length_drop, List.length_cons, List.length_nil]); exact arA)⟩ ?_; conv=>arg 4;cbv)
    | (refine Sat.need ⟨rfl, rfl, rfl, (by (try dsimp only); (try simp only [List.length_append, List.length_take, List.length_drop, List.length_cons, List.length_nil]); exact arA)⟩ ?_; conv=>arg 4;cbv)
    | (refine Sat.need ⟨rfl, fun y _ => flat_GSession y, (by (try dsimp only); (try simp only [List.length_append, List.length_take, List.length_drop, List.length_cons, List.length_nil]); exact arA)⟩ ?_; conv=>arg 4;cbv)
    | (refine Sat.typed (⟨o.Client, o.Seq, ⟨false, v⟩⟩ : GSession) tcA ?_; conv=>arg 4;cbv)
    | (refine Sat.same ?_; conv=>arg 4;cbv)
    | (refine Sat.may (fun h => ?_) ?_ <;> (conv=>arg 4;cbv))
    | (refine Sat.need ndA ?_; conv=>arg 4;cbv)
    | (refine Sat.ari64 ndA ndA ?_; conv=>arg 4;cbv)
    | refine Sat.done ?_
   all_goals have hk : kOf m.Sessions o.Client = i := kOf_eq hi.2 (by first | exact .inr ⟨_, get_nat (by assumption), by assumption⟩ | exact .inl (by exact arA))
   all_goals have hS : (newO m o).Sessions = m.Sessions.take i ++ ⟨o.Client, o.Seq, ⟨false, v⟩⟩ :: m.Sessions.drop i := by rw [newO, addS, hk, hsB, hres]; rfl
   all_goals have hO : (newO m o).Objects = m.Objects := by rw [newO, hres]; rfl
   all_goals rw [he]
   all_goals refine .tup rfl (led_cons (.agg rfl (led_cons (.sl ?_) (led_cons (.sl ?_) led_nil))) (led_cons (.same _) (led_cons (.same _) led_nil)))
   all_goals first
    | (rw [hO]; simp [setAt]; done)
    | exact (ap3 (j := i) hi.1).trans hS.symm
 ·obtain ⟨xs, hxs, hxc, _⟩ := sesF_in hsB
  refine Sat.call WS rfl ledA ?_
  conv=>arg 4;cbv
  refine Sat.cmp (fun h5 => ?_) (fun h5 => ?_) <;> simp only [Cmp.holds] at h5
  ·have he : aplO m o = (m, ⟨sd, sv⟩, true) := by rw [aplO, if_pos ⟨hA, hB⟩, hs, if_pos ⟨rfl, h5⟩]
   conv=>arg 4;cbv
   repeat' first | (refine Sat.may (fun h => ?_) ?_ <;> (conv=>arg 4;cbv)) | refine Sat.done ?_
   all_goals rw [he]
   all_goals exact ledA
  conv=>arg 4;cbv
  refine Sat.cmp (fun h6 => ?_) (fun h6 => ?_) <;> simp only [Cmp.holds] at h6
  ·have he : aplO m o = (m, ⟨false, 0⟩, false) := by rw [aplO, if_pos ⟨hA, hB⟩, hs, if_neg (fun q => h5 q.2), if_pos ⟨rfl, h6⟩]
   conv=>arg 4;cbv
   refine Sat.done ?_
   rw [he]
   exact ledA
  conv=>arg 4;cbv
  have he : aplO m o = (newO m o, resO m o, true) := by rw [aplO, if_pos ⟨hA, hB⟩, hs, if_neg (fun q => h5 q.2), if_neg (fun q => h6 q.2)]
  refine Sat.need (by (try dsimp only); exact arA) ?_
  conv=>arg 4;cbv
  refine Sat.idx (by (try dsimp only); exact arA) (fun v2 hv3 => ?_)
  obtain rfl : v = v2 := Option.some.inj (Eq.trans (Eq.symm hv2) (by simpa using hv3))
  conv=>arg 4;cbv
  refine Sat.cmp (fun h7 => ?_) (fun h7 => ?_) <;> simp only [Cmp.holds] at h7
  ·have hres : resO m o = ⟨true, v⟩ := by rw [resO, hgd, h7]; rfl
   conv=>arg 4;cbv
   repeat' first | (refine Sat.need ndA ?_; conv=>arg 4;cbv) | (refine Sat.idxk (by assumption) ?_; conv=>arg 4;cbv) | (refine Sat.idx ndA (fun v_ hv_ => ?_); conv=>arg 4;cbv) | (refine Sat.typed o.Value tcA ?_; conv=>arg 4;cbv)
   refine Sat.loopP (ι := Nat) (fun i => [(12, .int .i64 (fun _ => (i : Int)))]) (fun i => []) (fun i => i ≤ m.Sessions.length ∧ ∀ x ∈ m.Sessions.take i, x.Client < o.Client) (fun i => m.Sessions.length - i) 0 ?_ ⟨Nat.zero_le _, by simp⟩ (fun i hi => ?_)
   ·exact lesA
   conv=>arg 4;cbv
   repeat' first
    | (refine Sat.cmp (fun h => ?_) (fun h => ?_) <;> simp only [Cmp.holds] at h <;> (conv=>arg 4;cbv))
    | (refine Sat.may (fun h => ?_) ?_ <;> (conv=>arg 4;cbv))
    | (refine Sat.need ndA ?_; conv=>arg 4;cbv)
    | (refine Sat.idxk (by assumption) ?_; conv=>arg 4;cbv) | (refine Sat.idx ndA (fun v_ hv_ => ?_); conv=>arg 4;cbv)
    | (refine Sat.ari64 ndA ndA ?_; conv=>arg 4;cbv)
    | (refine Sat.pop ?_; conv=>arg 4;cbv)
    | refine Sat.next (i + 1) ?_ ?_ (by (try dsimp only); exact arA)
   all_goals try rw [hres] at he
   all_goals try first
    | (exact lesA; done)
    | exact ⟨by exact arA, take_lt (i := i) hi.2 (by assumption) (by assumption)⟩
    | exact ⟨by exact arA, take_lt (i := i) hi.2 (get_nat (by assumption)) (by assumption)⟩
   all_goals have hil : i < m.Sessions.length := had_lt hi.2 hxs hxc
   all_goals repeat' first
    | (refine Sat.need ⟨fun y _ => flat_GSession y, (by (try dsimp only); (try simp only [List.length_append, List.length_take, List.length_drop, List.length_cons, List.length_nil]); exact arA)⟩ ?_; conv=>arg 4;cbv)
    | (refine Sat.need ⟨rfl, rfl, rfl, (by (try dsimp only); (try simp only [List.length_append, List.length_take, List.length_drop, List.length_cons, List.length_nil]); exact arA)⟩ ?_; conv=>arg 4;cbv)
    | (refine Sat.need ⟨rfl, fun y _ => flat_GSession y, (by (try dsimp only); (try simp only [List.length_append, List.length_take, List.length_drop, List.length_cons, List.length_nil]); exact arA)⟩ ?_; conv=>arg 4;cbv)
    | (refine Sat.typed (⟨o.Client, o.Seq, ⟨true, v⟩⟩ : GSession) tcA ?_; conv=>arg 4;cbv)
    | (refine Sat.same ?_; conv=>arg 4;cbv)
    | (refine Sat.may (fun h => ?_) ?_ <;> (conv=>arg 4;cbv))
    | (refine Sat.need ndA ?_; conv=>arg 4;cbv)
    | (refine Sat.ari64 ndA ndA ?_; conv=>arg 4;cbv)
    | refine Sat.done ?_
   all_goals have hk : kOf m.Sessions o.Client = i := kOf_eq hi.2 (by first | exact .inr ⟨_, get_nat (by assumption), by assumption⟩ | exact .inl (by exact arA))
   all_goals have hS : (newO m o).Sessions = m.Sessions.take i ++ ⟨o.Client, o.Seq, ⟨true, v⟩⟩ :: m.Sessions.drop (i + 1) := by rw [newO, addS, hk, hsB, hres]; rfl
   all_goals have hO : (newO m o).Objects = m.Objects.set o.Object.toNat o.Value := by rw [newO, hres]; rfl
   all_goals rw [he]
   all_goals refine .tup rfl (led_cons (.agg rfl (led_cons (.sl ?_) (led_cons (.sl ?_) led_nil))) (led_cons (.same _) (led_cons (.same _) led_nil)))
   all_goals first
    | (rw [hO]; simp [setAt]; done)
    | exact (ap3 (j := (i + 1)) hi.1).trans hS.symm
  conv=>arg 4;cbv
  refine Sat.cmp (fun h8 => ?_) (fun h8 => ?_) <;> simp only [Cmp.holds] at h8
  ·have hres : resO m o = ⟨true, v⟩ := by rw [resO, hgd, h8]; simp
   conv=>arg 4;cbv
   repeat' first | (refine Sat.need ndA ?_; conv=>arg 4;cbv) | (refine Sat.idxk (by assumption) ?_; conv=>arg 4;cbv) | (refine Sat.idx ndA (fun v_ hv_ => ?_); conv=>arg 4;cbv) | (refine Sat.typed o.Value tcA ?_; conv=>arg 4;cbv)
   refine Sat.loopP (ι := Nat) (fun i => [(12, .int .i64 (fun _ => (i : Int)))]) (fun i => []) (fun i => i ≤ m.Sessions.length ∧ ∀ x ∈ m.Sessions.take i, x.Client < o.Client) (fun i => m.Sessions.length - i) 0 ?_ ⟨Nat.zero_le _, by simp⟩ (fun i hi => ?_)
   ·exact lesA
   conv=>arg 4;cbv
   repeat' first
    | (refine Sat.cmp (fun h => ?_) (fun h => ?_) <;> simp only [Cmp.holds] at h <;> (conv=>arg 4;cbv))
    | (refine Sat.may (fun h => ?_) ?_ <;> (conv=>arg 4;cbv))
    | (refine Sat.need ndA ?_; conv=>arg 4;cbv)
    | (refine Sat.idxk (by assumption) ?_; conv=>arg 4;cbv) | (refine Sat.idx ndA (fun v_ hv_ => ?_); conv=>arg 4;cbv)
    | (refine Sat.ari64 ndA ndA ?_; conv=>arg 4;cbv)
    | (refine Sat.pop ?_; conv=>arg 4;cbv)
    | refine Sat.next (i + 1) ?_ ?_ (by (try dsimp only); exact arA)
   all_goals try rw [hres] at he
   all_goals try first
    | (exact lesA; done)
    | exact ⟨by exact arA, take_lt (i := i) hi.2 (by assumption) (by assumption)⟩
    | exact ⟨by exact arA, take_lt (i := i) hi.2 (get_nat (by assumption)) (by assumption)⟩
   all_goals have hil : i < m.Sessions.length := had_lt hi.2 hxs hxc
   all_goals repeat' first
    | (refine Sat.need ⟨fun y _ => flat_GSession y, (by (try dsimp only); (try simp only [List.length_append, List.length_take, List.length_drop, List.length_cons, List.length_nil]); exact arA)⟩ ?_; conv=>arg 4;cbv)
    | (refine Sat.need ⟨rfl, rfl, rfl, (by (try dsimp only); (try simp only [List.length_append, List.length_take, List.length_drop, List.length_cons, List.length_nil]); exact arA)⟩ ?_; conv=>arg 4;cbv)
    | (refine Sat.need ⟨rfl, fun y _ => flat_GSession y, (by (try dsimp only); (try simp only [List.length_append, List.length_take, List.length_drop, List.length_cons, List.length_nil]); exact arA)⟩ ?_; conv=>arg 4;cbv)
    | (refine Sat.typed (⟨o.Client, o.Seq, ⟨true, v⟩⟩ : GSession) tcA ?_; conv=>arg 4;cbv)
    | (refine Sat.same ?_; conv=>arg 4;cbv)
    | (refine Sat.may (fun h => ?_) ?_ <;> (conv=>arg 4;cbv))
    | (refine Sat.need ndA ?_; conv=>arg 4;cbv)
    | (refine Sat.ari64 ndA ndA ?_; conv=>arg 4;cbv)
    | refine Sat.done ?_
   all_goals have hk : kOf m.Sessions o.Client = i := kOf_eq hi.2 (by first | exact .inr ⟨_, get_nat (by assumption), by assumption⟩ | exact .inl (by exact arA))
   all_goals have hS : (newO m o).Sessions = m.Sessions.take i ++ ⟨o.Client, o.Seq, ⟨true, v⟩⟩ :: m.Sessions.drop (i + 1) := by rw [newO, addS, hk, hsB, hres]; rfl
   all_goals have hO : (newO m o).Objects = m.Objects.set o.Object.toNat o.Value := by rw [newO, hres]; rfl
   all_goals rw [he]
   all_goals refine .tup rfl (led_cons (.agg rfl (led_cons (.sl ?_) (led_cons (.sl ?_) led_nil))) (led_cons (.same _) (led_cons (.same _) led_nil)))
   all_goals first
    | (rw [hO]; simp [setAt]; done)
    | exact (ap3 (j := (i + 1)) hi.1).trans hS.symm
  ·have hres : resO m o = ⟨false, v⟩ := by rw [resO, hgd, decide_eq_false h7, decide_eq_false h8]; rfl
   conv=>arg 4;cbv
   refine Sat.loopP (ι := Nat) (fun i => [(12, .int .i64 (fun _ => (i : Int)))]) (fun i => []) (fun i => i ≤ m.Sessions.length ∧ ∀ x ∈ m.Sessions.take i, x.Client < o.Client) (fun i => m.Sessions.length - i) 0 ?_ ⟨Nat.zero_le _, by simp⟩ (fun i hi => ?_)
   ·exact lesA
   conv=>arg 4;cbv
   repeat' first
    | (refine Sat.cmp (fun h => ?_) (fun h => ?_) <;> simp only [Cmp.holds] at h <;> (conv=>arg 4;cbv))
    | (refine Sat.may (fun h => ?_) ?_ <;> (conv=>arg 4;cbv))
    | (refine Sat.need ndA ?_; conv=>arg 4;cbv)
    | (refine Sat.idxk (by assumption) ?_; conv=>arg 4;cbv) | (refine Sat.idx ndA (fun v_ hv_ => ?_); conv=>arg 4;cbv)
    | (refine Sat.ari64 ndA ndA ?_; conv=>arg 4;cbv)
    | (refine Sat.pop ?_; conv=>arg 4;cbv)
    | refine Sat.next (i + 1) ?_ ?_ (by (try dsimp only); exact arA)
   all_goals try rw [hres] at he
   all_goals try first
    | (exact lesA; done)
    | exact ⟨by exact arA, take_lt (i := i) hi.2 (by assumption) (by assumption)⟩
    | exact ⟨by exact arA, take_lt (i := i) hi.2 (get_nat (by assumption)) (by assumption)⟩
   all_goals have hil : i < m.Sessions.length := had_lt hi.2 hxs hxc
   all_goals repeat' first
    | (refine Sat.need ⟨fun y _ => flat_GSession y, (by (try dsimp only); (try simp only [List.length_append, List.length_take, List.length_drop, List.length_cons, List.length_nil]); exact arA)⟩ ?_; conv=>arg 4;cbv)
    | (refine Sat.need ⟨rfl, rfl, rfl, (by (try dsimp only); (try simp only [List.length_append, List.length_take, List.length_drop, List.length_cons, List.length_nil]); exact arA)⟩ ?_; conv=>arg 4;cbv)
    | (refine Sat.need ⟨rfl, fun y _ => flat_GSession y, (by (try dsimp only); (try simp only [List.length_append, List.length_take, List.length_drop, List.length_cons, List.length_nil]); exact arA)⟩ ?_; conv=>arg 4;cbv)
    | (refine Sat.typed (⟨o.Client, o.Seq, ⟨false, v⟩⟩ : GSession) tcA ?_; conv=>arg 4;cbv)
    | (refine Sat.same ?_; conv=>arg 4;cbv)
    | (refine Sat.may (fun h => ?_) ?_ <;> (conv=>arg 4;cbv))
    | (refine Sat.need ndA ?_; conv=>arg 4;cbv)
    | (refine Sat.ari64 ndA ndA ?_; conv=>arg 4;cbv)
    | refine Sat.done ?_
   all_goals have hk : kOf m.Sessions o.Client = i := kOf_eq hi.2 (by first | exact .inr ⟨_, get_nat (by assumption), by assumption⟩ | exact .inl (by exact arA))
   all_goals have hS : (newO m o).Sessions = m.Sessions.take i ++ ⟨o.Client, o.Seq, ⟨false, v⟩⟩ :: m.Sessions.drop (i + 1) := by rw [newO, addS, hk, hsB, hres]; rfl
   all_goals have hO : (newO m o).Objects = m.Objects := by rw [newO, hres]; rfl
   all_goals rw [he]
   all_goals refine .tup rfl (led_cons (.agg rfl (led_cons (.sl ?_) (led_cons (.sl ?_) led_nil))) (led_cons (.same _) (led_cons (.same _) led_nil)))
   all_goals first
    | (rw [hO]; simp [setAt]; done)
    | exact (ap3 (j := (i + 1)) hi.1).trans hS.symm
theorem w_spec_DrawFormatOp (code : List Int) (hc : code.length ≤ 1048576) : FnP Pr n_spec_DrawFormatOp [.sl 1 (encI .u8) (fun _ => code)] [] (fun ret outs => outs = [] ∧ ∃ o : GOp, ret = aGOp o) := by
 refine k_spec_DrawFormatOp.fnq (by kernel_rfl) ?_
 conv=>arg 4;cbv
 refine Sat.newv (w_spec_l1New code hc) (fun cs hcs => ?_)
 obtain ⟨i, h, hi, rfl⟩ := hcs
 conv=>arg 4;cbv
 refine Sat.draw (w_spec_l3Any code hc) hi (fun ret ia ha hia hR => ?_)
 obtain ⟨o, rfl⟩ := hR
 conv=>arg 4;cbv
 exact Sat.done ⟨aGOp o, ⟨rfl, o, rfl⟩, .same _⟩
theorem w_spec_DrawFormatLog (code : List Int) (hc : code.length ≤ 1048576) : FnP Pr n_spec_DrawFormatLog [.sl 1 (encI .u8) (fun _ => code)] [] (fun ret outs => outs = [] ∧ ∃ l : List GEntry, ret = .sl 7 eGEntry (fun _ => l) ∧ l.length ≤ 17) := by
 refine k_spec_DrawFormatLog.fnq (by kernel_rfl) ?_
 conv=>arg 4;cbv
 refine Sat.newv (w_spec_l1New code hc) (fun cs hcs => ?_)
 obtain ⟨i, h, hi, rfl⟩ := hcs
 conv=>arg 4;cbv
 refine Sat.draw (w_spec_l5Any code hc) hi (fun ret ia ha hia hR => ?_)
 obtain ⟨l, rfl, hl⟩ := hR
 conv=>arg 4;cbv
 exact Sat.done ⟨.sl 7 eGEntry (fun _ => l), ⟨rfl, l, rfl, hl⟩, .sl (by simp)⟩
theorem w_spec_DrawFormatConfig (code : List Int) (hc : code.length ≤ 1048576) : FnP Pr n_spec_DrawFormatConfig [.sl 1 (encI .u8) (fun _ => code)] [] (fun ret outs => outs = [] ∧ ∃ c : GConfig, ret = aGConfig c ∧ c.Replicas.length ≤ 6 ∧ c.Witnesses.length ≤ 6) := by
 refine k_spec_DrawFormatConfig.fnq (by kernel_rfl) ?_
 conv=>arg 4;cbv
 refine Sat.newv (w_spec_l1New code hc) (fun cs hcs => ?_)
 obtain ⟨i, h, hi, rfl⟩ := hcs
 conv=>arg 4;cbv
 refine Sat.draw (w_spec_l8Any code hc) hi (fun ret ia ha hia hR => ?_)
 obtain ⟨c, rfl, h1, h2⟩ := hR
 conv=>arg 4;cbv
 exact Sat.done ⟨aGConfig c, ⟨rfl, c, rfl, h1, h2⟩, .agg rfl (led_cons (.same _) (led_cons (.same _) (led_cons (.sl (tkdr _)) (led_cons (.sl (tkdr _)) led_nil))))⟩
def isMc (k : Nat) : AV → Prop := fun r => ∃ m : GMachine, r = aGMachine m ∧ m.Objects.length = 3 ∧ m.Sessions.length ≤ k
theorem addS_len (l : List GSession) (had : Bool) (s : GSession) : (addS l had s).length ≤ l.length + 1 := by
 rw [addS, List.length_append, List.length_cons, List.length_take, List.length_drop]
 split <;> omega
theorem aplO_len (m : GMachine) (o : GOp) : (aplO m o).1.Objects.length = m.Objects.length ∧ (aplO m o).1.Sessions.length ≤ m.Sessions.length + 1 := by
 unfold aplO
 split
 ·split
  ·exact ⟨rfl, Nat.le_succ _⟩
  ·split
   ·exact ⟨rfl, Nat.le_succ _⟩
   ·refine ⟨?_, addS_len _ _ _⟩
    show (if (resO m o).Done = true then m.Objects.set o.Object.toNat o.Value else m.Objects).length = _
    split
    ·exact List.length_set
    ·rfl
 ·exact ⟨rfl, Nat.le_succ _⟩
theorem w_spec_l4Machine (code : List Int) (hc : code.length ≤ 1048576) (i h : Int) (hi : 0 ≤ i ∧ i ≤ (code.length : Int)) : FnP Pr n_spec_l4Machine [.ptr 0 0] [curA code i h] (Dr code (isMc 5)) := by
 refine k_spec_l4Machine.fnp (by kernel_rfl) ?_
 conv=>arg 4;cbv
 refine Sat.call w_spec_NewMachine rfl ledA ?_
 conv=>arg 4;cbv
 refine Sat.draw (w_spec_l1Below code hc 6) hi (fun ret ia ha hia hR => ?_)
 obtain ⟨n, rfl, n0, n1⟩ := hR
 conv=>arg 4;cbv
 refine Sat.loopP (ι := GMachine × Int × Int × Int) (fun p => [(4, .int .i64 (fun _ => p.2.1))]) (fun p => [(0, .lit 99 [.sl 1 (encI .u8) (fun _ => code), .int .i64 (fun _ => p.2.2.1), .int .i64 (fun _ => p.2.2.2)]), (33, .lit 0 [.ref 17 (fun _ => 0) (fun _ => p.1.Objects.length), .ref 18 (fun _ => 0) (fun _ => p.1.Sessions.length)]), (17, .row 1 (encI .i64) (fun _ => p.1.Objects) false), (18, .row 4 eGSession (fun _ => p.1.Sessions) false)]) (fun p => (p.1.Objects.length = 3 ∧ (p.1.Sessions.length : Int) + p.2.1 ≤ 5 ∧ 0 ≤ p.2.1) ∧ 0 ≤ p.2.2.1 ∧ p.2.2.1 ≤ (code.length : Int)) (fun p => p.2.1.toNat) (⟨[0, 0, 0], []⟩, n, ia, ha) ?_ ⟨⟨rfl, by (try dsimp only); (try simp only [List.length_nil]); omega, n0⟩, hia⟩ (fun p hp => ?_)
 ·refine les_of ?_ ?_ rfl
  iterate 2 (focus repeat' (first | exact trivial | refine And.intro ?_ ?_ | exact levA | refine lev_cons ?_ ?_ | refine LeV.agg rfl ?_ | exact Nat.le_of_ble_eq_true rfl | exact Or.inl ⟨_, rfl, .row rfl⟩ | refine Or.inl ⟨_, rfl, .row ?_⟩ | refine Or.inl ⟨_, rfl, .lit rfl ?_⟩ | exact Or.inr ⟨rfl, rfl⟩ | (first | exact .nilref (fun h => nomatch h) rfl rfl rfl | rfl)))
 have hb : bMachine p.1 := ⟨by show p.1.Objects.length * 8 ≤ _; omega, by show p.1.Sessions.length * 32 ≤ _; omega⟩
 conv=>arg 4;cbv
 refine Sat.cmp (fun hn => ?_) (fun hn => ?_) <;> simp only [Cmp.holds] at hn <;> (conv=>arg 4;cbv)
 ·repeat' first
   | (refine Sat.may (fun _ => ?_) ?_ <;> (conv=>arg 4;cbv))
   | (refine Sat.draw (w_spec_l3Op code hc) hp.2 (fun ret ic hd hic hR => ?_); obtain ⟨o, rfl⟩ := hR; have hal := aplO_len p.1 o; conv=>arg 4;cbv)
   | (refine Sat.call (w_spec_ApplyOp p.1 o hb) rfl (led_cons (.agg rfl (led_cons (.sl (tk _)) (led_cons (.sl (tk _)) led_nil))) (led_cons (.same _) led_nil)) ?_; generalize aplO p.1 o = A at *; conv=>arg 4;cbv)
   | (refine Sat.ari64 ndA ndA ?_; conv=>arg 4;cbv)
  all_goals refine Sat.nextR2 197 17 198 18 (A.1, p.2.1 - 1, ic, hd) rfl rfl rfl rfl rfl rfl rfl rfl ?_ ⟨⟨hal.1.trans hp.1.1, by (try dsimp only); omega, by (try dsimp only); omega⟩, hic⟩ (by (try dsimp only); omega)
  ·exact lesA
  ·exact lesA
 ·(refine Sat.pop ?_; conv=>arg 4;cbv)
  exact Sat.done (dr_end (ret := aGMachine p.1) ⟨_, rfl, hp.1.1, by omega⟩ (.agg rfl (led_cons (.sl (tk _)) (led_cons (.sl (tk _)) led_nil))) hp.2 rfl)
set_option maxHeartbeats 4000000 in
theorem w_spec_l4Any (code : List Int) (hc : code.length ≤ 1048576) (i h : Int) (hi : 0 ≤ i ∧ i ≤ (code.length : Int)) : FnP Pr n_spec_l4Any [.ptr 0 0] [curA code i h] (Dr code (fun r => ∃ m : GMachine, r = aGMachine m ∧ m.Objects.length ≤ 3 ∧ m.Sessions.length ≤ 6)) := by
 refine k_spec_l4Any.fnp (by kernel_rfl) ?_
 conv=>arg 4;cbv
 refine Sat.draw (w_spec_l4Machine code hc) hi (fun ret ia ha hia hR => ?_)
 obtain ⟨m, rfl, m1, m2⟩ := hR
 conv=>arg 4;cbv
 refine Sat.draw (w_spec_l1Below code hc 14) hia (fun ret ib hb hib hR => ?_)
 obtain ⟨q, rfl, q0, q1⟩ := hR
 conv=>arg 4;cbv
 repeat' first
  | (refine Sat.cmp (fun h => ?_) (fun h => ?_) <;> simp only [Cmp.holds] at h <;> (conv=>arg 4;cbv))
  | (refine Sat.draw (w_spec_l1Below code hc 3) (by assumption) (fun ret ij hj hij hR => ?_); obtain ⟨u, rfl, u0, u1⟩ := hR; conv=>arg 4;cbv)
  | (refine Sat.draw (w_spec_l1Below code hc 4) (by assumption) (fun ret ik hk hik hR => ?_); obtain ⟨w, rfl, w0, w1⟩ := hR; conv=>arg 4;cbv)
  | (refine Sat.draw (w_spec_l1PickInt code hc [-1, 9, 10] (by decide) (by decide)) (by assumption) (fun ret il hl hil hR => ?_); obtain ⟨v, rfl⟩ := hR; conv=>arg 4;cbv)
  | (refine Sat.draw (w_spec_l1PickInt code hc [0, 10] (by decide) (by decide)) (by assumption) (fun ret il hl hil hR => ?_); obtain ⟨v, rfl⟩ := hR; conv=>arg 4;cbv)
  | (refine Sat.typed (⟨w, u, ⟨false, v⟩⟩ : GSession) tcA ?_; conv=>arg 4;cbv)
  | (refine Sat.typed v tcA ?_; conv=>arg 4;cbv)
  | (refine Sat.may (fun _ => ?_) ?_ <;> (conv=>arg 4;cbv))
  | (refine Sat.need ndA ?_; conv=>arg 4;cbv)
  | (refine Sat.idxk (by assumption) ?_; conv=>arg 4;cbv) | (refine Sat.idx ndA (fun v_ hv_ => ?_); conv=>arg 4;cbv)
  | (refine Sat.ari64 ndA ndA ?_; conv=>arg 4;cbv)
  | (refine Sat.same ?_; conv=>arg 4;cbv)
  | refine Sat.done ?_
 all_goals have hml : m.Objects.length ≤ 3 := by omega
 all_goals have hms : m.Sessions.length ≤ 6 := by omega
 all_goals first
  | exact dr_end (ret := aGMachine m) ⟨_, rfl, hml, hms⟩ (.agg rfl (led_cons (.sl (tk _)) (led_cons (.sl (tk _)) led_nil))) (by assumption) rfl
  | exact dr_end (ret := aGMachine ⟨m.Objects.set u.toNat v, m.Sessions⟩) ⟨_, rfl, by simpa using hml, hms⟩ (.agg rfl (led_cons (.sl (by simp [setAt])) (led_cons (.sl (tk _)) led_nil))) (by assumption) rfl
  | exact dr_end (ret := aGMachine ⟨m.Objects, m.Sessions ++ [⟨w, u, ⟨false, v⟩⟩]⟩) ⟨_, rfl, hml, by simp; omega⟩ (.agg rfl (led_cons (.sl (tk _)) (led_cons (.sl (by simp)) led_nil))) (by assumption) rfl
  | exact dr_end (ret := aGMachine ⟨m.Objects.drop 1, m.Sessions⟩) ⟨_, rfl, by simp; omega, hms⟩ (.agg rfl (led_cons (.sl (by simp)) (led_cons (.sl (tk _)) led_nil))) (by assumption) rfl
  | trace_state
theorem w_spec_DrawFormatMachine (code : List Int) (hc : code.length ≤ 1048576) : FnP Pr n_spec_DrawFormatMachine [.sl 1 (encI .u8) (fun _ => code)] [] (fun ret outs => outs = [] ∧ ∃ m : GMachine, ret = aGMachine m ∧ m.Objects.length ≤ 3 ∧ m.Sessions.length ≤ 6) := by
 refine k_spec_DrawFormatMachine.fnq (by kernel_rfl) ?_
 conv=>arg 4;cbv
 refine Sat.newv (w_spec_l1New code hc) (fun cs hcs => ?_)
 obtain ⟨i, h, hi, rfl⟩ := hcs
 conv=>arg 4;cbv
 refine Sat.draw (w_spec_l4Any code hc) hi (fun ret ia ha hia hR => ?_)
 obtain ⟨m, rfl, m1, m2⟩ := hR
 conv=>arg 4;cbv
 exact Sat.done ⟨aGMachine m, ⟨rfl, m, rfl, m1, m2⟩, .agg rfl (led_cons (.sl (tkdr _)) (led_cons (.sl (tkdr _)) led_nil))⟩
theorem w_slices_Equal_implSessionimplSession (x y : List GSession) (hb : bSessionS x) : Fn Pr n_slices_Equal_implSessionimplSession [.sl 4 eGSession (fun _ => x), .sl 4 eGSession (fun _ => y)] (.bo (decide (x = y))) := by
 refine k_slices_Equal_implSessionimplSession.fn (by kernel_rfl) ?_
 have h0 : x.length * 32 ≤ 140737488351232 := hb
 conv=>arg 4;cbv
 refine Sat.cmp (fun hl => ?_) (fun hl => ?_) <;> simp only [Cmp.holds] at hl <;> (conv=>arg 4;cbv)
 ·refine Sat.loopP (ι := Nat) (fun i => [(13, .int .i64 (fun _ => (i : Int)))]) (fun i => []) (fun i => i ≤ x.length ∧ x.take i = y.take i) (fun i => x.length - i) 0 ?_ ⟨by omega, by simp⟩ (fun i hi => ?_)
  ·exact lesA
  conv=>arg 4;cbv
  repeat' first
   | (refine Sat.cmp (fun h => ?_) (fun h => ?_) <;> simp only [Cmp.holds] at h <;> (conv=>arg 4;cbv))
   | (refine Sat.need ndA ?_; conv=>arg 4;cbv)
   | (refine Sat.idxk (by assumption) ?_; conv=>arg 4;cbv) | (refine Sat.idx ndA (fun v_ hv_ => ?_); conv=>arg 4;cbv)
   | (refine Sat.ari64 ndA ndA ?_; conv=>arg 4;cbv)
   | (refine Sat.pop ?_; conv=>arg 4;cbv)
   | refine Sat.next (i + 1) ?_ ?_ (by (try dsimp only); exact arA)
   | refine Sat.done (led_bo (Eq.symm (decide_eq_false (ne_of_get (by assumption) (by assumption) (fun e => by subst e; first | contradiction | (simp_all; done))))))
   | refine Sat.done ?_
  ·rename_i _ v1 hv1 _
   obtain ⟨c1, s1, ⟨d1, w1⟩⟩ := v1
   obtain ⟨c2, s2, ⟨d2, w2⟩⟩ := v_
   cases d1 <;> cases d2 <;> (conv=>arg 4;cbv)
   repeat' first
    | (refine Sat.cmp (fun h => ?_) (fun h => ?_) <;> simp only [Cmp.holds] at h <;> (conv=>arg 4;cbv))
    | (refine Sat.need ndA ?_; conv=>arg 4;cbv)
    | (refine Sat.idxk (by assumption) ?_; conv=>arg 4;cbv) | (refine Sat.idx ndA (fun v_ hv_ => ?_); conv=>arg 4;cbv)
    | (refine Sat.ari64 ndA ndA ?_; conv=>arg 4;cbv)
    | (refine Sat.pop ?_; conv=>arg 4;cbv)
    | refine Sat.next (i + 1) ?_ ?_ (by (try dsimp only); exact arA)
    | refine Sat.done (led_bo (Eq.symm (decide_eq_false (ne_of_get (by assumption) (by assumption) (fun e => by subst e; first | contradiction | (simp_all; done))))))
    | refine Sat.done ?_
   ·exact lesA
   ·exact ⟨by exact arA, take_ext hv1 hv_ hi.2 (by simp_all)⟩
   ·refine led_bo (Eq.symm (decide_eq_false (ne_of_get hv1 hv_ (fun e => ?_))))
    simp_all
   ·refine led_bo (Eq.symm (decide_eq_false (ne_of_get hv1 hv_ (fun e => ?_))))
    simp_all
   ·refine led_bo (Eq.symm (decide_eq_false (ne_of_get hv1 hv_ (fun e => ?_))))
    simp_all
   ·exact lesA
   ·exact ⟨by exact arA, take_ext hv1 hv_ hi.2 (by simp_all)⟩
   ·refine led_bo (Eq.symm (decide_eq_false (ne_of_get hv1 hv_ (fun e => ?_))))
    simp_all
  ·refine led_bo ?_
   have e1 : i = x.length := by exact arA
   have e2 : x.length = y.length := by exact arA
   have := hi.2
   rw [e1, List.take_length, e2, List.take_length] at this
   simp [this]
 ·refine Sat.done (led_bo ?_)
  have : x ≠ y := fun e => hl (by rw [e])
  simp [this]
theorem w_impl_EqualMachines (x y : GMachine) (hb : bMachine x) (hb' : bMachine y) : Fn Pr n_impl_EqualMachines [aGMachine x, aGMachine y] (.bo (decide (x = y))) := by
 refine k_impl_EqualMachines.fn (by kernel_rfl) ?_
 conv=>arg 4;cbv
 refine Sat.callb (w_slices_Equal_intint x.Objects y.Objects hb.1) rfl ledA (fun h => ?_) (fun h => ?_) <;> (try simp only [decide_eq_true_eq, decide_eq_false_iff_not] at h) <;> (conv=>arg 4;cbv)
 ·refine Sat.callb (w_slices_Equal_implSessionimplSession x.Sessions y.Sessions hb.2) rfl ledA (fun h' => ?_) (fun h' => ?_) <;> (try simp only [decide_eq_true_eq, decide_eq_false_iff_not] at h') <;> (conv=>arg 4;cbv)
  ·refine Sat.done (led_bo (Eq.symm (decide_eq_true ?_)))
   cases x; cases y
   subst h h'
   rfl
  ·exact Sat.done (led_bo (Eq.symm (decide_eq_false (fun e => h' (by rw [e])))))
 ·exact Sat.done (led_bo (Eq.symm (decide_eq_false (fun e => h (by rw [e])))))
theorem pO_mch (o : GOp) : (pO (opT o)).2 = okOp o ∧ (okOp o = true → (pO (opT o)).1 = o) := by
 rw [pO_opT]
 cases okOp o
 ·exact ⟨rfl, fun h => nomatch h⟩
 ·exact ⟨rfl, fun _ => rfl⟩
theorem pLg_mch (l : List GEntry) : (pLg (logT l)).2 = isLog l ∧ (isLog l = true → (pLg (logT l)).1 = l) ∧ (pLg (logT l)).1.length ≤ l.length := by
 rw [pLg_logT]
 cases isLog l
 ·exact ⟨rfl, (fun h => nomatch h), Nat.zero_le _⟩
 ·exact ⟨rfl, fun _ => rfl, Nat.le_refl _⟩
theorem pC_mch (c : GConfig) : (pC (cfgT c)).2 = validC c ∧ (validC c = true → (pC (cfgT c)).1 = c) := by
 rw [pC_cfgT]
 cases validC c
 ·exact ⟨rfl, fun h => nomatch h⟩
 ·exact ⟨rfl, fun _ => rfl⟩
theorem pM_mch (m : GMachine) : (pM (mchT m)).2 = validM m ∧ (validM m = true → (pM (mchT m)).1 = m) := by
 rw [pM_mchT]
 cases validM m
 ·exact ⟨rfl, fun h => nomatch h⟩
 ·exact ⟨rfl, fun _ => rfl⟩
theorem logT_size (l : List GEntry) : (logT l).size ≤ 1000 := by
 unfold logT
 split
 ·rename_i h
  obtain ⟨h1, h2⟩ := isLog_spec h
  split
  ·exact Nat.le_trans (show noneT.size ≤ 4 from Nat.le_refl 4) (by omega)
  ·have := logL_len h2
   show (logL l).length ≤ 1000
   omega
 ·exact Nat.zero_le _
theorem mchT_sz (m : GMachine) : (mchT m).size ≤ 200 := by
 by_cases h : validM m = true
 ·exact mchT_size h
 ·rw [mchT, if_neg h]
  exact Nat.zero_le _
theorem cfgT_sz (c : GConfig) : (cfgT c).size ≤ 100 := by
 by_cases h : validC c = true
 ·rw [cfgT, if_pos h]
  have hp := validC_prim h
  obtain ⟨h1, h2, h3, h4, h5⟩ := validC_spec h
  have s1 := sI_size (n := c.Epoch) (by omega) (by omega)
  have s2 := sI_size (n := c.Primary) (by omega) (by omega)
  have s3 := srvT_size (l := c.Replicas)
  have s4 := srvT_size (l := c.Witnesses)
  simp only [ByteArray.size_append]
  have e : (⟨#[32]⟩ : ByteArray).size = 1 := rfl
  omega
 ·rw [cfgT, if_neg h]
  exact Nat.zero_le _
set_option maxHeartbeats 4000000 in
theorem w_laws_FnOps (code_ : List Int) {G : Prop} (F : (code_.length ≤ maxLen ∧ code_.length * 1 ≤ 140737488351232 ∧ ∀ x ∈ code_, (Lit.int .u8 x).wf = true) ∧ G) : Fn Pr n_laws_FnOps [.sl 1 (encI .u8) (fun _ => code_)] (.bo true) := by
 by_cases hc : (1048576 : Int) < code_.length
 ·have hB := w_laws_big code_ F.1.2.1
  rw [decide_eq_true hc] at hB
  refine k_laws_FnOps.fn (by kernel_rfl) ?_
  conv=>arg 4;cbv
  refine Sat.call hB rfl ledA ?_
  conv=>arg 4;cbv
  exact Sat.done (.same _)
 have hB := w_laws_big code_ F.1.2.1
 rw [decide_eq_false hc] at hB
 refine k_laws_FnOps.fn (by kernel_rfl) ?_
 conv=>arg 4;cbv
 refine Sat.call hB rfl ledA ?_
 conv=>arg 4;cbv
 clear hB F
 refine Sat.rel (w_spec_DrawFormatOp code_ (by omega)) (fun ret outs hR => ?_)
 obtain ⟨rfl, o, rfl⟩ := hR
 conv=>arg 4;cbv
 have f1 := w_impl_FormatOp o
 have f2 := w_spec_FormatOp o
 have f3 := w_impl_ParseOp (opT o) (by have := opT_size o; omega)
 have f4 := w_spec_IsValidOp o
 have f5 := pO_mch o
 generalize opT o = s at f1 f2 f3 f5
 generalize pO s = x at f3 f5
 obtain ⟨x, a⟩ := x
 obtain ⟨f6, f5⟩ := f5
 obtain rfl : a = okOp o := f6
 generalize okOp o = a at f3 f4 f5
 refine Sat.call f1 rfl ledA ?_
 conv=>arg 4;cbv
 refine Sat.call f3 rfl ledA ?_
 conv=>arg 4;cbv
 refine Sat.rel (w_spec_DrawFormatLog code_ (by omega)) (fun ret outs hR => ?_)
 obtain ⟨rfl, l, rfl, hl⟩ := hR
 have lb : bEntryS l := by unfold bEntryS; omega
 conv=>arg 4;cbv
 have g1 := w_impl_FormatLog l lb
 have g2 := w_spec_FormatLog l lb
 have g3 := w_impl_ParseLog (logT l) (by have := logT_size l; omega)
 have g4 := w_spec_IsLog l lb
 have g5 := pLg_mch l
 generalize logT l = t at g1 g2 g3 g5
 generalize pLg t = y at g3 g5
 obtain ⟨y, b⟩ := y
 obtain ⟨g6, g5, g7⟩ := g5
 obtain rfl : b = isLog l := g6
 generalize isLog l = b at g3 g4 g5
 have yb : bEntryS y := by unfold bEntryS; have : y.length ≤ l.length := g7; omega
 have g8 := w_impl_IsPrefix y l yb lb
 refine Sat.call g1 rfl (led_cons (.sl (tkdr _)) led_nil) ?_
 conv=>arg 4;cbv
 refine Sat.call g3 rfl ledA ?_
 conv=>arg 4;cbv
 refine Sat.rel (w_spec_DrawFormatConfig code_ (by omega)) (fun ret outs hR => ?_)
 obtain ⟨rfl, c, rfl, c1, c2⟩ := hR
 have cb : bConfig c := ⟨by unfold bIntS; omega, by unfold bIntS; omega⟩
 conv=>arg 4;cbv
 have p1 := w_impl_FormatConfig c cb
 have p2 := w_spec_FormatConfig c cb
 have p3 := w_impl_ParseConfig (cfgT c) (by have := cfgT_sz c; omega)
 have p4 := w_spec_IsValidConfig c cb
 have p5 := pC_mch c
 generalize cfgT c = u at p1 p2 p3 p5
 generalize pC u = z at p3 p5
 obtain ⟨z, d⟩ := z
 obtain ⟨p6, p5⟩ := p5
 obtain rfl : d = validC c := p6
 generalize validC c = d at p3 p4 p5
 refine Sat.call p1 rfl (led_cons (led_c (.sl (tk _)) (.sl (tk _))) led_nil) ?_
 conv=>arg 4;cbv
 refine Sat.call p3 rfl ledA ?_
 conv=>arg 4;cbv
 refine Sat.rel (w_spec_DrawFormatMachine code_ (by omega)) (fun ret outs hR => ?_)
 obtain ⟨rfl, m, rfl, m1, m2⟩ := hR
 have mb : bMachine m := ⟨by unfold bIntS; omega, by unfold bSessionS; omega⟩
 conv=>arg 4;cbv
 have q1 := w_impl_FormatMachine m mb
 have q2 := w_spec_FormatMachine m mb
 have q3 := w_impl_ParseMachine (mchT m) (by have := mchT_sz m; omega)
 have q4 := w_spec_IsValidMachine m mb
 have q5 := pM_mch m
 generalize mchT m = v at q1 q2 q3 q5
 generalize pM v = w at q3 q5
 obtain ⟨w, e⟩ := w
 obtain ⟨q6, q5⟩ := q5
 obtain rfl : e = validM m := q6
 generalize validM m = e at q3 q4 q5
 refine Sat.call q1 rfl (led_cons (.agg rfl (led_cons (.sl (tk _)) (led_cons (.sl (tk _)) led_nil))) led_nil) ?_
 conv=>arg 4;cbv
 refine Sat.call q3 rfl ledA ?_
 conv=>arg 4;cbv
 have fin : Sat Pr (fun q => LeD q (AV.bo true)) [] (.done (.bo true)) := Sat.done (.same _)
 refine Sat.call f4 rfl ledA ?_
 cases a <;> (conv=>arg 4;cbv)
 all_goals refine Sat.call g4 rfl (led_cons (.sl (tk _)) led_nil) ?_
 all_goals cases b <;> (conv=>arg 4;cbv)
 all_goals refine Sat.call p4 rfl (led_cons (led_c (.sl (tk _)) (.sl (tk _))) led_nil) ?_
 all_goals cases d <;> (conv=>arg 4;cbv)
 all_goals refine Sat.call q4 rfl (led_cons (.agg rfl (led_cons (.sl (tk _)) (led_cons (.sl (tk _)) led_nil))) led_nil) ?_
 all_goals cases e <;> (conv=>arg 4;cbv)
 all_goals try obtain rfl : x = o := f5 rfl
 all_goals try obtain rfl : y = l := g5 rfl
 all_goals try obtain rfl : z = c := p5 rfl
 all_goals try obtain rfl : w = m := q5 rfl
 all_goals try rw [cpre_self, decide_eq_true rfl] at g8
 all_goals try have r1 := w_impl_EqualConfigs z z cb
 all_goals try have r2 := w_impl_EqualMachines w w mb mb
 all_goals try rw [decide_eq_true rfl] at r1
 all_goals try rw [decide_eq_true rfl] at r2
 all_goals repeat' first
  | exact fin
  | (refine Sat.call f2 rfl ledA ?_; conv=>arg 4;cbv)
  | (refine Sat.call g2 rfl (led_cons (.sl (tk _)) led_nil) ?_; conv=>arg 4;cbv)
  | (refine Sat.call p2 rfl (led_cons (led_c (.sl (tk _)) (.sl (tk _))) led_nil) ?_; conv=>arg 4;cbv)
  | (refine Sat.call q2 rfl (led_cons (.agg rfl (led_cons (.sl (tk _)) (led_cons (.sl (tk _)) led_nil))) led_nil) ?_; conv=>arg 4;cbv)
  | (refine Sat.call g8 rfl (led_cons (.sl (tk _)) (led_cons (.sl (tk _)) led_nil)) ?_; conv=>arg 4;cbv)
  | (refine Sat.call r1 rfl (led_cons (led_c (.sl (tk _)) (.sl (tk _))) (led_cons (led_c (.sl (tk _)) (.sl (tk _))) led_nil)) ?_; conv=>arg 4;cbv)
  | (refine Sat.call r2 rfl (led_cons (.agg rfl (led_cons (.sl (tk _)) (led_cons (.sl (tk _)) led_nil))) (led_cons (.agg rfl (led_cons (.sl (tk _)) (led_cons (.sl (tk _)) led_nil))) led_nil)) ?_; conv=>arg 4;cbv)
  | (refine Sat.cmp (fun h => ?_) (fun h => absurd rfl h) <;> (conv=>arg 4;cbv))
  | (refine Sat.test (fun h => ?_) (fun h => absurd (decide_eq_true rfl) (by rw [h]; exact Bool.false_ne_true)) <;> (conv=>arg 4;cbv))
end Go.V.T