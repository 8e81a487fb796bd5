/- Contracts of the functions that FnExactTakeSnapshot reaches: what each returns. Conditions: those that each theorem states. -/
import Derived.Test.YtmgaclkdjlhjmaaDoorWXTakeSnapshot1
namespace Go.V.T
open Go Go.V Go.RowKit
set_option maxRecDepth 100000
set_option linter.unusedVariables false
set_option linter.unusedSimpArgs false
set_option maxHeartbeats 4000000 in
theorem w_impl_ApplyOp (m : GMachine) (o : GOp) (hb : bMachine m) : Fn Pr n_impl_ApplyOp [aGMachine m, aGOp o] (.tup [aGMachine (aplO m o).1, aGResult (aplO m o).2.1, .bo (aplO m o).2.2]) := by
 have h0 : m.Objects.length * 8 ≤ 140737488351232 := hb.1
 have h1 : m.Sessions.length * 32 ≤ 140737488351232 := hb.2
 have WS := w_impl_SessionOf m o.Client hb
 generalize hs : sesF m.Sessions o.Client = sb at WS
 obtain ⟨s, had⟩ := sb
 have hsA : (sesF m.Sessions o.Client).1 = s := congrArg Prod.fst hs
 have hsB : (sesF m.Sessions o.Client).2 = had := congrArg Prod.snd hs
 refine k_impl_ApplyOp.fn (by kernel_rfl) ?_
 conv=>arg 4;cbv
 refine Sat.call (w_impl_machineCopy m hb) rfl ledA ?_
 conv=>arg 4;cbv
 obtain ⟨sc, sq, sd, sv⟩ := s
 cases had
 ·refine Sat.call WS rfl ledA ?_
  conv=>arg 4;cbv
  refine Sat.callb (w_impl_IsValidMachine m hb) rfl ledA (fun hA => ?_) (fun hA => ?_)
  rotate_left
  ·have he : aplO m o = (m, ⟨false, 0⟩, false) := by rw [aplO, if_neg (fun e => by rw [hA] at e; exact Bool.false_ne_true e.1)]
   conv=>arg 4;cbv
   repeat' first
    | (refine Sat.may (fun h => ?_) ?_ <;> (conv=>arg 4;cbv))
    | refine Sat.done ?_
   all_goals rw [he]
   all_goals exact .tup rfl (led_cons (led_mch _ _) (led_cons (.same _) (led_cons (.same _) led_nil)))
  conv=>arg 4;cbv
  refine Sat.callb (w_impl_IsValidOp o) rfl ledA (fun hB => ?_) (fun hB => ?_)
  rotate_left
  ·have he : aplO m o = (m, ⟨false, 0⟩, false) := by rw [aplO, if_neg (fun e => by rw [hB] at e; exact Bool.false_ne_true e.2)]
   conv=>arg 4;cbv
   repeat' first
    | (refine Sat.may (fun h => ?_) ?_ <;> (conv=>arg 4;cbv))
    | refine Sat.done ?_
   all_goals rw [he]
   all_goals exact .tup rfl (led_cons (led_mch _ _) (led_cons (.same _) (led_cons (.same _) led_nil)))
  have hv := validM_spec hA
  have ho := okOp_spec hB
  obtain ⟨v, hv2⟩ : ∃ v, m.Objects[o.Object.toNat]? = some v := ⟨_, List.getElem?_eq_getElem (by omega)⟩
  have hgd : m.Objects.getD o.Object.toNat 0 = v := by rw [List.getD_eq_getElem?_getD, hv2]; rfl
  conv=>arg 4;cbv
  have he : aplO m o = (newO m o, resO m o, true) := by rw [aplO, if_pos ⟨hA, hB⟩, hs, if_neg (fun q => Bool.false_ne_true q.1), if_neg (fun q => Bool.false_ne_true q.1)]
  refine Sat.need (by (try dsimp only); exact arA) ?_
  conv=>arg 4;cbv
  refine Sat.idx (by (try dsimp only); exact arA) (fun v2 hv3 => ?_)
  obtain rfl : v = v2 := Option.some.inj (Eq.trans (Eq.symm hv2) (by simpa using hv3))
  conv=>arg 4;cbv
  refine Sat.cmp (fun h7 => ?_) (fun h7 => ?_) <;> simp only [Cmp.holds] at h7
  ·have hres : resO m o = ⟨true, v⟩ := by rw [resO, hgd, h7]; rfl
   conv=>arg 4;cbv
   repeat' first | (refine Sat.need ndA ?_; conv=>arg 4;cbv) | (refine Sat.idxk (by assumption) ?_; conv=>arg 4;cbv) | (refine Sat.idx ndA (fun v_ hv_ => ?_); conv=>arg 4;cbv) | (refine Sat.typed o.Value tcA ?_; conv=>arg 4;cbv)
   refine Sat.loopP (ι := Nat) (fun i => [(12, .int .i64 (fun _ => (i : Int)))]) (fun i => []) (fun i => i ≤ m.Sessions.length ∧ ∀ x ∈ m.Sessions.take i, x.Client < o.Client) (fun i => m.Sessions.length - i) 0 ?_ ⟨Nat.zero_le _, by simp⟩ (fun i hi => ?_)
   ·exact lesA
   conv=>arg 4;cbv
   repeat' first
    | (refine Sat.cmp (fun h => ?_) (fun h => ?_) <;> simp only [Cmp.holds] at h <;> (conv=>arg 4;cbv))
    | (refine Sat.may (fun h => ?_) ?_ <;> (conv=>arg 4;cbv))
    | (refine Sat.need ndA ?_; conv=>arg 4;cbv)
    | (refine Sat.idxk (by assumption) ?_; conv=>arg 4;cbv) | (refine Sat.idx ndA (fun v_ hv_ => ?_); conv=>arg 4;cbv)
    | (refine Sat.ari64 ndA ndA ?_; conv=>arg 4;cbv)
    | (refine Sat.pop ?_; conv=>arg 4;cbv)
    | refine Sat.next (i + 1) ?_ ?_ (by (try dsimp only); exact arA)
   all_goals try rw [hres] at he
   all_goals try first
    | (exact lesA; done)
    | exact ⟨by exact arA, take_lt (i := i) hi.2 (by assumption) (by assumption)⟩
    | exact ⟨by exact arA, take_lt (i := i) hi.2 (get_nat (by assumption)) (by assumption)⟩
   all_goals repeat' first
    | (refine Sat.need ⟨rfl, rfl, rfl, by exact arA, by exact arA, by exact arA, fun y _ => flatS_GSession y⟩ ?_; conv=>arg 4;cbv)
    | (refine Sat.typed zeroSes tcA ?_; conv=>arg 4;cbv)
    | (refine Sat.ins w_ins ?_; conv=>arg 4;cbv)
    | (refine Sat.need (by (try dsimp only); exact arA) ?_; conv=>arg 4;cbv)
    | (refine Sat.idx (by (try dsimp only); (try simp only [List.length_append, List.length_take, List.length_drop, List.length_cons, List.length_nil]); exact arA) (fun y hy => ?_); conv=>arg 4;cbv)
    | (refine Sat.typed (⟨o.Client, o.Seq, ⟨true, v⟩⟩ : GSession) tcA ?_; conv=>arg 4;cbv)
    | (refine Sat.may (fun h => ?_) ?_ <;> (conv=>arg 4;cbv))
    | (refine Sat.need ndA ?_; conv=>arg 4;cbv)
    | (refine Sat.ari64 ndA ndA ?_; conv=>arg 4;cbv)
    | refine Sat.done ?_
   all_goals have hk : kOf m.Sessions o.Client = i := kOf_eq hi.2 (by first | exact .inr ⟨_, get_nat (by assumption), by assumption⟩ | exact .inl (by exact arA))
   all_goals have hS : (newO m o).Sessions = m.Sessions.take i ++ ⟨o.Client, o.Seq, ⟨true, v⟩⟩ :: m.Sessions.drop i := by rw [newO, addS, hk, hsB, hres]; rfl
   all_goals have hO : (newO m o).Objects = m.Objects.set o.Object.toNat o.Value := by rw [newO, hres]; rfl
   all_goals rw [he]
   all_goals refine .tup rfl (led_cons (.agg rfl (led_cons (.sl ?_) (led_cons (.sl ?_) led_nil))) (led_cons (.same _) (led_cons (.same _) led_nil)))
   all_goals first
    | (rw [hO]; simp [setAt]; done)
    | exact (apI hi.1).trans hS.symm
  conv=>arg 4;cbv
  refine Sat.cmp (fun h8 => ?_) (fun h8 => ?_) <;> simp only [Cmp.holds] at h8
  ·have hres : resO m o = ⟨true, v⟩ := by rw [resO, hgd, h8]; simp
   conv=>arg 4;cbv
   repeat' first | (refine Sat.need ndA ?_; conv=>arg 4;cbv) | (refine Sat.idxk (by assumption) ?_; conv=>arg 4;cbv) | (refine Sat.idx ndA (fun v_ hv_ => ?_); conv=>arg 4;cbv) | (refine Sat.typed o.Value tcA ?_; conv=>arg 4;cbv)
   refine Sat.loopP (ι := Nat) (fun i => [(12, .int .i64 (fun _ => (i : Int)))]) (fun i => []) (fun i => i ≤ m.Sessions.length ∧ ∀ x ∈ m.Sessions.take i, x.Client < o.Client) (fun i => m.Sessions.length - i) 0 ?_ ⟨Nat.zero_le _, by simp⟩ (fun i hi => ?_)
   ·exact lesA
   conv=>arg 4;cbv
   repeat' first
    | (refine Sat.cmp (fun h => ?_) (fun h => ?_) <;> simp only [Cmp.holds] at h <;> (conv=>arg 4;cbv))
    | (refine Sat.may (fun h => ?_) ?_ <;> (conv=>arg 4;cbv))
    | (refine Sat.need ndA ?_; conv=>arg 4;cbv)
    | (refine Sat.idxk (by assumption) ?_; conv=>arg 4;cbv) | (refine Sat.idx ndA (fun v_ hv_ => ?_); conv=>arg 4;cbv)
    | (refine Sat.ari64 ndA ndA ?_; conv=>arg 4;cbv)
    | (refine Sat.pop ?_; conv=>arg 4;cbv)
    | refine Sat.next (i + 1) ?_ ?_ (by (try dsimp only); exact arA)
   all_goals try rw [hres] at he
   all_goals try first
    | (exact lesA; done)
    | exact ⟨by exact arA, take_lt (i := i) hi.2 (by assumption) (by assumption)⟩
    | exact ⟨by exact arA, take_lt (i := i) hi.2 (get_nat (by assumption)) (by assumption)⟩
   all_goals repeat' first
    | (refine Sat.need ⟨rfl, rfl, rfl, by exact arA, by exact arA, by exact arA, fun y _ => flatS_GSession y⟩ ?_; conv=>arg 4;cbv)
    | (refine Sat.typed zeroSes tcA ?_; conv=>arg 4;cbv)
    | (refine Sat.ins w_ins ?_; conv=>arg 4;cbv)
    | (refine Sat.need (by (try dsimp only); exact arA) ?_; conv=>arg 4;cbv)
    | (refine Sat.idx (by (try dsimp only); (try simp only [List.length_append, List.length_take, List.length_drop, List.length_cons, List.length_nil]); exact arA) (fun y hy => ?_); conv=>arg 4;cbv)
    | (refine Sat.typed (⟨o.Client, o.Seq, ⟨true, v⟩⟩ : GSession) tcA ?_; conv=>arg 4;cbv)
    | (refine Sat.may (fun h => ?_) ?_ <;> (conv=>arg 4;cbv))
    | (refine Sat.need ndA ?_; conv=>arg 4;cbv)
    | (refine Sat.ari64 ndA ndA ?_; conv=>arg 4;cbv)
    | refine Sat.done ?_
   all_goals have hk : kOf m.Sessions o.Client = i := kOf_eq hi.2 (by first | exact .inr ⟨_, get_nat (by assumption), by assumption⟩ | exact .inl (by exact arA))
   all_goals have hS : (newO m o).Sessions = m.Sessions.take i ++ ⟨o.Client, o.Seq, ⟨true, v⟩⟩ :: m.Sessions.drop i := by rw [newO, addS, hk, hsB, hres]; rfl
   all_goals have hO : (newO m o).Objects = m.Objects.set o.Object.toNat o.Value := by rw [newO, hres]; rfl
   all_goals rw [he]
   all_goals refine .tup rfl (led_cons (.agg rfl (led_cons (.sl ?_) (led_cons (.sl ?_) led_nil))) (led_cons (.same _) (led_cons (.same _) led_nil)))
   all_goals first
    | (rw [hO]; simp [setAt]; done)
    | exact (apI hi.1).trans hS.symm
  ·have hres : resO m o = ⟨false, v⟩ := by rw [resO, hgd, decide_eq_false h7, decide_eq_false h8]; rfl
   conv=>arg 4;cbv
   refine Sat.loopP (ι := Nat) (fun i => [(12, .int .i64 (fun _ => (i : Int)))]) (fun i => []) (fun i => i ≤ m.Sessions.length ∧ ∀ x ∈ m.Sessions.take i, x.Client < o.Client) (fun i => m.Sessions.length - i) 0 ?_ ⟨Nat.zero_le _, by simp⟩ (fun i hi => ?_)
   ·exact lesA
   conv=>arg 4;cbv
   repeat' first
    | (refine Sat.cmp (fun h => ?_) (fun h => ?_) <;> simp only [Cmp.holds] at h <;> (conv=>arg 4;cbv))
    | (refine Sat.may (fun h => ?_) ?_ <;> (conv=>arg 4;cbv))
    | (refine Sat.need ndA ?_; conv=>arg 4;cbv)
    | (refine Sat.idxk (by assumption) ?_; conv=>arg 4;cbv) | (refine Sat.idx ndA (fun v_ hv_ => ?_); conv=>arg 4;cbv)
    | (refine Sat.ari64 ndA ndA ?_; conv=>arg 4;cbv)
    | (refine Sat.pop ?_; conv=>arg 4;cbv)
    | refine Sat.next (i + 1) ?_ ?_ (by (try dsimp only); exact arA)
   all_goals try rw [hres] at he
   all_goals try first
    | (exact lesA; done)
    | exact ⟨by exact arA, take_lt (i := i) hi.2 (by assumption) (by assumption)⟩
    | exact ⟨by exact arA, take_lt (i := i) hi.2 (get_nat (by assumption)) (by assumption)⟩
   all_goals repeat' first
    | (refine Sat.need ⟨rfl, rfl, rfl, by exact arA, by exact arA, by exact arA, fun y _ => flatS_GSession y⟩ ?_; conv=>arg 4;cbv)
    | (refine Sat.typed zeroSes tcA ?_; conv=>arg 4;cbv)
    | (refine Sat.ins w_ins ?_; conv=>arg 4;cbv)
    | (refine Sat.need (by (try dsimp only); exact arA) ?_; conv=>arg 4;cbv)
    | (refine Sat.idx (by (try dsimp only); (try simp only [List.length_append, List.length_take, List.length_drop, List.length_cons, List.length_nil]); exact arA) (fun y hy => ?_); conv=>arg 4;cbv)
    | (refine Sat.typed (⟨o.Client, o.Seq, ⟨false, v⟩⟩ : GSession) tcA ?_; conv=>arg 4;cbv)
    | (refine Sat.may (fun h => ?_) ?_ <;> (conv=>arg 4;cbv))
    | (refine Sat.need ndA ?_; conv=>arg 4;cbv)
    | (refine Sat.ari64 ndA ndA ?_; conv=>arg 4;cbv)
    | refine Sat.done ?_
   all_goals have hk : kOf m.Sessions o.Client = i := kOf_eq hi.2 (by first | exact .inr ⟨_, get_nat (by assumption), by assumption⟩ | exact .inl (by exact arA))
   all_goals have hS : (newO m o).Sessions = m.Sessions.take i ++ ⟨o.Client, o.Seq, ⟨false, v⟩⟩ :: m.Sessions.drop i := by rw [newO, addS, hk, hsB, hres]; rfl
   all_goals have hO : (newO m o).Objects = m.Objects := by rw [newO, hres]; rfl
   all_goals rw [he]
   all_goals refine .tup rfl (led_cons (.agg rfl (led_cons (.sl ?_) (led_cons (.sl ?_) led_nil))) (led_cons (.same _) (led_cons (.same _) led_nil)))
   all_goals first
    | (rw [hO]; simp [setAt]; done)
    | exact (apI hi.1).trans hS.symm
 ·obtain ⟨xs, hxs, hxc, hxe⟩ := sesF_in hsB
  refine Sat.call WS rfl ledA ?_
  conv=>arg 4;cbv
  refine Sat.callb (w_impl_IsValidMachine m hb) rfl ledA (fun hA => ?_) (fun hA => ?_)
  rotate_left
  ·have he : aplO m o = (m, ⟨false, 0⟩, false) := by rw [aplO, if_neg (fun e => by rw [hA] at e; exact Bool.false_ne_true e.1)]
   conv=>arg 4;cbv
   repeat' first
    | (refine Sat.may (fun h => ?_) ?_ <;> (conv=>arg 4;cbv))
    | refine Sat.done ?_
   all_goals rw [he]
   all_goals exact .tup rfl (led_cons (led_mch _ _) (led_cons (.same _) (led_cons (.same _) led_nil)))
  conv=>arg 4;cbv
  refine Sat.callb (w_impl_IsValidOp o) rfl ledA (fun hB => ?_) (fun hB => ?_)
  rotate_left
  ·have he : aplO m o = (m, ⟨false, 0⟩, false) := by rw [aplO, if_neg (fun e => by rw [hB] at e; exact Bool.false_ne_true e.2)]
   conv=>arg 4;cbv
   repeat' first
    | (refine Sat.may (fun h => ?_) ?_ <;> (conv=>arg 4;cbv))
    | refine Sat.done ?_
   all_goals rw [he]
   all_goals exact .tup rfl (led_cons (led_mch _ _) (led_cons (.same _) (led_cons (.same _) led_nil)))
  have hv := validM_spec hA
  have ho := okOp_spec hB
  obtain ⟨v, hv2⟩ : ∃ v, m.Objects[o.Object.toNat]? = some v := ⟨_, List.getElem?_eq_getElem (by omega)⟩
  have hgd : m.Objects.getD o.Object.toNat 0 = v := by rw [List.getD_eq_getElem?_getD, hv2]; rfl
  conv=>arg 4;cbv
  refine Sat.cmp (fun h5 => ?_) (fun h5 => ?_) <;> simp only [Cmp.holds] at h5
  ·have he : aplO m o = (m, ⟨false, 0⟩, false) := by rw [aplO, if_pos ⟨hA, hB⟩, hs, if_neg (fun q => by have := q.2; (try dsimp only at this h5); omega), if_pos ⟨rfl, h5⟩]
   conv=>arg 4;cbv
   repeat' first
    | (refine Sat.may (fun h => ?_) ?_ <;> (conv=>arg 4;cbv))
    | refine Sat.done ?_
   all_goals rw [he]
   all_goals exact .tup rfl (led_cons (led_mch _ _) (led_cons (.same _) (led_cons (.same _) led_nil)))
  conv=>arg 4;cbv
  refine Sat.cmp (fun h6 => ?_) (fun h6 => ?_) <;> simp only [Cmp.holds] at h6
  ·have he : aplO m o = (m, ⟨sd, sv⟩, true) := by rw [aplO, if_pos ⟨hA, hB⟩, hs, if_pos ⟨rfl, h6⟩]
   conv=>arg 4;cbv
   repeat' first
    | (refine Sat.may (fun h => ?_) ?_ <;> (conv=>arg 4;cbv))
    | refine Sat.done ?_
   all_goals rw [he]
   all_goals exact .tup rfl (led_cons (led_mch _ _) (led_cons (.same _) (led_cons (.same _) led_nil)))
  have he : aplO m o = (newO m o, resO m o, true) := by rw [aplO, if_pos ⟨hA, hB⟩, hs, if_neg (fun q => h6 q.2), if_neg (fun q => h5 q.2)]
  conv=>arg 4;cbv
  refine Sat.need (by (try dsimp only); exact arA) ?_
  conv=>arg 4;cbv
  refine Sat.idx (by (try dsimp only); exact arA) (fun v2 hv3 => ?_)
  obtain rfl : v = v2 := Option.some.inj (Eq.trans (Eq.symm hv2) (by simpa using hv3))
  conv=>arg 4;cbv
  refine Sat.cmp (fun h7 => ?_) (fun h7 => ?_) <;> simp only [Cmp.holds] at h7
  ·have hres : resO m o = ⟨true, v⟩ := by rw [resO, hgd, h7]; rfl
   conv=>arg 4;cbv
   repeat' first | (refine Sat.need ndA ?_; conv=>arg 4;cbv) | (refine Sat.idxk (by assumption) ?_; conv=>arg 4;cbv) | (refine Sat.idx ndA (fun v_ hv_ => ?_); conv=>arg 4;cbv) | (refine Sat.typed o.Value tcA ?_; conv=>arg 4;cbv)
   refine Sat.loopP (ι := Nat) (fun i => [(12, .int .i64 (fun _ => (i : Int)))]) (fun i => []) (fun i => i ≤ m.Sessions.length ∧ ∀ x ∈ m.Sessions.take i, x.Client < o.Client) (fun i => m.Sessions.length - i) 0 ?_ ⟨Nat.zero_le _, by simp⟩ (fun i hi => ?_)
   ·exact lesA
   conv=>arg 4;cbv
   repeat' first
    | (refine Sat.cmp (fun h => ?_) (fun h => ?_) <;> simp only [Cmp.holds] at h <;> (conv=>arg 4;cbv))
    | (refine Sat.may (fun h => ?_) ?_ <;> (conv=>arg 4;cbv))
    | (refine Sat.need ndA ?_; conv=>arg 4;cbv)
    | (refine Sat.idxk (by assumption) ?_; conv=>arg 4;cbv) | (refine Sat.idx ndA (fun v_ hv_ => ?_); conv=>arg 4;cbv)
    | (refine Sat.ari64 ndA ndA ?_; conv=>arg 4;cbv)
    | (refine Sat.pop ?_; conv=>arg 4;cbv)
    | refine Sat.next (i + 1) ?_ ?_ (by (try dsimp only); exact arA)
   all_goals try rw [hres] at he
   all_goals try first
    | (exact lesA; done)
    | exact ⟨by exact arA, take_lt (i := i) hi.2 (by assumption) (by assumption)⟩
    | exact ⟨by exact arA, take_lt (i := i) hi.2 (get_nat (by assumption)) (by assumption)⟩
   all_goals have hil : i < m.Sessions.length := had_lt hi.2 hxs hxc
   all_goals repeat' first
    | (refine Sat.need (by (try dsimp only); exact arA) ?_; conv=>arg 4;cbv)
    | (refine Sat.idx (by (try dsimp only); (try simp only [List.length_append, List.length_take, List.length_drop, List.length_cons, List.length_nil]); exact arA) (fun y hy => ?_); conv=>arg 4;cbv)
    | (refine Sat.typed (⟨o.Client, o.Seq, ⟨true, v⟩⟩ : GSession) tcA ?_; conv=>arg 4;cbv)
    | (refine Sat.may (fun h => ?_) ?_ <;> (conv=>arg 4;cbv))
    | (refine Sat.need ndA ?_; conv=>arg 4;cbv)
    | (refine Sat.ari64 ndA ndA ?_; conv=>arg 4;cbv)
    | refine Sat.done ?_
   all_goals have hk : kOf m.Sessions o.Client = i := kOf_eq hi.2 (by first | exact .inr ⟨_, get_nat (by assumption), by assumption⟩ | exact .inl (by exact arA))
   all_goals have hS : (newO m o).Sessions = m.Sessions.take i ++ ⟨o.Client, o.Seq, ⟨true, v⟩⟩ :: m.Sessions.drop (i + 1) := by rw [newO, addS, hk, hsB, hres]; rfl
   all_goals have hO : (newO m o).Objects = m.Objects.set o.Object.toNat o.Value := by rw [newO, hres]; rfl
   all_goals rw [he]
   all_goals refine .tup rfl (led_cons (.agg rfl (led_cons (.sl ?_) (led_cons (.sl ?_) led_nil))) (led_cons (.same _) (led_cons (.same _) led_nil)))
   all_goals first
    | (rw [hO]; simp [setAt]; done)
    | exact (apH hil).trans hS.symm
  conv=>arg 4;cbv
  refine Sat.cmp (fun h8 => ?_) (fun h8 => ?_) <;> simp only [Cmp.holds] at h8
  ·have hres : resO m o = ⟨true, v⟩ := by rw [resO, hgd, h8]; simp
   conv=>arg 4;cbv
   repeat' first | (refine Sat.need ndA ?_; conv=>arg 4;cbv) | (refine Sat.idxk (by assumption) ?_; conv=>arg 4;cbv) | (refine Sat.idx ndA (fun v_ hv_ => ?_); conv=>arg 4;cbv) | (refine Sat.typed o.Value tcA ?_; conv=>arg 4;cbv)
   refine Sat.loopP (ι := Nat) (fun i => [(12, .int .i64 (fun _ => (i : Int)))]) (fun i => []) (fun i => i ≤ m.Sessions.length ∧ ∀ x ∈ m.Sessions.take i, x.Client < o.Client) (fun i => m.Sessions.length - i) 0 ?_ ⟨Nat.zero_le _, by simp⟩ (fun i hi => ?_)
   ·exact lesA
   conv=>arg 4;cbv
   repeat' first
    | (refine Sat.cmp (fun h => ?_) (fun h => ?_) <;> simp only [Cmp.holds] at h <;> (conv=>arg 4;cbv))
    | (refine Sat.may (fun h => ?_) ?_ <;> (conv=>arg 4;cbv))
    | (refine Sat.need ndA ?_; conv=>arg 4;cbv)
    | (refine Sat.idxk (by assumption) ?_; conv=>arg 4;cbv) | (refine Sat.idx ndA (fun v_ hv_ => ?_); conv=>arg 4;cbv)
    | (refine Sat.ari64 ndA ndA ?_; conv=>arg 4;cbv)
    | (refine Sat.pop ?_; conv=>arg 4;cbv)
    | refine Sat.next (i + 1) ?_ ?_ (by (try dsimp only); exact arA)
   all_goals try rw [hres] at he
   all_goals try first
    | (exact lesA; done)
    | exact ⟨by exact arA, take_lt (i := i) hi.2 (by assumption) (by assumption)⟩
    | exact ⟨by exact arA, take_lt (i := i) hi.2 (get_nat (by assumption)) (by assumption)⟩
   all_goals have hil : i < m.Sessions.length := had_lt hi.2 hxs hxc
   all_goals repeat' first
    | (refine Sat.need (by (try dsimp only); exact arA) ?_; conv=>arg 4;cbv)
    | (refine Sat.idx (by (try dsimp only); (try simp only [List.length_append, List.length_take, List.length_drop, List.length_cons, List.length_nil]); exact arA) (fun y hy => ?_); conv=>arg 4;cbv)
    | (refine Sat.typed (⟨o.Client, o.Seq, ⟨true, v⟩⟩ : GSession) tcA ?_; conv=>arg 4;cbv)
    | (refine Sat.may (fun h => ?_) ?_ <;> (conv=>arg 4;cbv))
    | (refine Sat.need ndA ?_; conv=>arg 4;cbv)
    | (refine Sat.ari64 ndA ndA ?_; conv=>arg 4;cbv)
    | refine Sat.done ?_
   all_goals have hk : kOf m.Sessions o.Client = i := kOf_eq hi.2 (by first | exact .inr ⟨_, get_nat (by assumption), by assumption⟩ | exact .inl (by exact arA))
   all_goals have hS : (newO m o).Sessions = m.Sessions.take i ++ ⟨o.Client, o.Seq, ⟨true, v⟩⟩ :: m.Sessions.drop (i + 1) := by rw [newO, addS, hk, hsB, hres]; rfl
   all_goals have hO : (newO m o).Objects = m.Objects.set o.Object.toNat o.Value := by rw [newO, hres]; rfl
   all_goals rw [he]
   all_goals refine .tup rfl (led_cons (.agg rfl (led_cons (.sl ?_) (led_cons (.sl ?_) led_nil))) (led_cons (.same _) (led_cons (.same _) led_nil)))
   all_goals first
    | (rw [hO]; simp [setAt]; done)
    | exact (apH hil).trans hS.symm
  ·have hres : resO m o = ⟨false, v⟩ := by rw [resO, hgd, decide_eq_false h7, decide_eq_false h8]; rfl
   conv=>arg 4;cbv
   refine Sat.loopP (ι := Nat) (fun i => [(12, .int .i64 (fun _ => (i : Int)))]) (fun i => []) (fun i => i ≤ m.Sessions.length ∧ ∀ x ∈ m.Sessions.take i, x.Client < o.Client) (fun i => m.Sessions.length - i) 0 ?_ ⟨Nat.zero_le _, by simp⟩ (fun i hi => ?_)
   ·exact lesA
   conv=>arg 4;cbv
   repeat' first
    | (refine Sat.cmp (fun h => ?_) (fun h => ?_) <;> simp only [Cmp.holds] at h <;> (conv=>arg 4;cbv))
    | (refine Sat.may (fun h => ?_) ?_ <;> (conv=>arg 4;cbv))
    | (refine Sat.need ndA ?_; conv=>arg 4;cbv)
    | (refine Sat.idxk (by assumption) ?_; conv=>arg 4;cbv) | (refine Sat.idx ndA (fun v_ hv_ => ?_); conv=>arg 4;cbv)
    | (refine Sat.ari64 ndA ndA ?_; conv=>arg 4;cbv)
    | (refine Sat.pop ?_; conv=>arg 4;cbv)
    | refine Sat.next (i + 1) ?_ ?_ (by (try dsimp only); exact arA)
   all_goals try rw [hres] at he
   all_goals try first
    | (exact lesA; done)
    | exact ⟨by exact arA, take_lt (i := i) hi.2 (by assumption) (by assumption)⟩
    | exact ⟨by exact arA, take_lt (i := i) hi.2 (get_nat (by assumption)) (by assumption)⟩
   all_goals have hil : i < m.Sessions.length := had_lt hi.2 hxs hxc
   all_goals repeat' first
    | (refine Sat.need (by (try dsimp only); exact arA) ?_; conv=>arg 4;cbv)
    | (refine Sat.idx (by (try dsimp only); (try simp only [List.length_append, List.length_take, List.length_drop, List.length_cons, List.length_nil]); exact arA) (fun y hy => ?_); conv=>arg 4;cbv)
    | (refine Sat.typed (⟨o.Client, o.Seq, ⟨false, v⟩⟩ : GSession) tcA ?_; conv=>arg 4;cbv)
    | (refine Sat.may (fun h => ?_) ?_ <;> (conv=>arg 4;cbv))
    | (refine Sat.need ndA ?_; conv=>arg 4;cbv)
    | (refine Sat.ari64 ndA ndA ?_; conv=>arg 4;cbv)
    | refine Sat.done ?_
   all_goals have hk : kOf m.Sessions o.Client = i := kOf_eq hi.2 (by first | exact .inr ⟨_, get_nat (by assumption), by assumption⟩ | exact .inl (by exact arA))
   all_goals have hS : (newO m o).Sessions = m.Sessions.take i ++ ⟨o.Client, o.Seq, ⟨false, v⟩⟩ :: m.Sessions.drop (i + 1) := by rw [newO, addS, hk, hsB, hres]; rfl
   all_goals have hO : (newO m o).Objects = m.Objects := by rw [newO, hres]; rfl
   all_goals rw [he]
   all_goals refine .tup rfl (led_cons (.agg rfl (led_cons (.sl ?_) (led_cons (.sl ?_) led_nil))) (led_cons (.same _) (led_cons (.same _) led_nil)))
   all_goals first
    | (rw [hO]; simp [setAt]; done)
    | exact (apH hil).trans hS.symm
theorem tm_eq {a b : Int} (h : 0 ≤ a) : a.tmod b = a % b := Int.tmod_eq_emod_of_nonneg h
theorem w_impl_Checksum (s : ByteArray) (hs : s.size ≤ 1048576) : Fn Pr n_impl_Checksum [.str (fun _ => s)] (.int .i64 (fun _ => ckS s)) := by
 refine k_impl_Checksum.fn (by kernel_rfl) ?_
 conv=>arg 4;cbv
 refine Sat.loopP (ι := Nat × Int) (fun p => [(3, .int .i64 (fun _ => p.2)), (7, .int .i64 (fun _ => (p.1 : Int)))]) (fun p => []) (fun p => p.1 ≤ s.size ∧ p.2 = (s.data.toList.take p.1).foldl ckB 5) (fun p => s.size - p.1) (0, 5) ?_ ⟨Nat.zero_le _, rfl⟩ (fun p hp => ?_)
 ·exact lesA
 have hr := ck_rng (s.data.toList.take p.1)
 rw [← hp.2] at hr
 conv=>arg 4;cbv
 refine Sat.cmp (fun h5 => ?_) (fun h5 => ?_) <;> simp only [Cmp.holds] at h5
 ·have hi2 : p.1 < s.size := by exact arA
  have hb : s.data.toList[p.1]? = some (s.get! (Int.toNat (p.1 : Int))) := byte_at hi2
  have hq : (s.get! (Int.toNat (p.1 : Int))).toNat < 256 := UInt8.toNat_lt _
  have hv : (257 * p.2 + ((s.get! (Int.toNat (p.1 : Int))).toNat : Int) + 1).tmod 9949 = (s.data.toList.take (p.1 + 1)).foldl ckB 5 := by
   rw [ck_snoc hb, ← hp.2, tm_eq (by omega), ckB]
   all_goals first | rfl | (congr 1; omega)
  have hr2 := ck_rng (s.data.toList.take (p.1 + 1))
  rw [← hv] at hr2
  conv=>arg 4;cbv
  repeat' first
   | (refine Sat.need ndA ?_; conv=>arg 4;cbv)
   | (refine Sat.ari64 ndA ndA ?_; conv=>arg 4;cbv)
   | refine Sat.next (p.1 + 1, (257 * p.2 + ((s.get! (Int.toNat (p.1 : Int))).toNat : Int) + 1).tmod 9949) ?_ ⟨by exact arA, hv⟩ (by (try dsimp only); exact arA)
  exact lesA
 ·conv=>arg 4;cbv
  (refine Sat.pop ?_; conv=>arg 4;cbv)
  refine Sat.done (.int ?_)
  rw [hp.2, show p.1 = s.size by (have := hp.1; exact arA)]
  show List.foldl ckB 5 (List.take s.data.toList.length s.data.toList) = _
  rw [List.take_length]
  rfl
theorem w_spec_Checksum (s : ByteArray) (hs : s.size ≤ 1048576) : Fn Pr n_spec_Checksum [.str (fun _ => s)] (.int .i64 (fun _ => ckS s)) := by
 refine k_spec_Checksum.fn (by kernel_rfl) ?_
 conv=>arg 4;cbv
 refine Sat.loopP (ι := Nat × Int) (fun p => [(3, .int .i64 (fun _ => p.2)), (4, .int .i64 (fun _ => (p.1 : Int)))]) (fun p => []) (fun p => p.1 ≤ s.size ∧ p.2 = (s.data.toList.take p.1).foldl ckB 5) (fun p => s.size - p.1) (0, 5) ?_ ⟨Nat.zero_le _, rfl⟩ (fun p hp => ?_)
 ·exact lesA
 have hr := ck_rng (s.data.toList.take p.1)
 rw [← hp.2] at hr
 conv=>arg 4;cbv
 refine Sat.cmp (fun h5 => ?_) (fun h5 => ?_) <;> simp only [Cmp.holds] at h5
 ·have hi2 : p.1 < s.size := by exact arA
  have hb : s.data.toList[p.1]? = some (s.get! (Int.toNat (p.1 : Int))) := byte_at hi2
  have hq : (s.get! (Int.toNat (p.1 : Int))).toNat < 256 := UInt8.toNat_lt _
  have hv : (p.2 * 257 + ((s.get! (Int.toNat (p.1 : Int))).toNat : Int) + 1).tmod 9949 = (s.data.toList.take (p.1 + 1)).foldl ckB 5 := by
   rw [ck_snoc hb, ← hp.2, tm_eq (by omega), ckB]
   all_goals first | rfl | (congr 1; omega)
  have hr2 := ck_rng (s.data.toList.take (p.1 + 1))
  rw [← hv] at hr2
  conv=>arg 4;cbv
  repeat' first
   | (refine Sat.need ndA ?_; conv=>arg 4;cbv)
   | (refine Sat.ari64 ndA ndA ?_; conv=>arg 4;cbv)
   | refine Sat.next (p.1 + 1, (p.2 * 257 + ((s.get! (Int.toNat (p.1 : Int))).toNat : Int) + 1).tmod 9949) ?_ ⟨by exact arA, hv⟩ (by (try dsimp only); exact arA)
  exact lesA
 ·conv=>arg 4;cbv
  (refine Sat.pop ?_; conv=>arg 4;cbv)
  refine Sat.done (.int ?_)
  rw [hp.2, show p.1 = s.size by (have := hp.1; exact arA)]
  show List.foldl ckB 5 (List.take s.data.toList.length s.data.toList) = _
  rw [List.take_length]
  rfl
set_option maxHeartbeats 1000000 in
theorem w_impl_ReplayLog (l : List GEntry) (hb : bEntryS l) : Fn Pr n_impl_ReplayLog [.sl 7 eGEntry (fun _ => l)] (.tup [aGMachine (if isLog l = true then repO zeroMa l else ⟨[], []⟩), .bo (isLog l)]) := by
 have h0 : l.length * 56 ≤ 140737488351232 := hb
 refine k_impl_ReplayLog.fn (by kernel_rfl) ?_
 conv=>arg 4;cbv
 refine Sat.callb (w_impl_IsLog l hb) rfl ledA (fun hL => ?_) (fun hL => ?_)
 rotate_left
 ·rw [if_neg (by rw [hL]; exact Bool.false_ne_true), hL]
  conv=>arg 4;cbv
  refine Sat.done (.tup rfl (led_cons led_zeroM (led_cons (.same _) led_nil)))
 rw [if_pos hL, hL]
 have hlen := (isLog_spec hL).1
 conv=>arg 4;cbv
 refine Sat.call w_impl_NewMachine rfl ledA ?_
 conv=>arg 4;cbv
 refine Sat.loopP (ι := Nat × GMachine) (fun p => [(14, .int .i64 (fun _ => (p.1 : Int)))]) (fun p => [(96, .lit 0 [.ref 80 (fun _ => 0) (fun _ => p.2.Objects.length), .ref 81 (fun _ => 0) (fun _ => p.2.Sessions.length)]), (80, .row 1 (encI .i64) (fun _ => p.2.Objects) false), (81, .row 4 eGSession (fun _ => p.2.Sessions) false)]) (fun p => p.1 ≤ l.length ∧ p.2 = repO zeroMa (l.take p.1)) (fun p => l.length - p.1) (0, zeroMa) ?_ ⟨Nat.zero_le _, rfl⟩ (fun p hp => ?_)
 ·refine les_of ?_ ?_ rfl
  iterate 2 (focus repeat' (first | exact trivial | refine And.intro ?_ ?_ | exact levA | refine lev_cons ?_ ?_ | refine LeV.agg rfl ?_ | exact Nat.le_of_ble_eq_true rfl | exact Or.inl ⟨_, rfl, .row rfl⟩ | refine Or.inl ⟨_, rfl, .row ?_⟩ | refine Or.inl ⟨_, rfl, .lit rfl ?_⟩ | exact Or.inr ⟨rfl, rfl⟩ | (first | exact .nilref (fun h => nomatch h) rfl rfl rfl | rfl)))
 have hm := repO_len zeroMa (l.take p.1)
 rw [← hp.2, List.length_take] at hm
 have hb2 : bMachine p.2 := ⟨by show p.2.Objects.length * 8 ≤ _; have := hm.1; rw [this]; decide, by show p.2.Sessions.length * 32 ≤ _; have := hm.2; have e : zeroMa.Sessions.length = 0 := rfl; omega⟩
 conv=>arg 4;cbv
 refine Sat.cmp (fun hn => ?_) (fun hn => ?_) <;> simp only [Cmp.holds] at hn <;> (conv=>arg 4;cbv)
 ·refine Sat.need (by (try dsimp only); exact arA) ?_
  conv=>arg 4;cbv
  refine Sat.idx (by (try dsimp only); exact arA) (fun e he => ?_)
  have he : l[p.1]? = some e := by simpa using he
  have hs := repO_snoc (m := zeroMa) he
  rw [← hp.2] at hs
  conv=>arg 4;cbv
  refine Sat.call (w_impl_ApplyOp p.2 e.Op hb2) rfl (led_cons (.agg rfl (led_cons (.sl (tkdr _)) (led_cons (.sl (tkdr _)) led_nil))) (led_cons (.same _) led_nil)) ?_
  generalize aplO p.2 e.Op = A at *
  conv=>arg 4;cbv
  (refine Sat.ari64 ndA ndA ?_; conv=>arg 4;cbv)
  refine Sat.nextR2 307 80 308 81 (p.1 + 1, A.1) rfl rfl rfl rfl rfl rfl rfl rfl ?_ ⟨by exact arA, hs.symm⟩ (by (try dsimp only); exact arA)
  exact lesA
 ·(refine Sat.pop ?_; conv=>arg 4;cbv)
  refine Sat.done (.tup rfl (led_cons ?_ (led_cons (.same _) led_nil)))
  have e1 : p.2 = repO zeroMa l := by rw [hp.2, show p.1 = l.length by (have := hp.1; exact arA), List.take_length]
  rw [← e1]
  exact led_mch _ _
set_option maxHeartbeats 1000000 in
theorem w_spec_ReplayLog (l : List GEntry) (hb : bEntryS l) : Fn Pr n_spec_ReplayLog [.sl 7 eGEntry (fun _ => l)] (.tup [aGMachine (if isLog l = true then repO zeroMa l else ⟨[], []⟩), .bo (isLog l)]) := by
 have h0 : l.length * 56 ≤ 140737488351232 := hb
 refine k_spec_ReplayLog.fn (by kernel_rfl) ?_
 conv=>arg 4;cbv
 refine Sat.call w_spec_NewMachine rfl ledA ?_
 conv=>arg 4;cbv
 refine Sat.callb (w_spec_IsLog l hb) rfl ledA (fun hL => ?_) (fun hL => ?_)
 rotate_left
 ·rw [if_neg (by rw [hL]; exact Bool.false_ne_true), hL]
  conv=>arg 4;cbv
  refine Sat.done (.tup rfl (led_cons led_zeroM (led_cons (.same _) led_nil)))
 rw [if_pos hL, hL]
 have hlen := (isLog_spec hL).1
 conv=>arg 4;cbv
 refine Sat.loopP (ι := Nat × GMachine) (fun p => [(5, .int .i64 (fun _ => (p.1 : Int)))]) (fun p => [(48, .lit 0 [.ref 32 (fun _ => 0) (fun _ => p.2.Objects.length), .ref 33 (fun _ => 0) (fun _ => p.2.Sessions.length)]), (32, .row 1 (encI .i64) (fun _ => p.2.Objects) false), (33, .row 4 eGSession (fun _ => p.2.Sessions) false)]) (fun p => p.1 ≤ l.length ∧ p.2 = repO zeroMa (l.take p.1)) (fun p => l.length - p.1) (0, zeroMa) ?_ ⟨Nat.zero_le _, rfl⟩ (fun p hp => ?_)
 ·refine les_of ?_ ?_ rfl
  iterate 2 (focus repeat' (first | exact trivial | refine And.intro ?_ ?_ | exact levA | refine lev_cons ?_ ?_ | refine LeV.agg rfl ?_ | exact Nat.le_of_ble_eq_true rfl | exact Or.inl ⟨_, rfl, .row rfl⟩ | refine Or.inl ⟨_, rfl, .row ?_⟩ | refine Or.inl ⟨_, rfl, .lit rfl ?_⟩ | exact Or.inr ⟨rfl, rfl⟩ | (first | exact .nilref (fun h => nomatch h) rfl rfl rfl | rfl)))
 have hm := repO_len zeroMa (l.take p.1)
 rw [← hp.2, List.length_take] at hm
 have hb2 : bMachine p.2 := ⟨by show p.2.Objects.length * 8 ≤ _; have := hm.1; rw [this]; decide, by show p.2.Sessions.length * 32 ≤ _; have := hm.2; have e : zeroMa.Sessions.length = 0 := rfl; omega⟩
 conv=>arg 4;cbv
 refine Sat.cmp (fun hn => ?_) (fun hn => ?_) <;> simp only [Cmp.holds] at hn <;> (conv=>arg 4;cbv)
 ·refine Sat.need (by (try dsimp only); exact arA) ?_
  conv=>arg 4;cbv
  refine Sat.idx (by (try dsimp only); exact arA) (fun e he => ?_)
  have he : l[p.1]? = some e := by simpa using he
  have hs := repO_snoc (m := zeroMa) he
  rw [← hp.2] at hs
  conv=>arg 4;cbv
  refine Sat.call (w_spec_ApplyOp p.2 e.Op hb2) rfl (led_cons (.agg rfl (led_cons (.sl (tkdr _)) (led_cons (.sl (tkdr _)) led_nil))) (led_cons (.same _) led_nil)) ?_
  generalize aplO p.2 e.Op = A at *
  conv=>arg 4;cbv
  (refine Sat.ari64 ndA ndA ?_; conv=>arg 4;cbv)
  refine Sat.nextR2 307 32 308 33 (p.1 + 1, A.1) rfl rfl rfl rfl rfl rfl rfl rfl ?_ ⟨by exact arA, hs.symm⟩ (by (try dsimp only); exact arA)
  exact lesA
 ·(refine Sat.pop ?_; conv=>arg 4;cbv)
  refine Sat.done (.tup rfl (led_cons ?_ (led_cons (.same _) led_nil)))
  have e1 : p.2 = repO zeroMa l := by rw [hp.2, show p.1 = l.length by (have := hp.1; exact arA), List.take_length]
  rw [← e1]
  exact led_mch _ _
theorem one_e {l : List GEntry} {i : Nat} {e : GEntry} (h : l[i]? = some e) (j k : Nat) (hj : j = i) (hk : k = 1) : List.take k (List.drop j l) = [e] := by
 subst hj hk
 obtain ⟨h1, h2⟩ := List.getElem?_eq_some_iff.1 h
 rw [List.drop_eq_getElem_cons h1, h2]
 rfl
theorem logT_sz (l : List GEntry) : (logT l).size ≤ 1000 := by
 unfold logT
 split
 ·rename_i h
  obtain ⟨h1, h2⟩ := isLog_spec h
  split
  ·exact Nat.le_trans (show noneT.size ≤ 4 from Nat.le_refl 4) (by omega)
  ·have := logL_len h2
   show (logL l).length ≤ 1000
   omega
 ·exact Nat.zero_le _
set_option maxHeartbeats 1000000 in
theorem w_impl_DigestList (l : List GEntry) (hb : bEntryS l) : Fn Pr n_impl_DigestList [.sl 7 eGEntry (fun _ => l)] (.sl 1 (encI .i64) (fun _ => if isLog l = true then digs l else [])) := by
 have h0 : l.length * 56 ≤ 140737488351232 := hb
 refine k_impl_DigestList.fn (by kernel_rfl) ?_
 conv=>arg 4;cbv
 refine Sat.callb (w_impl_IsLog l hb) rfl ledA (fun hL => ?_) (fun hL => ?_)
 rotate_left
 ·rw [if_neg (by rw [hL]; exact Bool.false_ne_true)]
  conv=>arg 4;cbv
  refine Sat.done ?_
  first | exact .emp rfl | exact .sl rfl | exact .nil rfl
 rw [if_pos hL]
 have hlen := (isLog_spec hL).1
 conv=>arg 4;cbv
 refine Sat.loopP (ι := Nat × List Int × Int) (fun p => [(3, .ref 64 (fun _ => 0) (fun _ => p.2.1.length)), (12, .int .i64 (fun _ => (p.1 : Int)))]) (fun p => [(64, .row 1 (encI .i64) (fun _ => p.2.1) false)]) (fun p => p.1 ≤ l.length ∧ p.2.1 = digs (l.take p.1) ∧ p.2.2 = dgL (l.take p.1)) (fun p => l.length - p.1) (0, [11], 11) ?_ ⟨Nat.zero_le _, rfl, rfl⟩ (fun p hp => ?_)
 ·refine les_of ?_ ?_ rfl
  iterate 2 (focus repeat' (first | exact trivial | refine And.intro ?_ ?_ | exact levA | refine lev_cons ?_ ?_ | refine LeV.agg rfl ?_ | exact Nat.le_of_ble_eq_true rfl | exact Or.inl ⟨_, rfl, .row rfl⟩ | refine Or.inl ⟨_, rfl, .row ?_⟩ | refine Or.inl ⟨_, rfl, .lit rfl ?_⟩ | exact Or.inr ⟨rfl, rfl⟩ | (first | exact .ref (fun h => nomatch h) (fun h => nomatch h) rfl rfl | rfl)))
 obtain ⟨i, xs, d⟩ := p
 have hi : i ≤ l.length := hp.1
 have hxs : xs = digs (l.take i) := hp.2.1
 have hdd : d = dgL (l.take i) := hp.2.2
 clear hp
 have hl2 : xs.length = i + 1 := by rw [hxs, digs_len, List.length_take]; have := hi; omega
 have hd : xs[0 + (i : Int).toNat]? = some d := by
  rw [show 0 + (i : Int).toNat = i by omega, hxs, hdd, digs_at (by rw [List.length_take]; have := hi; omega), List.take_take, Nat.min_self]
 have hr := dgL_rng (l.take i)
 rw [← hdd] at hr
 conv=>arg 4;cbv
 refine Sat.cmp (fun hn => ?_) (fun hn => ?_) <;> simp only [Cmp.holds] at hn <;> (conv=>arg 4;cbv)
 ·obtain ⟨e, he⟩ : ∃ e, l[i]? = some e := ⟨_, List.getElem?_eq_getElem (by exact arA)⟩
  have hs := digs_snoc he
  have hs2 := dgL_snoc he
  rw [← hxs, ← hdd] at hs
  rw [← hdd] at hs2
  have hk := ckS_rng (logT [e])
  have hz := logT_sz [e]
  have hone : List.take (((i : Int) + 1).toNat - (i : Int).toNat) (List.drop (i : Int).toNat l) = [e] := one_e he _ _ (by omega) (by omega)
  have HF := w_impl_FormatLog [e] (show bEntryS [e] from (by show 1 * 56 ≤ 140737488351232; decide))
  have HC := w_impl_Checksum (logT [e]) (by omega)
  have hv : (31 * d + ckS (logT [e])).tmod 9973 = dgE d e := by
   rw [tm_eq (by omega), dgE]
   all_goals first | rfl | (congr 1; omega)
  have hr2 : 0 ≤ dgE d e ∧ dgE d e < 9973 := by rw [dgE]; omega
  repeat' first
   | (refine Sat.idxk hd ?_; conv=>arg 4;cbv)
   | (refine Sat.call HF rfl (led_cons (.sl hone) led_nil) ?_; conv=>arg 4;cbv)
   | (refine Sat.call HC rfl ledA ?_; conv=>arg 4;cbv)
   | (refine Sat.need ⟨rfl, fun y _ => flat_encI .i64 y, by exact arA⟩ ?_; conv=>arg 4;cbv)
   | (refine Sat.same ?_; conv=>arg 4;cbv)
   | (refine Sat.need ndA ?_; conv=>arg 4;cbv)
   | (refine Sat.ari64 ndA ndA ?_; conv=>arg 4;cbv)
   | refine Sat.next (i + 1, xs ++ [(31 * d + ckS (logT [e])).tmod 9973], (31 * d + ckS (logT [e])).tmod 9973) ?_ ⟨by exact arA, by (try dsimp only); rw [hv]; exact hs.symm, by (try dsimp only); rw [hv]; exact hs2.symm⟩ (by (try dsimp only); exact arA)
  refine les_of ?_ ?_ rfl
  iterate 2 (focus repeat' (first | exact trivial | refine And.intro ?_ ?_ | exact levA | refine lev_cons ?_ ?_ | refine LeV.agg rfl ?_ | exact Nat.le_of_ble_eq_true rfl | exact Or.inl ⟨_, rfl, .row rfl⟩ | refine Or.inl ⟨_, rfl, .row ?_⟩ | refine Or.inl ⟨_, rfl, .lit rfl ?_⟩ | exact Or.inr ⟨rfl, rfl⟩ | (first | exact .ref (fun h => nomatch h) (fun h => nomatch h) rfl (by simp) | (simp; done))))
 ·(refine Sat.pop ?_; conv=>arg 4;cbv)
  refine Sat.done (.sl ?_)
  rw [hxs, show i = l.length by (have := hi; exact arA), List.take_length]
  simp
set_option maxHeartbeats 1000000 in
theorem w_spec_DigestList (l : List GEntry) (hb : bEntryS l) : Fn Pr n_spec_DigestList [.sl 7 eGEntry (fun _ => l)] (.sl 1 (encI .i64) (fun _ => if isLog l = true then digs l else [])) := by
 have h0 : l.length * 56 ≤ 140737488351232 := hb
 refine k_spec_DigestList.fn (by kernel_rfl) ?_
 conv=>arg 4;cbv
 refine Sat.callb (w_spec_IsLog l hb) rfl ledA (fun hL => ?_) (fun hL => ?_)
 rotate_left
 ·rw [if_neg (by rw [hL]; exact Bool.false_ne_true)]
  conv=>arg 4;cbv
  refine Sat.done ?_
  first | exact .emp rfl | exact .sl rfl | exact .nil rfl
 rw [if_pos hL]
 have hlen := (isLog_spec hL).1
 conv=>arg 4;cbv
 repeat' first
  | (refine Sat.typ (encI .i64) (11 : Int) tcA ?_; conv=>arg 4;cbv)
  | (refine Sat.need ⟨fun y _ => flat_encI .i64 y, by exact arA⟩ ?_; conv=>arg 4;cbv)
  | (refine Sat.need ndA ?_; conv=>arg 4;cbv)
 refine Sat.loopP (ι := Nat × List Int × Int) (fun p => [(3, .ref 160 (fun _ => 0) (fun _ => p.2.1.length)), (4, .int .i64 (fun _ => p.2.2)), (5, .int .i64 (fun _ => (p.1 : Int)))]) (fun p => [(160, .row 1 (encI .i64) (fun _ => p.2.1) false)]) (fun p => p.1 ≤ l.length ∧ p.2.1 = digs (l.take p.1) ∧ p.2.2 = dgL (l.take p.1)) (fun p => l.length - p.1) (0, [11], 11) ?_ ⟨Nat.zero_le _, rfl, rfl⟩ (fun p hp => ?_)
 ·refine les_of ?_ ?_ rfl
  iterate 2 (focus repeat' (first | exact trivial | refine And.intro ?_ ?_ | exact levA | refine lev_cons ?_ ?_ | refine LeV.agg rfl ?_ | exact Nat.le_of_ble_eq_true rfl | exact Or.inl ⟨_, rfl, .row rfl⟩ | refine Or.inl ⟨_, rfl, .row ?_⟩ | refine Or.inl ⟨_, rfl, .lit rfl ?_⟩ | exact Or.inr ⟨rfl, rfl⟩ | (first | exact .ref (fun h => nomatch h) (fun h => nomatch h) rfl rfl | rfl)))
 obtain ⟨i, xs, d⟩ := p
 have hi : i ≤ l.length := hp.1
 have hxs : xs = digs (l.take i) := hp.2.1
 have hdd : d = dgL (l.take i) := hp.2.2
 clear hp
 have hl2 : xs.length = i + 1 := by rw [hxs, digs_len, List.length_take]; have := hi; omega
 have hd : xs[0 + (i : Int).toNat]? = some d := by
  rw [show 0 + (i : Int).toNat = i by omega, hxs, hdd, digs_at (by rw [List.length_take]; have := hi; omega), List.take_take, Nat.min_self]
 have hr := dgL_rng (l.take i)
 rw [← hdd] at hr
 conv=>arg 4;cbv
 refine Sat.cmp (fun hn => ?_) (fun hn => ?_) <;> simp only [Cmp.holds] at hn <;> (conv=>arg 4;cbv)
 ·obtain ⟨e, he⟩ : ∃ e, l[i]? = some e := ⟨_, List.getElem?_eq_getElem (by exact arA)⟩
  have hs := digs_snoc he
  have hs2 := dgL_snoc he
  rw [← hxs, ← hdd] at hs
  rw [← hdd] at hs2
  have hk := ckS_rng (logT [e])
  have hz := logT_sz [e]
  have hone : List.take (((i : Int) + 1).toNat - (i : Int).toNat) (List.drop (i : Int).toNat l) = [e] := one_e he _ _ (by omega) (by omega)
  have HF := w_spec_FormatLog [e] (show bEntryS [e] from (by show 1 * 56 ≤ 140737488351232; decide))
  have HC := w_spec_Checksum (logT [e]) (by omega)
  have hv : (d * 31 + ckS (logT [e])).tmod 9973 = dgE d e := by
   rw [tm_eq (by omega), dgE]
   all_goals first | rfl | (congr 1; omega)
  have hr2 : 0 ≤ dgE d e ∧ dgE d e < 9973 := by rw [dgE]; omega
  repeat' first
   | (refine Sat.idxk hd ?_; conv=>arg 4;cbv)
   | (refine Sat.call HF rfl (led_cons (.sl hone) led_nil) ?_; conv=>arg 4;cbv)
   | (refine Sat.call HC rfl ledA ?_; conv=>arg 4;cbv)
   | (refine Sat.need ⟨rfl, fun y _ => flat_encI .i64 y, by exact arA⟩ ?_; conv=>arg 4;cbv)
   | (refine Sat.same ?_; conv=>arg 4;cbv)
   | (refine Sat.need ndA ?_; conv=>arg 4;cbv)
   | (refine Sat.ari64 ndA ndA ?_; conv=>arg 4;cbv)
   | refine Sat.next (i + 1, xs ++ [(d * 31 + ckS (logT [e])).tmod 9973], (d * 31 + ckS (logT [e])).tmod 9973) ?_ ⟨by exact arA, by (try dsimp only); rw [hv]; exact hs.symm, by (try dsimp only); rw [hv]; exact hs2.symm⟩ (by (try dsimp only); exact arA)
  refine les_of ?_ ?_ rfl
  iterate 2 (focus repeat' (first | exact trivial | refine And.intro ?_ ?_ | exact levA | refine lev_cons ?_ ?_ | refine LeV.agg rfl ?_ | exact Nat.le_of_ble_eq_true rfl | exact Or.inl ⟨_, rfl, .row rfl⟩ | refine Or.inl ⟨_, rfl, .row ?_⟩ | refine Or.inl ⟨_, rfl, .lit rfl ?_⟩ | exact Or.inr ⟨rfl, rfl⟩ | (first | exact .ref (fun h => nomatch h) (fun h => nomatch h) rfl (by simp) | (simp; done))))
 ·(refine Sat.pop ?_; conv=>arg 4;cbv)
  refine Sat.done (.sl ?_)
  rw [hxs, show i = l.length by (have := hi; exact arA), List.take_length]
  simp
def takeOk (l : List GEntry) (c : Int) : Bool := isLog l && decide (0 ≤ c ∧ c ≤ (l.length : Int))
def takeS (l : List GEntry) (c : Int) : GSnapshot := if takeOk l c = true then ⟨c, dgL (l.take c.toNat), repO zeroMa (l.take c.toNat)⟩ else ⟨0, 0, ⟨[], []⟩⟩
theorem takeOk_spec {l : List GEntry} {c : Int} (h : takeOk l c = true) : isLog l = true ∧ 0 ≤ c ∧ c ≤ (l.length : Int) := by
 rw [takeOk, Bool.and_eq_true, decide_eq_true_eq] at h
 exact ⟨h.1, h.2.1, h.2.2⟩
theorem takeS_b (l : List GEntry) (c : Int) : bSnapshot (takeS l c) := by
 unfold takeS
 split
 ·rename_i h
  obtain ⟨h1, h2, h3⟩ := takeOk_spec h
  have h4 := (isLog_spec h1).1
  have hm := repO_len zeroMa (l.take c.toNat)
  have e1 : zeroMa.Objects.length = 3 := rfl
  have e2 : zeroMa.Sessions.length = 0 := rfl
  rw [List.length_take, e1, e2] at hm
  exact ⟨by show (repO zeroMa (l.take c.toNat)).Objects.length * 8 ≤ _; omega, by show (repO zeroMa (l.take c.toNat)).Sessions.length * 32 ≤ _; omega⟩
 ·exact ⟨by show 0 * 8 ≤ 140737488351232; decide, by show 0 * 32 ≤ 140737488351232; decide⟩
theorem w_impl_DigestOf (l : List GEntry) (c : Int) (hb : bEntryS l) (hL : isLog l = true) (hc : 0 ≤ c ∧ c ≤ (l.length : Int)) : Fn Pr n_impl_DigestOf [.sl 7 eGEntry (fun _ => l), .int .i64 (fun _ => c)] (.int .i64 (fun _ => dgL (l.take c.toNat))) := by
 have hlen := (isLog_spec hL).1
 have HD := w_impl_DigestList l hb
 rw [if_pos hL] at HD
 have hdl := digs_len l
 have hd : (digs l)[0 + c.toNat]? = some (dgL (l.take c.toNat)) := by rw [Nat.zero_add, digs_at (by omega)]
 generalize dgL (l.take c.toNat) = d at hd ⊢
 refine k_impl_DigestOf.fn (by kernel_rfl) ?_
 conv=>arg 4;cbv
 refine Sat.call HD rfl ledA ?_
 conv=>arg 4;cbv
 repeat' first
  | (refine Sat.callb (w_impl_within _ _ _) rfl ledA (fun h => ?_) (fun h => ?_) <;> (try simp only [decide_eq_true_eq, decide_eq_false_iff_not] at h) <;> (conv=>arg 4;cbv))
  | (refine Sat.idxk hd ?_; conv=>arg 4;cbv)
  | (refine Sat.need ndA ?_; conv=>arg 4;cbv)
  | (refine Sat.ari64 ndA ndA ?_; conv=>arg 4;cbv)
  | refine Sat.done ?_
 all_goals first
  | exact .same _
  | (exfalso; simp only [ncast] at h; omega)
theorem w_impl_TakeSnapshot (l : List GEntry) (c : Int) (hb : bEntryS l) : Fn Pr n_impl_TakeSnapshot [.sl 7 eGEntry (fun _ => l), .int .i64 (fun _ => c)] (.tup [aGSnapshot (takeS l c), .bo (takeOk l c)]) := by
 have h0 : l.length * 56 ≤ 140737488351232 := hb
 refine k_impl_TakeSnapshot.fn (by kernel_rfl) ?_
 conv=>arg 4;cbv
 refine Sat.callb (w_impl_IsLog l hb) rfl ledA (fun hL => ?_) (fun hL => ?_)
 rotate_left
 ·have hk : takeOk l c = false := by rw [takeOk, hL]; rfl
  rw [takeS, if_neg (by rw [hk]; exact Bool.false_ne_true), hk]
  conv=>arg 4;cbv
  refine Sat.done (.tup rfl (led_cons ?_ (led_cons (.same _) led_nil)))
  exact .agg rfl (led_cons (.same _) (led_cons (.same _) (led_cons (.nil rfl) (led_cons (.nil rfl) led_nil))))
 conv=>arg 4;cbv
 refine Sat.callb (w_impl_within _ _ _) rfl ledA (fun hC => ?_) (fun hC => ?_) <;> (try simp only [decide_eq_true_eq, decide_eq_false_iff_not] at hC)
 rotate_left
 ·have hk : takeOk l c = false := by rw [takeOk, hL, decide_eq_false hC]; rfl
  rw [takeS, if_neg (by rw [hk]; exact Bool.false_ne_true), hk]
  conv=>arg 4;cbv
  refine Sat.done (.tup rfl (led_cons ?_ (led_cons (.same _) led_nil)))
  exact .agg rfl (led_cons (.same _) (led_cons (.same _) (led_cons (.nil rfl) (led_cons (.nil rfl) led_nil))))
 have hk : takeOk l c = true := by rw [takeOk, hL, decide_eq_true hC]; rfl
 rw [takeS, if_pos hk, hk]
 have hlen := (isLog_spec hL).1
 have hC : 0 ≤ c ∧ c ≤ (l.length : Int) := hC
 have HR := w_impl_ReplayLog (l.take c.toNat) (by show (l.take c.toNat).length * 56 ≤ _; rw [List.length_take]; omega)
 rw [isLog_take hL, if_pos rfl] at HR
 have HD := w_impl_DigestOf l c hb hL hC
 conv=>arg 4;cbv
 refine Sat.need (by (try dsimp only); omega) ?_
 conv=>arg 4;cbv
 refine Sat.call HR rfl (led_cons (.sl (by simp)) led_nil) ?_
 conv=>arg 4;cbv
 refine Sat.call HD rfl ledA ?_
 conv=>arg 4;cbv
 refine Sat.done (.tup rfl (led_cons ?_ (led_cons (.same _) led_nil)))
 exact .agg rfl (led_cons (.same _) (led_cons (.same _) (led_cons (.sl (tkdr _)) (led_cons (.sl (tkdr _)) led_nil))))
theorem w_spec_DigestOf (l : List GEntry) (c : Int) (hb : bEntryS l) (hL : isLog l = true) (hc : 0 ≤ c ∧ c ≤ (l.length : Int)) : Fn Pr n_spec_DigestOf [.sl 7 eGEntry (fun _ => l), .int .i64 (fun _ => c)] (.int .i64 (fun _ => dgL (l.take c.toNat))) := by
 have hlen := (isLog_spec hL).1
 have HD := w_spec_DigestList l hb
 rw [if_pos hL] at HD
 have hdl := digs_len l
 have hd : (digs l)[0 + c.toNat]? = some (dgL (l.take c.toNat)) := by rw [Nat.zero_add, digs_at (by omega)]
 generalize dgL (l.take c.toNat) = d at hd ⊢
 refine k_spec_DigestOf.fn (by kernel_rfl) ?_
 conv=>arg 4;cbv
 refine Sat.call HD rfl ledA ?_
 conv=>arg 4;cbv
 repeat' first
  | (refine Sat.callb (w_spec_l1In _ _ _) rfl ledA (fun h => ?_) (fun h => ?_) <;> (try simp only [decide_eq_true_eq, decide_eq_false_iff_not] at h) <;> (conv=>arg 4;cbv))
  | (refine Sat.idxk hd ?_; conv=>arg 4;cbv)
  | (refine Sat.need ndA ?_; conv=>arg 4;cbv)
  | (refine Sat.ari64 ndA ndA ?_; conv=>arg 4;cbv)
  | refine Sat.done ?_
 all_goals first
  | exact .same _
  | (exfalso; simp only [ncast] at h; omega)
theorem w_spec_TakeSnapshot (l : List GEntry) (c : Int) (hb : bEntryS l) : Fn Pr n_spec_TakeSnapshot [.sl 7 eGEntry (fun _ => l), .int .i64 (fun _ => c)] (.tup [aGSnapshot (takeS l c), .bo (takeOk l c)]) := by
 have h0 : l.length * 56 ≤ 140737488351232 := hb
 refine k_spec_TakeSnapshot.fn (by kernel_rfl) ?_
 conv=>arg 4;cbv
 refine Sat.callb (w_spec_IsLog l hb) rfl ledA (fun hL => ?_) (fun hL => ?_)
 rotate_left
 ·have hk : takeOk l c = false := by rw [takeOk, hL]; rfl
  rw [takeS, if_neg (by rw [hk]; exact Bool.false_ne_true), hk]
  conv=>arg 4;cbv
  refine Sat.done (.tup rfl (led_cons ?_ (led_cons (.same _) led_nil)))
  exact .agg rfl (led_cons (.same _) (led_cons (.same _) (led_cons (.nil rfl) (led_cons (.nil rfl) led_nil))))
 conv=>arg 4;cbv
 refine Sat.callb (w_spec_l1In _ _ _) rfl ledA (fun hC => ?_) (fun hC => ?_) <;> (try simp only [decide_eq_true_eq, decide_eq_false_iff_not] at hC)
 rotate_left
 ·have hk : takeOk l c = false := by rw [takeOk, hL, decide_eq_false hC]; rfl
  rw [takeS, if_neg (by rw [hk]; exact Bool.false_ne_true), hk]
  conv=>arg 4;cbv
  refine Sat.done (.tup rfl (led_cons ?_ (led_cons (.same _) led_nil)))
  exact .agg rfl (led_cons (.same _) (led_cons (.same _) (led_cons (.nil rfl) (led_cons (.nil rfl) led_nil))))
 have hk : takeOk l c = true := by rw [takeOk, hL, decide_eq_true hC]; rfl
 rw [takeS, if_pos hk, hk]
 have hlen := (isLog_spec hL).1
 have hC : 0 ≤ c ∧ c ≤ (l.length : Int) := hC
 have HR := w_spec_ReplayLog (l.take c.toNat) (by show (l.take c.toNat).length * 56 ≤ _; rw [List.length_take]; omega)
 rw [isLog_take hL, if_pos rfl] at HR
 have HD := w_spec_DigestOf l c hb hL hC
 conv=>arg 4;cbv
 refine Sat.need (by (try dsimp only); omega) ?_
 conv=>arg 4;cbv
 refine Sat.call HR rfl (led_cons (.sl (by simp)) led_nil) ?_
 conv=>arg 4;cbv
 refine Sat.call HD rfl ledA ?_
 conv=>arg 4;cbv
 refine Sat.done (.tup rfl (led_cons ?_ (led_cons (.same _) led_nil)))
 exact .agg rfl (led_cons (.same _) (led_cons (.same _) (led_cons (.sl (tkdr _)) (led_cons (.sl (tkdr _)) led_nil))))
set_option maxHeartbeats 4000000 in
theorem w_laws_FnExactTakeSnapshot (l_ : List GEntry) (count_ : Int) {A1 G : Prop} (F : fEntryS l_ ∧ A1 ∧ G) : Fn Pr n_laws_FnExactTakeSnapshot [.sl 7 eGEntry (fun _ => l_), .int .i64 (fun _ => count_)] (.bo true) := by
 have hb_l : bEntryS l_ := F.1.2.1
 have h0_l : l_.length * 56 ≤ 140737488351232 := hb_l
 have q0 := sEntryS_rng (x := l_) (n := 1048576)
 have HS := w_spec_TakeSnapshot l_ count_ hb_l
 have HI := w_impl_TakeSnapshot l_ count_ hb_l
 have hc0 : bSnapshot (takeS l_ count_) := takeS_b l_ count_
 generalize takeS l_ count_ = g0 at *
 generalize takeOk l_ count_ = g1 at *
 have hd0 := nSnapshot_rng hc0
 cases g1
 all_goals refine k_laws_FnExactTakeSnapshot.fn (by kernel_rfl) ?_
 all_goals (conv=>arg 4;cbv)
 repeat' first
  | (refine Sat.cmp (fun h => ?_) (fun h => ?_) <;> simp only [Cmp.holds] at h <;> (conv=>arg 4;cbv))
  | (refine Sat.call (w_laws_szEntryS l_ 1048576 hb_l (by exact arA)) rfl ledA ?_; conv=>arg 4;cbv)
  | (refine Sat.call (w_laws_toEntryS l_ hb_l) rfl ledA ?_; conv=>arg 4;cbv)
  | (refine Sat.callb (HS) rfl ledA (fun h => ?_) (fun h => ?_) <;> (try simp only [decide_eq_true_eq, decide_eq_false_iff_not] at h) <;> (conv=>arg 4;cbv))
  | (refine Sat.call (HS) rfl ledA ?_; conv=>arg 4;cbv)
  | (refine Sat.callb (HI) rfl ledA (fun h => ?_) (fun h => ?_) <;> (try simp only [decide_eq_true_eq, decide_eq_false_iff_not] at h) <;> (conv=>arg 4;cbv))
  | (refine Sat.call (HI) rfl ledA ?_; conv=>arg 4;cbv)
  | (refine Sat.callb (w_laws_eqSnapshot g0 g0 hc0) rfl ledA (fun h => ?_) (fun h => ?_) <;> (try simp only [decide_eq_true_eq, decide_eq_false_iff_not] at h) <;> (conv=>arg 4;cbv))
  | (refine Sat.callb (w_laws_eqEntryS l_ l_ hb_l) rfl ledA (fun h => ?_) (fun h => ?_) <;> (try simp only [decide_eq_true_eq, decide_eq_false_iff_not] at h) <;> (conv=>arg 4;cbv))
  | (refine Sat.callm (w_laws_markEntryS l_ (1) hb_l (by exact arA)) rfl ledA rfl ledA ?_; conv=>arg 4;cbv)
  | (refine Sat.callm (w_laws_markSnapshot g0 1 hc0 (by exact arA)) rfl ledA rfl ledA ?_; conv=>arg 4;cbv)
  | (refine Sat.call (w_laws_heldSnapshot_mk g0 1 hc0 (by exact arA)) rfl ledA ?_; conv=>arg 4;cbv)
  | (refine Sat.need ndA ?_; conv=>arg 4;cbv)
  | (refine Sat.need (by (repeat' (first | exact trivial | refine And.intro ?_ ?_ | rfl | (dsimp only; simp [genL_length]; done))); (first | done | fail)) ?_; conv=>arg 4;cbv)
  | (refine Sat.idxk (by assumption) ?_; conv=>arg 4;cbv) | (refine Sat.idx ndA (fun v_ hv_ => ?_); conv=>arg 4;cbv)
  | (refine Sat.ari64 ndA ndA ?_; conv=>arg 4;cbv)
  | (refine Sat.pop ?_; conv=>arg 4;cbv)
  | refine Sat.done ?_
 all_goals refine led_bo ?_
 all_goals first | rfl | contradiction | (exfalso; (try simp only [ncast] at *); omega) | (exfalso; simp_all; done)
end Go.V.T