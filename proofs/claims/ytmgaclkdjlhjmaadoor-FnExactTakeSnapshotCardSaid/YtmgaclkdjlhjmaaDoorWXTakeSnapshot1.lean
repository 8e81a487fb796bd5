/- Contracts of the functions that FnExactTakeSnapshot reaches: what each returns. Conditions: those that each theorem states. -/
import Derived.Test.YtmgaclkdjlhjmaaDoorWXTakeSnapshot
import Derived.Laws.NewBlocks
import Derived.Lib.AppendZerosOnto
import Derived.Lib.Join
import Derived.Lib.SplitLaws
import Derived.Shelf.Spec.SlicesInsert
import Derived.Shelf.Strings.Cut
import Derived.Shelf.Strings.IndexAnyAll
import Derived.Shelf.Strings.OnBuilder
namespace Go.V.T
open Go Go.V Go.RowKit
set_option maxRecDepth 100000
set_option linter.unusedVariables false
set_option linter.unusedSimpArgs false
--import Derived.Lib.SplitLaws
def pcs (c : UInt8) : List UInt8 → List UInt8 → List (List UInt8)
 | acc, [] => [acc]
 | acc, b :: r => if b = c then acc :: pcs c [] r else pcs c (acc ++ [b]) r
theorem pcs_len (c : UInt8) : ∀ (l acc : List UInt8), (pcs c acc l).length ≤ l.length + 1 ∧ 1 ≤ (pcs c acc l).length
 | [], acc => by simp [pcs]
 | b :: r, acc => by
   rw [pcs]
   split
   ·have := pcs_len c r []
    simp only [List.length_cons]
    omega
   ·have := pcs_len c r (acc ++ [b])
    simp only [List.length_cons]
    omega
theorem pcs_size (c : UInt8) : ∀ (l acc p : List UInt8), p ∈ pcs c acc l → p.length ≤ acc.length + l.length
 | [], acc, p, h => by
   rw [pcs, List.mem_singleton] at h
   subst h
   simp
 | b :: r, acc, p, h => by
   rw [pcs] at h
   split at h
   ·rw [List.mem_cons] at h
    rcases h with rfl | h
    ·omega
    ·have := pcs_size c r [] p h
     simp only [List.length_cons, List.length_nil] at *
     omega
   ·have := pcs_size c r (acc ++ [b]) p h
    simp only [List.length_append, List.length_cons, List.length_nil] at *
    omega
theorem indexByte_acc (c : UInt8) (r : List UInt8) : ∀ acc : List UInt8, (∀ b ∈ acc, b ≠ c) → Lib.indexByte (acc ++ c :: r) c = acc.length
 | [], _ => by simp [Lib.indexByte]
 | b :: acc, h => by
   have h1 := indexByte_acc c r acc (fun x hx => h x (List.mem_cons_of_mem _ hx))
   have h2 : b ≠ c := h b (List.mem_cons_self ..)
   rw [List.cons_append, Lib.indexByte, h1]
   simp [h2]
theorem splitK_pcs (c : UInt8) : ∀ (l acc : List UInt8), (∀ b ∈ acc, b ≠ c) → Lib.splitK [c] 0 (l.count c) (acc ++ l) = pcs c acc l
 | [], acc, _ => by simp [Lib.splitK, pcs]
 | b :: r, acc, h => by
   rw [pcs]
   split
   ·rename_i e
    subst e
    have hi : Lib.index (acc ++ b :: r) [b] = acc.length := by rw [Lib.index_one, indexByte_acc b r acc h]
    rw [List.count_cons_self, Lib.splitK, hi, if_neg (by simp)]
    have e1 : ((acc.length : Nat) : Int).toNat = acc.length := by omega
    rw [e1, Nat.add_zero, List.take_left]
    have e2 : (acc ++ b :: r).drop (acc.length + [b].length) = r := by
     rw [← List.drop_drop, List.drop_left]
     rfl
    rw [e2]
    have := splitK_pcs b r [] (fun x hx => by cases hx)
    rw [List.nil_append] at this
    rw [this]
   ·rename_i e
    rw [List.count_cons_of_ne (by simpa using e)]
    have := splitK_pcs c r (acc ++ [b]) (fun x hx => by
     rw [List.mem_append, List.mem_singleton] at hx
     rcases hx with hx | rfl
     ·exact h x hx
     ·exact e)
    rw [← this]
    simp
def cutB (c : UInt8) (s : ByteArray) : List ByteArray := (pcs c [] s.data.toList).map (fun l => ⟨l.toArray⟩)
theorem cutB_data (c : UInt8) (s : ByteArray) : (cutB c s).map (fun x => x.data.toList) = pcs c [] s.data.toList := by
 rw [cutB, List.map_map]
 exact (List.map_congr_left (fun x _ => by simp)).trans (List.map_id _)
theorem data_inj : ∀ {a b : List ByteArray}, a.map (fun x => x.data.toList) = b.map (fun x => x.data.toList) → a = b
 | [], [], _ => rfl
 | [], b :: bs, h => by simp at h
 | a :: us, [], h => by simp at h
 | a :: us, b :: bs, h => by
   rw [List.map_cons, List.map_cons, List.cons.injEq] at h
   rw [bytes_ext h.1, data_inj h.2]
theorem split_cutB (c : UInt8) (s : ByteArray) : Lib.splitB ⟨#[c]⟩ 0 (Lib.countB s ⟨#[c]⟩) s = cutB c s := by
 refine data_inj ?_
 rw [cutB_data]
 have h := Lib.splitB_data ⟨#[c]⟩ 0 (Lib.countB s ⟨#[c]⟩) s
 rw [h]
 have e : Lib.countB s ⟨#[c]⟩ = s.data.toList.count c := Lib.count_one c _
 rw [e]
 have := splitK_pcs c s.data.toList [] (fun x hx => by cases hx)
 rw [List.nil_append] at this
 exact this
theorem cutB_len (c : UInt8) (s : ByteArray) : (cutB c s).length ≤ s.size + 1 ∧ 1 ≤ (cutB c s).length := by
 rw [cutB, List.length_map]
 exact pcs_len c s.data.toList []
theorem cutB_size {c : UInt8} {s x : ByteArray} (h : x ∈ cutB c s) : x.size ≤ s.size := by
 rw [cutB, List.mem_map] at h
 obtain ⟨p, hp, rfl⟩ := h
 have := pcs_size c _ _ p hp
 simp only [List.length_nil, Nat.zero_add] at this
 exact this
theorem ext_list (s : ByteArray) (a b : Nat) : (s.extract a b).data.toList = (s.data.toList.take b).drop a := by
 rw [ByteArray.data_extract, Array.toList_extract, List.extract_eq_take_drop, List.drop_take]
theorem get_drop {l : List UInt8} {i : Nat} {b : UInt8} (h : l[i]? = some b) : l.drop i = b :: l.drop (i + 1) := by
 obtain ⟨hi, rfl⟩ := List.getElem?_eq_some_iff.1 h
 exact List.drop_eq_getElem_cons hi
def CutAt (c : UInt8) (s : ByteArray) (i from_ : Nat) (out : List ByteArray) : Prop := from_ ≤ i ∧ i ≤ s.size ∧ out.length ≤ i ∧ out.map (fun x => x.data.toList) ++ pcs c ((s.data.toList.take i).drop from_) (s.data.toList.drop i) = pcs c [] s.data.toList
theorem CutAt.zero (c : UInt8) (s : ByteArray) : CutAt c s 0 0 [] := ⟨Nat.le_refl _, Nat.zero_le _, Nat.le_refl _, by simp⟩
theorem CutAt.hit {c : UInt8} {s : ByteArray} {i from_ : Nat} {out : List ByteArray} (h : CutAt c s i from_ out) (hb : s.data.toList[i]? = some c) : CutAt c s (i + 1) (i + 1) (out ++ [s.extract from_ i]) := by
 obtain ⟨h1, h2, h3, h4⟩ := h
 have hi : i < s.size := (List.getElem?_eq_some_iff.1 hb).1
 refine ⟨Nat.le_refl _, hi, by simp; omega, ?_⟩
 rw [get_drop hb, pcs, if_pos rfl] at h4
 rw [← h4, List.map_append, List.append_assoc]
 have e : (s.data.toList.take (i + 1)).drop (i + 1) = [] := List.drop_eq_nil_of_le (by rw [List.length_take]; omega)
 rw [e]
 simp only [List.map_cons, List.map_nil, ext_list, List.singleton_append]
theorem CutAt.miss {c b : UInt8} {s : ByteArray} {i from_ : Nat} {out : List ByteArray} (h : CutAt c s i from_ out) (hb : s.data.toList[i]? = some b) (hne : b ≠ c) : CutAt c s (i + 1) from_ out := by
 obtain ⟨h1, h2, h3, h4⟩ := h
 have hi : i < s.size := (List.getElem?_eq_some_iff.1 hb).1
 refine ⟨by omega, hi, by omega, ?_⟩
 rw [get_drop hb, pcs, if_neg hne] at h4
 rw [← h4]
 have e : (s.data.toList.take (i + 1)).drop from_ = (s.data.toList.take i).drop from_ ++ [b] := by
  rw [List.take_add_one, hb, List.drop_append_of_le_length (by
   have e4 : s.data.toList.length = s.size := rfl
   rw [List.length_take]; omega)]
  rfl
 rw [e]
theorem CutAt.fin {c : UInt8} {s : ByteArray} {from_ : Nat} {out : List ByteArray} (h : CutAt c s s.size from_ out) : out ++ [s.extract from_ s.size] = cutB c s := by
 obtain ⟨h1, h2, h3, h4⟩ := h
 refine data_inj ?_
 have e4 : s.data.toList.length = s.size := rfl
 have e5 : s.data.toList.drop s.size = [] := List.drop_eq_nil_of_le (by omega)
 rw [cutB_data, ← h4, e5, pcs, List.map_append]
 simp only [List.map_cons, List.map_nil, ext_list]
theorem tkdr {α : Type} (l : List α) : List.take l.length (List.drop 0 l) = l := by rw [List.drop_zero, List.take_length]
theorem led_one {X Y : AV} (h : LeD X Y) : ∀ (i : Nat) (x y : AV), [X][i]? = some x → [Y][i]? = some y → LeD x y := led_cons h led_nil
def noneT : ByteArray := ⟨#[110, 111, 110, 101]⟩
def sv (s : ByteArray) : List Int := s.data.toList.map (fun b => (b.toNat : Int) - 48)
def pSrv (s : ByteArray) : List Int × Bool := if s = noneT then ([], true) else if s = ⟨#[]⟩ ∨ srvT (sv s) ≠ s then ([], false) else (sv s, true)
theorem sv_len (s : ByteArray) : (sv s).length = s.size := by rw [sv, List.length_map]; rfl
theorem sv_snoc {s : ByteArray} {i : Nat} {b : UInt8} (h : s.data.toList[i]? = some b) : (sv s).take (i + 1) = (sv s).take i ++ [(b.toNat : Int) - 48] := by
 rw [List.take_add_one, sv, List.getElem?_map, h]; rfl
theorem srvT_long {l : List Int} (h : 5 < l.length) : srvT l = ⟨#[]⟩ := by
 rw [srvT, if_neg (fun hA => by have := areServers_len hA; omega)]
theorem pSrv_none {s : ByteArray} (h : s = noneT) : pSrv s = ([], true) := if_pos h
theorem pSrv_bad {s : ByteArray} (h : s ≠ noneT) (h2 : s = ⟨#[]⟩ ∨ srvT (sv s) ≠ s) : pSrv s = ([], false) := by rw [pSrv, if_neg h, if_pos h2]
theorem pSrv_ok {s : ByteArray} (h : s ≠ noneT) (h1 : s ≠ ⟨#[]⟩) (h2 : srvT (sv s) = s) : pSrv s = (sv s, true) := by rw [pSrv, if_neg h, if_neg (fun hc => hc.elim h1 (fun hc => hc h2))]
theorem pSrv_len (s : ByteArray) : (pSrv s).1.length ≤ s.size := by
 unfold pSrv
 split
 ·exact Nat.zero_le _
 ·split
  ·exact Nat.zero_le _
  ·exact Nat.le_of_eq (sv_len s)
theorem size_of_ne {s : ByteArray} (h : s ≠ ⟨#[]⟩) : 1 ≤ s.size := by
 rcases Nat.eq_zero_or_pos s.size with e | e
 ·exact absurd (bytes_ext (a := s) (b := ⟨#[]⟩) (List.eq_nil_of_length_eq_zero e)) h
 ·exact e
def pNum (s : ByteArray) : Int := if (pI s).2 = true then (pI s).1 else -1
def pNum3 (s : ByteArray) : Int := if (pI s).2 = true ∧ ¬ (pI s).1 < 0 then (pI s).1 else -1
theorem pI_no1 {s : ByteArray} {n : Int} (h : pI s = (n, false)) : pNum s = -1 ∧ pNum3 s = -1 := by
 constructor
 ·rw [pNum, h, if_neg (fun e => by cases e)]
 ·rw [pNum3, h, if_neg (fun e => by cases e.1)]
theorem pI_yes1 {s : ByteArray} {n : Int} (h : pI s = (n, true)) : pNum s = n ∧ pNum3 s = if n < 0 then -1 else n := by
 constructor
 ·rw [pNum, h, if_pos rfl]
 ·rw [pNum3, h]
  by_cases h0 : n < 0
  ·rw [if_pos h0, if_neg (fun e => e.2 h0)]
  ·rw [if_neg h0, if_pos ⟨rfl, h0⟩]
theorem pNum_rng (s : ByteArray) : -1000000000 ≤ pNum s ∧ pNum s ≤ 1000000000 := by
 by_cases h2 : 1 ≤ (pT s).length ∧ (pT s).length ≤ 9 ∧ (pT s).all isD = true ∧ sI (pV s) = s
 ·have := dv_lt_of (k := 9) (l := pT s) (fun b hb => List.all_eq_true.1 h2.2.2.1 b hb) h2.2.1
  rw [(pI_yes1 (pI_yes h2)).1]
  simp only [pV, pS]
  split <;> omega
 ·rw [(pI_no1 (pI_no h2)).1]
  omega
theorem pNum_eq (s : ByteArray) : pNum3 s = if pNum s < 0 then -1 else pNum s := by
 unfold pNum3 pNum
 by_cases h : (pI s).2 = true
 ·by_cases h0 : (pI s).1 < 0
  ·rw [if_neg (fun e => e.2 h0), if_pos h, if_pos h0]
  ·rw [if_pos ⟨h, h0⟩, if_pos h, if_neg h0]
 ·rw [if_neg (fun e => h e.1), if_neg h, if_pos (by decide)]
def okSes (p : Int) (x : GSession) : Bool := decide ((0 ≤ x.Client ∧ x.Client ≤ 2) ∧ p < x.Client ∧ (1 ≤ x.Seq ∧ x.Seq ≤ 99) ∧ (0 ≤ x.Result.Value ∧ x.Result.Value ≤ 9))
def sesGo (p : Int) : List GSession → Bool
 | [] => true
 | x :: r => okSes p x && sesGo x.Client r
def objOk (v : Int) : Bool := decide (0 ≤ v ∧ v ≤ 9)
def validM (m : GMachine) : Bool := decide (m.Objects.length = 3) && m.Objects.all objOk && sesGo (-1) m.Sessions
def prevC (l : List GSession) : Nat → Int
 | 0 => -1
 | i + 1 => match l[i]? with | some e => e.Client | none => 0
theorem prevC_get {l : List GSession} {i : Nat} {e : GSession} (h : l[i]? = some e) : prevC l (i + 1) = e.Client := by simp [prevC, h]
theorem prevC_zero {l : List GSession} {i : Nat} (h : i = 0) : prevC l i = -1 := by subst h; rfl
theorem prevC_pos {l : List GSession} {i j : Nat} {e : GSession} (h : l[j]? = some e) (hj : i = j + 1) : prevC l i = e.Client := by subst hj; exact prevC_get h
theorem sesGo_step {l : List GSession} {i : Nat} {e : GSession} {b : Bool} (hb : b = sesGo (prevC l i) (l.drop i)) (h : l[i]? = some e) (h1 : (0 ≤ e.Client ∧ e.Client ≤ 2) ∧ prevC l i < e.Client ∧ (1 ≤ e.Seq ∧ e.Seq ≤ 99) ∧ (0 ≤ e.Result.Value ∧ e.Result.Value ≤ 9)) : b = sesGo (prevC l (i + 1)) (l.drop (i + 1)) := by
 rw [hb, drop_get h, sesGo, prevC_get h, okSes, decide_eq_true h1]
 rfl
theorem sesGo_bad {l : List GSession} {i : Nat} {e : GSession} {b : Bool} (hb : b = sesGo (prevC l i) (l.drop i)) (h : l[i]? = some e) (hn : ¬ ((0 ≤ e.Client ∧ e.Client ≤ 2) ∧ prevC l i < e.Client ∧ (1 ≤ e.Seq ∧ e.Seq ≤ 99) ∧ (0 ≤ e.Result.Value ∧ e.Result.Value ≤ 9))) : b = false := by
 rw [hb, drop_get h, sesGo, okSes, decide_eq_false hn]
 rfl
theorem sesGo_end {l : List GSession} {i : Nat} {b : Bool} (hb : b = sesGo (prevC l i) (l.drop i)) (h : i = l.length) : b = true := by
 rw [hb, h, List.drop_length, sesGo]
theorem sesGo_spec : ∀ {l : List GSession} {p : Int}, sesGo p l = true → p ≤ 2 → ((l.length : Int) ≤ 2 - p) ∧ ∀ x ∈ l, okSes p x = true
 | [], p, _, hp => ⟨by simp; omega, by simp⟩
 | x :: r, p, h, hp => by
   rw [sesGo, Bool.and_eq_true] at h
   have h1 := of_decide_eq_true h.1
   obtain ⟨h2, h3⟩ := sesGo_spec h.2 h1.1.2
   refine ⟨by simp only [List.length_cons]; omega, fun y hy => ?_⟩
   rcases List.mem_cons.1 hy with rfl | hy
   ·exact h.1
   ·have h4 := of_decide_eq_true (h3 y hy)
    exact decide_eq_true ⟨h4.1, by omega, h4.2.2⟩
theorem w_slices_IndexFunc_intint0 (l : List Int) (f : Nat) (p : Int → Bool) (hf : ∀ x, Fn Pr f [.int .i64 (fun _ => x)] (.bo (p x))) (hb : bIntS l) : Fn Pr n_slices_IndexFunc_intint [.sl 1 (encI .i64) (fun _ => l), .clo f []] (.int .i64 (fun _ => idxF p l)) := by
 refine k_slices_IndexFunc_intint.fn (by kernel_rfl) ?_
 have h0 : l.length * 8 ≤ 140737488351232 := hb
 conv=>arg 4;cbv
 refine Sat.loopP (ι := Nat) (fun i => [(8, .int .i64 (fun _ => (i : Int)))]) (fun i => []) (fun i => i ≤ l.length ∧ idxF p l = if idxF p (l.drop i) < 0 then -1 else idxF p (l.drop i) + i) (fun i => l.length - i) 0 ?_ ⟨by omega, by have := (idxF_any (p := p) (l := l)).2; simp; omega⟩ (fun i hi => ?_)
 ·exact lesA
 conv=>arg 4;cbv
 repeat' first
  | (refine Sat.cmp (fun h => ?_) (fun h => ?_) <;> simp only [Cmp.holds] at h <;> (conv=>arg 4;cbv))
  | (refine Sat.need ndA ?_; conv=>arg 4;cbv)
  | (refine Sat.idxk (by assumption) ?_; conv=>arg 4;cbv) | (refine Sat.idx ndA (fun v_ hv_ => ?_); conv=>arg 4;cbv)
  | (refine Sat.callb (hf _) rfl ledA (fun h => ?_) (fun h => ?_) <;> (conv=>arg 4;cbv))
  | (refine Sat.ari64 ndA ndA ?_; conv=>arg 4;cbv)
  | (refine Sat.pop ?_; conv=>arg 4;cbv)
  | refine Sat.next (i + 1) ?_ ?_ (by (try dsimp only); exact arA)
  | refine Sat.done ?_
 ·refine .int ?_
  exact idxF_hit (by assumption) hi.2 h
 ·exact lesA
 ·exact ⟨by exact arA, idxF_step (by assumption) hi.2 h⟩
 ·refine .int ?_
  have e1 : i = l.length := by exact arA
  rw [hi.2, e1, List.drop_length, idxF]
  simp
theorem w_slices_ContainsFunc_intint0 (l : List Int) (f : Nat) (p : Int → Bool) (hf : ∀ x, Fn Pr f [.int .i64 (fun _ => x)] (.bo (p x))) (hb : bIntS l) : Fn Pr n_slices_ContainsFunc_intint [.sl 1 (encI .i64) (fun _ => l), .clo f []] (.bo (l.any p)) := by
 refine k_slices_ContainsFunc_intint.fn (by kernel_rfl) ?_
 conv=>arg 4;cbv
 repeat' first
  | (refine Sat.cmp (fun h => ?_) (fun h => ?_) <;> simp only [Cmp.holds] at h <;> (conv=>arg 4;cbv))
  | (refine Sat.call (w_slices_IndexFunc_intint0 l f p hf hb) rfl ledA ?_; conv=>arg 4;cbv)
  | (refine Sat.need ndA ?_; conv=>arg 4;cbv)
  | (refine Sat.idxk (by assumption) ?_; conv=>arg 4;cbv) | (refine Sat.idx ndA (fun v_ hv_ => ?_); conv=>arg 4;cbv)
  | (refine Sat.ari64 ndA ndA ?_; conv=>arg 4;cbv)
  | (refine Sat.pop ?_; conv=>arg 4;cbv)
  | refine Sat.done ?_
 all_goals refine led_bo ?_
 all_goals have := (idxF_any (p := p) (l := l)).1
 ·exact (this.1 h).symm
 ·cases e : l.any p with
  | false => rfl
  | true => exact absurd (this.2 e) h
theorem w_impl_IsValidMachine_c1 (x : Int) : Fn Pr n_impl_IsValidMachine_c1 [.int .i64 (fun _ => x)] (.bo (!objOk x)) := by
 refine k_impl_IsValidMachine_c1.fn (by kernel_rfl) ?_
 conv=>arg 4;cbv
 repeat' first
  | (refine Sat.cmp (fun h => ?_) (fun h => ?_) <;> simp only [Cmp.holds] at h <;> (conv=>arg 4;cbv))
  | (refine Sat.callb (w_impl_within _ _ _) rfl ledA (fun h => ?_) (fun h => ?_) <;> (try simp only [decide_eq_true_eq, decide_eq_false_iff_not] at h) <;> (conv=>arg 4;cbv))
  | (refine Sat.need ndA ?_; conv=>arg 4;cbv)
  | (refine Sat.idxk (by assumption) ?_; conv=>arg 4;cbv) | (refine Sat.idx ndA (fun v_ hv_ => ?_); conv=>arg 4;cbv)
  | (refine Sat.ari64 ndA ndA ?_; conv=>arg 4;cbv)
  | (refine Sat.pop ?_; conv=>arg 4;cbv)
  | refine Sat.done ?_
 all_goals refine led_bo ?_ <;> simp [objOk] <;> omega
theorem not_any_all (l : List Int) : l.all objOk = !(l.any (fun x => !objOk x)) := by
 induction l with
 | nil => rfl
 | cons x r ih => rw [List.all_cons, List.any_cons, ih]; cases objOk x <;> simp
set_option maxHeartbeats 2000000 in
theorem w_impl_IsValidMachine (m : GMachine) (hb : bMachine m) : Fn Pr n_impl_IsValidMachine [aGMachine m] (.bo (validM m)) := by
 have hb1 : bIntS m.Objects := hb.1
 have hb2 : m.Sessions.length * 32 ≤ 140737488351232 := hb.2
 have HC := w_slices_ContainsFunc_intint0 m.Objects n_impl_IsValidMachine_c1 _ w_impl_IsValidMachine_c1 hb1
 refine k_impl_IsValidMachine.fn (by kernel_rfl) ?_
 conv=>arg 4;cbv
 refine Sat.cmp (fun h => ?_) (fun h => ?_) <;> simp only [Cmp.holds] at h
 rotate_left
 ·conv=>arg 4;cbv
  refine Sat.done (led_bo ?_)
  rw [validM, decide_eq_false (fun e => h (by exact arA))]
  rfl
 have h3 : m.Objects.length = 3 := by exact arA
 conv=>arg 4;cbv
 refine Sat.callb HC rfl ledA (fun hA => ?_) (fun hA => ?_)
 ·conv=>arg 4;cbv
  refine Sat.done (led_bo ?_)
  rw [validM, not_any_all, hA]
  simp
 have hall : m.Objects.all objOk = true := by rw [not_any_all, hA]; rfl
 have hv : validM m = sesGo (-1) m.Sessions := by rw [validM, hall, decide_eq_true h3]; rfl
 rw [hv]
 conv=>arg 4;cbv
 refine Sat.loopP (ι := Nat) (fun i => [(17, .int .i64 (fun _ => (i : Int)))]) (fun i => []) (fun i => i ≤ m.Sessions.length ∧ sesGo (-1) m.Sessions = sesGo (prevC m.Sessions i) (m.Sessions.drop i)) (fun i => m.Sessions.length - i) 0 ?_ ⟨by omega, by simp [prevC]⟩ (fun i hi => ?_)
 ·exact lesA
 conv=>arg 4;cbv
 repeat' first
  | (refine Sat.cmp (fun h => ?_) (fun h => ?_) <;> simp only [Cmp.holds] at h <;> (conv=>arg 4;cbv))
  | (refine Sat.need ndA ?_; conv=>arg 4;cbv)
  | (refine Sat.idxk (by assumption) ?_; conv=>arg 4;cbv) | (refine Sat.idx ndA (fun v_ hv_ => ?_); conv=>arg 4;cbv)
  | (refine Sat.callb (w_impl_within _ _ _) rfl ledA (fun h => ?_) (fun h => ?_) <;> (try simp only [decide_eq_true_eq, decide_eq_false_iff_not] at h) <;> (conv=>arg 4;cbv))
  | (refine Sat.ari64 ndA ndA ?_; conv=>arg 4;cbv)
  | (refine Sat.pop ?_; conv=>arg 4;cbv)
  | refine Sat.next (i + 1) ?_ ?_ (by (try dsimp only); exact arA)
  | refine Sat.done ?_
 all_goals have hz := @prevC_zero m.Sessions i
 all_goals try have hp := prevC_pos (l := m.Sessions) (i := i) hv_ (by exact arA)
 all_goals first
  | (refine led_bo ?_; rw [sesGo_bad (i := i) hi.2 (by assumption) (fun q => by (try simp only [ncast] at *); omega)]; done)
  | (exact lesA; done)
  | (refine ⟨by exact arA, sesGo_step hi.2 (by assumption) ⟨by assumption, ?_, by assumption, by assumption⟩⟩; (try simp only [ncast] at *); omega)
  | (refine led_bo ?_; rw [sesGo_end hi.2 (by exact arA)]; done)
  | trace_state
set_option maxHeartbeats 2000000 in
theorem w_spec_IsValidMachine (m : GMachine) (hb : bMachine m) : Fn Pr n_spec_IsValidMachine [aGMachine m] (.bo (validM m)) := by
 have hb1 : m.Objects.length * 8 ≤ 140737488351232 := hb.1
 have hb2 : m.Sessions.length * 32 ≤ 140737488351232 := hb.2
 refine k_spec_IsValidMachine.fn (by kernel_rfl) ?_
 conv=>arg 4;cbv
 refine Sat.loopP (ι := Nat) (fun i => [(3, .int .i64 (fun _ => (i : Int)))]) (fun i => []) (fun i => i ≤ m.Objects.length ∧ m.Objects.all objOk = (m.Objects.drop i).all objOk) (fun i => m.Objects.length - i) 0 ?_ ⟨by omega, by simp⟩ (fun i hi => ?_)
 ·exact lesA
 conv=>arg 4;cbv
 refine Sat.cmp (fun h => ?_) (fun h => ?_) <;> simp only [Cmp.holds] at h
 ·conv=>arg 4;cbv
  refine Sat.need (by (try dsimp only); exact arA) ?_
  conv=>arg 4;cbv
  refine Sat.idx (by (try dsimp only); exact arA) (fun v hv => ?_)
  have hv : m.Objects[i]? = some v := by simpa using hv
  conv=>arg 4;cbv
  refine Sat.callb (w_spec_l1In _ _ _) rfl ledA (fun hA => ?_) (fun hA => ?_)
  ·have hA := of_decide_eq_true hA
   conv=>arg 4;cbv
   refine Sat.ari64 (by (try dsimp only); exact arA) (by (try dsimp only); exact arA) ?_
   conv=>arg 4;cbv
   refine Sat.next (i + 1) ?_ ⟨by exact arA, ?_⟩ (by (try dsimp only); exact arA)
   ·exact lesA
   ·rw [hi.2, drop_get hv, List.all_cons, objOk, decide_eq_true hA]
    rfl
  ·have hA := of_decide_eq_false hA
   conv=>arg 4;cbv
   refine Sat.pop ?_
   conv=>arg 4;cbv
   refine Sat.done (led_bo ?_)
   rw [validM, hi.2, drop_get hv, List.all_cons, objOk, decide_eq_false hA]
   simp
 have hie : i = m.Objects.length := by exact arA
 have hall : m.Objects.all objOk = true := by rw [hi.2, hie, List.drop_length]; rfl
 have hv : validM m = (decide (m.Objects.length = 3) && sesGo (-1) m.Sessions) := by rw [validM, hall, Bool.and_true]
 rw [hv]
 conv=>arg 4;cbv
 refine Sat.pop ?_
 conv=>arg 4;cbv
 clear hi hie h
 refine Sat.loopP (ι := Nat) (fun i => [(4, .int .i64 (fun _ => (i : Int)))]) (fun i => []) (fun i => i ≤ m.Sessions.length ∧ sesGo (-1) m.Sessions = sesGo (prevC m.Sessions i) (m.Sessions.drop i)) (fun i => m.Sessions.length - i) 0 ?_ ⟨by omega, by simp [prevC]⟩ (fun i hi => ?_)
 ·exact lesA
 conv=>arg 4;cbv
 repeat' first
  | (refine Sat.cmp (fun h => ?_) (fun h => ?_) <;> simp only [Cmp.holds] at h <;> (conv=>arg 4;cbv))
  | (refine Sat.need ndA ?_; conv=>arg 4;cbv)
  | (refine Sat.idxk (by assumption) ?_; conv=>arg 4;cbv) | (refine Sat.idx ndA (fun v_ hv_ => ?_); conv=>arg 4;cbv)
  | (refine Sat.callb (w_spec_l1In _ _ _) rfl ledA (fun h => ?_) (fun h => ?_) <;> (try simp only [decide_eq_true_eq, decide_eq_false_iff_not] at h) <;> (conv=>arg 4;cbv))
  | (refine Sat.ari64 ndA ndA ?_; conv=>arg 4;cbv)
  | (refine Sat.pop ?_; conv=>arg 4;cbv)
  | refine Sat.next (i + 1) ?_ ?_ (by (try dsimp only); exact arA)
  | refine Sat.done ?_
 all_goals have hz := @prevC_zero m.Sessions i
 all_goals try have hp := prevC_pos (l := m.Sessions) (i := i) hv_ (by exact arA)
 all_goals first
  | (refine led_bo ?_; rw [sesGo_bad (i := i) hi.2 (by assumption) (fun q => by (try simp only [ncast] at *); omega), Bool.and_false]; done)
  | (exact lesA; done)
  | (refine ⟨by exact arA, sesGo_step hi.2 (by assumption) ⟨by assumption, ?_, by assumption, by assumption⟩⟩; (try simp only [ncast] at *); omega)
  | (refine led_bo ?_; rw [sesGo_end hi.2 (by exact arA), Bool.and_true]; first | exact (decide_eq_true (by (try simp only [ncast] at *); omega)).symm | exact (decide_eq_false (by (try simp only [ncast] at *); omega)).symm)
  | trace_state
def sgT (b : Bool) : ByteArray := if b = true then ⟨#[43]⟩ else ⟨#[45]⟩
def sesT (x : GSession) : ByteArray := ⟨#[32]⟩ ++ sI x.Client ++ ⟨#[46]⟩ ++ sI x.Seq ++ sgT x.Result.Done ++ sI x.Result.Value
def sesL (l : List GSession) : List UInt8 := l.flatMap (fun x => (sesT x).data.toList)
def mchT (m : GMachine) : ByteArray := if validM m = true then ⟨((fS m.Objects).data.toList ++ sesL m.Sessions).toArray⟩ else ⟨#[]⟩
theorem validM_spec {m : GMachine} (h : validM m = true) : m.Objects.length = 3 ∧ (∀ v ∈ m.Objects, 0 ≤ v ∧ v ≤ 9) ∧ m.Sessions.length ≤ 3 ∧ (∀ x ∈ m.Sessions, (0 ≤ x.Client ∧ x.Client ≤ 2) ∧ (1 ≤ x.Seq ∧ x.Seq ≤ 99) ∧ (0 ≤ x.Result.Value ∧ x.Result.Value ≤ 9)) ∧ sesGo (-1) m.Sessions = true := by
 rw [validM, Bool.and_eq_true, Bool.and_eq_true] at h
 obtain ⟨⟨h1, h2⟩, h3⟩ := h
 have h4 := sesGo_spec h3 (by omega)
 refine ⟨of_decide_eq_true h1, fun v hv => of_decide_eq_true (List.all_eq_true.1 h2 v hv), by have := h4.1; omega, fun x hx => ?_, h3⟩
 have h5 := of_decide_eq_true (h4.2 x hx)
 exact ⟨h5.1, h5.2.2.1, h5.2.2.2⟩
theorem sesT_size {x : GSession} (h : (0 ≤ x.Client ∧ x.Client ≤ 2) ∧ (1 ≤ x.Seq ∧ x.Seq ≤ 99) ∧ (0 ≤ x.Result.Value ∧ x.Result.Value ≤ 9)) : (sI x.Client).size ≤ 2 ∧ (sI x.Seq).size ≤ 2 ∧ (sI x.Result.Value).size ≤ 2 ∧ (sgT x.Result.Done).size = 1 := by
 refine ⟨(sI_size (by omega) (by omega)).2, (sI_size (by omega) (by omega)).2, (sI_size (by omega) (by omega)).2, ?_⟩
 unfold sgT
 split <;> rfl
theorem sesL_snoc {l : List GSession} {i : Nat} {x : GSession} (hx : l[i]? = some x) : sesL (l.take (i + 1)) = sesL (l.take i) ++ (sesT x).data.toList := by
 rw [sesL, List.take_add_one, hx, List.flatMap_append]
 simp [sesL]
theorem sesT_impl (u : ByteArray) (c q v : Int) (d : Bool) : u ++ sesT ⟨c, q, ⟨d, v⟩⟩ = u ++ (⟨#[32]⟩ ++ sI c ++ ⟨#[46]⟩ ++ sI q ++ (if d = true then ⟨#[43]⟩ else ⟨#[45]⟩) ++ sI v) := rfl
theorem sesT_spec (u : ByteArray) (c q v : Int) (d : Bool) : u ++ sesT ⟨c, q, ⟨d, v⟩⟩ = u ++ ⟨#[32]⟩ ++ sI c ++ ⟨#[46]⟩ ++ sI q ++ (if d = true then ⟨#[43]⟩ else ⟨#[45]⟩) ++ sI v := by
 refine bytes_ext ?_
 simp [sesT, sgT]
theorem size_lit {b : UInt8} : (⟨#[b]⟩ : ByteArray).size = 1 := rfl
--import Derived.Shelf.Strings.Cut
theorem below_drew {w : World} {n : Nat} : Below w.heap.size w (w.drewN n) := ⟨rfl, rfl, rfl, Nat.le_refl _, fun _ _ => rfl⟩
theorem str_of {w : World} {s : ByteArray} {v : Value} {f : List Nat} (h : Deep w (.str (fun _ => s)) v f) : v = .string s := by cases h; rfl
theorem vs2 {vs : Array Value} (hsz : vs.size = 2) {a b : Value} (ha : vs.getD 0 Go.undef = a) (hb : vs.getD 1 Go.undef = b) : vs = #[a, b] := by
 rw [← ha, ← hb]
 apply Array.ext_getElem?
 intro i
 cases i with
 | zero => rw [Array.getD_eq_getD_getElem?, Array.getElem?_eq_getElem (by omega)]; rfl
 | succ i =>
   cases i with
   | zero => rw [Array.getD_eq_getD_getElem? (i := 1), Array.getElem?_eq_getElem (by omega)]; rfl
   | succ i => rw [Array.getElem?_eq_none (by omega), Array.getElem?_eq_none (by simp)]
theorem vs3 {vs : Array Value} (hsz : vs.size = 3) {a b c : Value} (ha : vs.getD 0 Go.undef = a) (hb : vs.getD 1 Go.undef = b) (hc : vs.getD 2 Go.undef = c) : vs = #[a, b, c] := by
 rw [← ha, ← hb, ← hc]
 apply Array.ext_getElem?
 intro i
 match i with
 | 0 => rw [Array.getD_eq_getD_getElem?, Array.getElem?_eq_getElem (by omega)]; rfl
 | 1 => rw [Array.getD_eq_getD_getElem? (i := 1), Array.getElem?_eq_getElem (by omega)]; rfl
 | 2 => rw [Array.getD_eq_getD_getElem? (i := 2), Array.getElem?_eq_getElem (by omega)]; rfl
 | i + 3 => rw [Array.getElem?_eq_none (by omega), Array.getElem?_eq_none (by simp)]
def ctA (c : UInt8) (s : ByteArray) : ByteArray := ⟨(Lib.cut s.data.toList [c]).1.toArray⟩
def ctZ (c : UInt8) (s : ByteArray) : ByteArray := ⟨(Lib.cut s.data.toList [c]).2.1.toArray⟩
def ctF (c : UInt8) (s : ByteArray) : Bool := (Lib.cut s.data.toList [c]).2.2
theorem cut_len (c : UInt8) (l : List UInt8) : (Lib.cut l [c]).1.length ≤ l.length ∧ (Lib.cut l [c]).2.1.length ≤ l.length := by
 unfold Lib.cut
 split
 ·simp only [List.length_take, List.length_drop]
  omega
 ·simp only [List.length_nil]
  omega
theorem ct_size (c : UInt8) (s : ByteArray) : (ctA c s).size ≤ s.size ∧ (ctZ c s).size ≤ s.size := cut_len c s.data.toList
--import Derived.Shelf.Strings.IndexAnyAll
def wAt (w : ByteArray) : Int := Lib.indexAny (ctZ 46 w).data.toList [43, 45]
def wS (w : ByteArray) : Option GSession := if wAt w < 0 then none else some ⟨pNum (ctA 46 w), pNum ((ctZ 46 w).extract 0 (wAt w).toNat), ⟨decide ((ctZ 46 w).get! (wAt w).toNat = 43), pNum ((ctZ 46 w).extract (wAt w + 1).toNat (ctZ 46 w).size)⟩⟩
def allW : List ByteArray → Option (List GSession)
 | [] => some []
 | w :: r => match wS w, allW r with
   | some x, some l => some (x :: l)
   | _, _ => none
def zeroM : GMachine := ⟨[], []⟩
def pMf (s v : ByteArray) : Option (List GSession) → GMachine × Bool
 | none => (zeroM, false)
 | some l => if s = ⟨#[]⟩ ∨ mchT ⟨sv v, l⟩ ≠ s then (zeroM, false) else (⟨sv v, l⟩, true)
def pMg (s : ByteArray) : List ByteArray → GMachine × Bool
 | [] => (zeroM, false)
 | v :: r => pMf s v (allW r)
def pM (s : ByteArray) : GMachine × Bool := pMg s (cutB 32 s)
theorem allW_zero (ws : List ByteArray) : allW ws = (allW (ws.drop 0)).map (([] : List GSession) ++ ·) := by
 rw [List.drop_zero]
 cases allW ws <;> rfl
theorem allW_step {ws : List ByteArray} {i : Nat} {w : ByteArray} {x : GSession} {acc : List GSession} (h : allW ws = (allW (ws.drop i)).map (acc ++ ·)) (hw : ws[i]? = some w) (hx : wS w = some x) : allW ws = (allW (ws.drop (i + 1))).map ((acc ++ [x]) ++ ·) := by
 rw [h, drop_get hw, allW, hx]
 cases allW (ws.drop (i + 1)) with
 | none => rfl
 | some l => simp
theorem allW_none {ws : List ByteArray} {i : Nat} {w : ByteArray} {acc : List GSession} (h : allW ws = (allW (ws.drop i)).map (acc ++ ·)) (hw : ws[i]? = some w) (hx : wS w = none) : allW ws = none := by
 rw [h, drop_get hw, allW, hx]
 rfl
theorem allW_end {ws : List ByteArray} {i : Nat} {acc : List GSession} (h : allW ws = (allW (ws.drop i)).map (acc ++ ·)) (hi : i = ws.length) : allW ws = some acc := by
 rw [h, hi, List.drop_length, allW]
 simp
theorem pM_none {s v : ByteArray} {r : List ByteArray} (hc : cutB 32 s = v :: r) (h : allW r = none) : pM s = (zeroM, false) := by rw [pM, hc, pMg, h, pMf]
theorem pM_bad {s v : ByteArray} {r : List ByteArray} {l : List GSession} (hc : cutB 32 s = v :: r) (h : allW r = some l) (hb : s = ⟨#[]⟩ ∨ mchT ⟨sv v, l⟩ ≠ s) : pM s = (zeroM, false) := by
 rw [pM, hc, pMg, h, pMf, if_pos hb]
theorem pM_ok {s v : ByteArray} {r : List ByteArray} {l : List GSession} (hc : cutB 32 s = v :: r) (h : allW r = some l) (h1 : s ≠ ⟨#[]⟩) (h2 : mchT ⟨sv v, l⟩ = s) : pM s = (⟨sv v, l⟩, true) := by
 rw [pM, hc, pMg, h, pMf, if_neg (fun hb => hb.elim h1 (fun hc => hc h2))]
theorem wAt_rng (w : ByteArray) : -1 ≤ wAt w ∧ wAt w < (ctZ 46 w).size := by
 refine ⟨Lib.indexAny_ge _ _, ?_⟩
 have : ∀ l : List UInt8, Lib.indexAny l [43, 45] < l.length := by
  intro l
  induction l with
  | nil => simp [Lib.indexAny]
  | cons b r ih =>
    rw [Lib.indexAny]
    simp only [List.length_cons]
    split
    ·omega
    ·split <;> omega
 exact this _
theorem cons_of_len {α : Type} {l : List α} (h : 1 ≤ l.length) : ∃ a r, l = a :: r := by
 cases l with
 | nil => simp at h
 | cons a r => exact ⟨a, r, rfl⟩
theorem byte_43 {b : UInt8} (h : (b.toNat : Int) = 43) : b = 43 := by
 apply UInt8.toNat_inj.1
 show b.toNat = 43
 omega
theorem byte_n43 {b : UInt8} (h : ¬ (b.toNat : Int) = 43) : b ≠ 43 := fun e => h (by rw [e]; rfl)
theorem led_zeroM : LeD (.agg [.nil, .nil]) (aGMachine zeroM) := .agg rfl (led_cons (.nil rfl) (led_cons (.nil rfl) led_nil))
theorem led_mch (o : List Int) (l : List GSession) : LeD (.agg [.sl 1 (encI .i64) (fun _ => List.take o.length (List.drop 0 o)), .sl 4 eGSession (fun _ => List.take l.length (List.drop 0 l))]) (aGMachine ⟨o, l⟩) := .agg rfl (led_cons (.sl (tkdr _)) (led_cons (.sl (tkdr _)) led_nil))
theorem flat_GSession (y : GSession) (j : Nat) (hj : j < 4) : flat (eGSession y j) = true := by
 match j, hj with
 | 0, _ | 1, _ | 2, _ | 3, _ => rfl
 | j + 4, h => omega
theorem ext_size (s : ByteArray) (a b : Nat) : (s.extract a b).size ≤ s.size := by
 rw [ByteArray.size_extract]
 omega
def swT : ByteArray := ⟨#[32, 115, 119, 97, 112, 32]⟩
def wrT : ByteArray := ⟨#[32, 119, 114, 105, 116, 101, 32]⟩
def kT (o : GOp) : ByteArray := if o.Kind = 2 then swT ++ sI o.Object ++ ⟨#[32]⟩ ++ sI o.Old ++ ⟨#[32]⟩ ++ sI o.Value else wrT ++ sI o.Object ++ ⟨#[32]⟩ ++ sI o.Value
def opT (o : GOp) : ByteArray := if okOp o = true then sI o.Client ++ ⟨#[46]⟩ ++ sI o.Seq ++ kT o else ⟨#[]⟩
theorem okOp_spec {o : GOp} (h : okOp o = true) : (0 ≤ o.Client ∧ o.Client ≤ 2) ∧ (1 ≤ o.Seq ∧ o.Seq ≤ 99) ∧ (0 ≤ o.Object ∧ o.Object ≤ 2) ∧ (0 ≤ o.Value ∧ o.Value ≤ 9) ∧ ((o.Kind = 1 ∧ o.Old = 0) ∨ (o.Kind = 2 ∧ 0 ≤ o.Old ∧ o.Old ≤ 9)) := of_decide_eq_true h
theorem swT_size : swT.size = 6 := rfl
theorem wrT_size : wrT.size = 7 := rfl
theorem opT_sizes {o : GOp} (h : okOp o = true) : (sI o.Client).size ≤ 2 ∧ (sI o.Seq).size ≤ 2 ∧ (sI o.Object).size ≤ 2 ∧ (sI o.Value).size ≤ 2 ∧ (sI o.Old).size ≤ 2 := by
 have h := okOp_spec h
 exact ⟨(sI_size (by omega) (by omega)).2, (sI_size (by omega) (by omega)).2, (sI_size (by omega) (by omega)).2, (sI_size (by omega) (by omega)).2, (sI_size (by omega) (by omega)).2⟩
theorem opT_size (o : GOp) : (opT o).size ≤ 30 := by
 unfold opT
 split
 ·rename_i h
  obtain ⟨z1, z2, z3, z4, z5⟩ := opT_sizes h
  unfold kT
  split <;> simp only [ByteArray.size_append, size_lit, swT_size, wrT_size] <;> omega
 ·exact Nat.zero_le _
theorem opT_sw (o : GOp) (h : okOp o = true) (hk : o.Kind = 2) : opT o = sI o.Client ++ ⟨#[46]⟩ ++ sI o.Seq ++ swT ++ sI o.Object ++ ⟨#[32]⟩ ++ sI o.Old ++ ⟨#[32]⟩ ++ sI o.Value := by
 rw [opT, if_pos h, kT, if_pos hk]
 refine bytes_ext ?_
 simp
theorem opT_wr (o : GOp) (h : okOp o = true) (hk : ¬ o.Kind = 2) : opT o = sI o.Client ++ ⟨#[46]⟩ ++ sI o.Seq ++ wrT ++ sI o.Object ++ ⟨#[32]⟩ ++ sI o.Value := by
 rw [opT, if_pos h, kT, if_neg hk]
 refine bytes_ext ?_
 simp
theorem lit5 {a b c d e : UInt8} : (⟨#[a, b, c, d, e]⟩ : ByteArray).size = 5 := rfl
theorem lit6 {a b c d e f : UInt8} : (⟨#[a, b, c, d, e, f]⟩ : ByteArray).size = 6 := rfl
theorem lit7 {a b c d e f g : UInt8} : (⟨#[a, b, c, d, e, f, g]⟩ : ByteArray).size = 7 := rfl
theorem w_impl_FormatOp (o : GOp) : Fn Pr n_impl_FormatOp [aGOp o] (.str (fun _ => opT o)) := by
 refine k_impl_FormatOp.fn (by kernel_rfl) ?_
 conv=>arg 4;cbv
 refine Sat.callb (w_impl_IsValidOp o) rfl ledA (fun hA => ?_) (fun hA => ?_) <;> (conv=>arg 4;cbv)
 rotate_left
 ·refine Sat.done (.str ?_)
  rw [opT, if_neg (by rw [hA]; exact Bool.false_ne_true)]
 have hr := okOp_spec hA
 obtain ⟨z1, z2, z3, z4, z5⟩ := opT_sizes hA
 repeat' first
  | (refine Sat.cmp (fun h => ?_) (fun h => ?_) <;> simp only [Cmp.holds] at h <;> (conv=>arg 4;cbv))
  | (refine Sat.call (w_impl_FormatIntG o.Client (by omega) (by omega)) rfl ledA ?_; conv=>arg 4;cbv)
  | (refine Sat.call (w_impl_FormatIntG o.Seq (by omega) (by omega)) rfl ledA ?_; conv=>arg 4;cbv)
  | (refine Sat.call (w_impl_FormatIntG o.Object (by omega) (by omega)) rfl ledA ?_; conv=>arg 4;cbv)
  | (refine Sat.call (w_impl_FormatIntG o.Old (by omega) (by omega)) rfl ledA ?_; conv=>arg 4;cbv)
  | (refine Sat.call (w_impl_FormatIntG o.Value (by omega) (by omega)) rfl ledA ?_; conv=>arg 4;cbv)
  | (refine Sat.need (by (try dsimp only); simp only [ByteArray.size_append, size_lit, lit5, lit6, lit7]; omega) ?_; conv=>arg 4;cbv)
  | refine Sat.done ?_
 all_goals refine .str ?_
 ·rw [opT_sw o hA (by omega)]
  refine bytes_ext ?_
  simp [swT, wrT]
 ·rw [opT_wr o hA (by omega)]
  refine bytes_ext ?_
  simp [swT, wrT]
theorem w_spec_FormatOp (o : GOp) : Fn Pr n_spec_FormatOp [aGOp o] (.str (fun _ => opT o)) := by
 refine k_spec_FormatOp.fn (by kernel_rfl) ?_
 conv=>arg 4;cbv
 refine Sat.callb (w_spec_IsValidOp o) rfl ledA (fun hA => ?_) (fun hA => ?_) <;> (conv=>arg 4;cbv)
 rotate_left
 ·refine Sat.done (.str ?_)
  rw [opT, if_neg (by rw [hA]; exact Bool.false_ne_true)]
 have hr := okOp_spec hA
 obtain ⟨z1, z2, z3, z4, z5⟩ := opT_sizes hA
 repeat' first
  | (refine Sat.cmp (fun h => ?_) (fun h => ?_) <;> simp only [Cmp.holds] at h <;> (conv=>arg 4;cbv))
  | (refine Sat.call (w_spec_FormatIntG o.Client (by omega) (by omega)) rfl ledA ?_; conv=>arg 4;cbv)
  | (refine Sat.call (w_spec_FormatIntG o.Seq (by omega) (by omega)) rfl ledA ?_; conv=>arg 4;cbv)
  | (refine Sat.call (w_spec_FormatIntG o.Object (by omega) (by omega)) rfl ledA ?_; conv=>arg 4;cbv)
  | (refine Sat.call (w_spec_FormatIntG o.Old (by omega) (by omega)) rfl ledA ?_; conv=>arg 4;cbv)
  | (refine Sat.call (w_spec_FormatIntG o.Value (by omega) (by omega)) rfl ledA ?_; conv=>arg 4;cbv)
  | (refine Sat.need (by (try dsimp only); simp only [ByteArray.size_append, size_lit, lit5, lit6, lit7]; omega) ?_; conv=>arg 4;cbv)
  | refine Sat.done ?_
 all_goals refine .str ?_
 ·rw [opT_wr o hA (by omega)]
  refine bytes_ext ?_
  simp [swT, wrT]
 ·rw [opT_sw o hA (by omega)]
  refine bytes_ext ?_
  simp [swT, wrT]
--import Derived.Lib.Join
def entT (e : GEntry) : ByteArray := sI e.Epoch ++ ⟨#[58]⟩ ++ opT e.Op
def entL (e : GEntry) : List UInt8 := (entT e).data.toList
def logL : List GEntry → List UInt8
 | [] => []
 | e :: r => entL e ++ r.flatMap (fun x => 59 :: entL x)
def logT (l : List GEntry) : ByteArray := if isLog l = true then (if l = [] then noneT else ⟨(logL l).toArray⟩) else ⟨#[]⟩
theorem okLogFrom_all : ∀ {l : List GEntry} {p : Int}, okLogFrom p l = true → ∀ e ∈ l, (1 ≤ e.Epoch ∧ e.Epoch ≤ 20) ∧ okOp e.Op = true
 | [], _, _, e, he => by cases he
 | x :: r, p, h, e, he => by
   simp only [okLogFrom, Bool.and_eq_true, decide_eq_true_eq] at h
   rcases List.mem_cons.1 he with rfl | he
   ·exact ⟨h.1.1.1, h.1.1.2⟩
   ·exact okLogFrom_all h.2 e he
theorem isLog_spec {l : List GEntry} (h : isLog l = true) : l.length ≤ 16 ∧ ∀ e ∈ l, (1 ≤ e.Epoch ∧ e.Epoch ≤ 20) ∧ okOp e.Op = true := by
 rw [isLog, Bool.and_eq_true] at h
 exact ⟨of_decide_eq_true h.2, okLogFrom_all h.1⟩
theorem entT_size {e : GEntry} (h : 1 ≤ e.Epoch ∧ e.Epoch ≤ 20) : (entT e).size ≤ 33 := by
 have h1 := (sI_size (n := e.Epoch) (by omega) (by omega)).2
 have h2 := opT_size e.Op
 simp only [entT, ByteArray.size_append, size_lit]
 omega
theorem logL_snoc : ∀ (l : List GEntry) (e : GEntry), logL (l ++ [e]) = if l = [] then entL e else logL l ++ 59 :: entL e
 | [], e => by simp [logL]
 | x :: r, e => by
   rw [if_neg (by simp), List.cons_append, logL, logL, List.flatMap_append]
   simp
theorem take_snocE {l : List GEntry} {i : Nat} {e : GEntry} (h : l[i]? = some e) : l.take (i + 1) = l.take i ++ [e] := by rw [List.take_add_one, h]; rfl
theorem join_log : ∀ l : List GEntry, l ≠ [] → Lib.join ((l.map entT).map (·.data.toList)) [59] = logL l
 | [], h => absurd rfl h
 | e :: r, _ => by
   rw [List.map_cons, List.map_cons, Lib.join_cons, logL]
   have : ∀ r : List GEntry, Lib.joinTail [59] ((r.map entT).map (·.data.toList)) = r.flatMap (fun x => 59 :: entL x) := by
    intro r
    induction r with
    | nil => rfl
    | cons x r ih =>
      rw [List.flatMap_cons, ← ih]
      rfl
   rw [this]
   rfl
theorem logL_len : ∀ {l : List GEntry}, (∀ e ∈ l, (1 ≤ e.Epoch ∧ e.Epoch ≤ 20) ∧ okOp e.Op = true) → (logL l).length ≤ 34 * l.length
 | [], _ => Nat.le_refl _
 | e :: r, h => by
   have e1 : ∀ x : GEntry, (entL x).length = (entT x).size := fun x => rfl
   have h1 := entT_size (h e (List.mem_cons_self ..)).1
   have h2 : ∀ r : List GEntry, (∀ e ∈ r, (1 ≤ e.Epoch ∧ e.Epoch ≤ 20) ∧ okOp e.Op = true) → (r.flatMap (fun x => 59 :: entL x)).length ≤ 34 * r.length := by
    intro r
    induction r with
    | nil => intro _; exact Nat.le_refl _
    | cons x r ih =>
      intro hr
      have h3 := ih (fun y hy => hr y (List.mem_cons_of_mem _ hy))
      have h4 := entT_size (hr x (List.mem_cons_self ..)).1
      rw [List.flatMap_cons, List.length_append, List.length_cons, List.length_cons, e1]
      omega
   have h5 := h2 r (fun y hy => h y (List.mem_cons_of_mem _ hy))
   rw [logL, List.length_append, e1, List.length_cons]
   omega
set_option maxHeartbeats 1000000 in
theorem w_spec_FormatLog (l : List GEntry) (hb : bEntryS l) : Fn Pr n_spec_FormatLog [.sl 7 eGEntry (fun _ => l)] (.str (fun _ => logT l)) := by
 have h0 : l.length * 56 ≤ 140737488351232 := hb
 refine k_spec_FormatLog.fn (by kernel_rfl) ?_
 conv=>arg 4;cbv
 refine Sat.callb (w_spec_IsLog l hb) rfl ledA (fun hA => ?_) (fun hA => ?_) <;> (conv=>arg 4;cbv)
 rotate_left
 ·refine Sat.done (.str ?_)
  rw [logT, if_neg (by rw [hA]; exact Bool.false_ne_true)]
 obtain ⟨h16, hall⟩ := isLog_spec hA
 refine Sat.cmp (fun h => ?_) (fun h => ?_) <;> simp only [Cmp.holds] at h
 ·have hn : l = [] := List.eq_nil_of_length_eq_zero (by exact arA)
  conv=>arg 4;cbv
  refine Sat.done (.str ?_)
  rw [logT, if_pos hA, if_pos hn]
  rfl
 have hne : l ≠ [] := fun e => h (by rw [e]; rfl)
 conv=>arg 4;cbv
 refine Sat.loopP (ι := Nat × ByteArray) (fun x => [(4, .int .i64 (fun _ => (x.1 : Int))), (3, .str (fun _ => x.2))]) (fun x => []) (fun x => x.1 ≤ l.length ∧ x.2.data.toList = logL (l.take x.1) ∧ x.2.size ≤ 34 * x.1) (fun x => l.length - x.1) (0, ⟨#[]⟩) ?_ ⟨Nat.zero_le _, rfl, Nat.le_refl _⟩ (fun x hx => ?_)
 ·exact lesA
 obtain ⟨i, s⟩ := x
 obtain ⟨hi, hs1, hs2⟩ := hx
 simp only at hi hs1 hs2
 conv=>arg 4;cbv
 refine Sat.cmp (fun h5 => ?_) (fun h5 => ?_) <;> simp only [Cmp.holds] at h5
 ·have hi2 : i < l.length := by exact arA
  obtain ⟨e, he⟩ : ∃ e, l[i]? = some e := ⟨_, List.getElem?_eq_getElem hi2⟩
  have hr := hall e (List.mem_of_getElem? he)
  have hz := entT_size hr.1
  have hz1 := (sI_size (n := e.Epoch) (by omega) (by omega)).2
  have hz2 := opT_size e.Op
  have hsn : logL (l.take (i + 1)) = if l.take i = [] then entL e else logL (l.take i) ++ 59 :: entL e := by rw [take_snocE he, logL_snoc]
  have hee : entL e = (sI e.Epoch).data.toList ++ 58 :: (opT e.Op).data.toList := by rw [entL, entT]; simp
  conv=>arg 4;cbv
  refine Sat.cmp (fun h6 => ?_) (fun h6 => ?_) <;> simp only [Cmp.holds] at h6
  ·have hti : l.take i ≠ [] := fun q => by
    have h7 := congrArg List.length q
    rw [List.length_take] at h7
    simp only [List.length_nil] at h7
    (try simp only [ncast] at *)
    omega
   have hd : (s ++ ⟨#[59]⟩ ++ sI e.Epoch ++ ⟨#[58]⟩ ++ opT e.Op).data.toList = logL (l.take (i + 1)) := by
    rw [hsn, if_neg hti, ← hs1, hee]
    simp
   conv=>arg 4;cbv
   repeat' first
    | (refine Sat.need (by (try dsimp only); simp only [ByteArray.size_append, size_lit]; omega) ?_; conv=>arg 4;cbv)
    | (refine Sat.need (by (try dsimp only); exact arA) ?_; conv=>arg 4;cbv)
    | (refine Sat.idx (by (try dsimp only); exact arA) (fun e2 he2 => ?_); obtain rfl : e = e2 := Option.some.inj (Eq.trans (Eq.symm he) he2); conv=>arg 4;cbv)
    | (refine Sat.call (w_spec_FormatIntG e.Epoch (by omega) (by omega)) rfl ledA ?_; conv=>arg 4;cbv)
    | (refine Sat.call (w_spec_FormatOp e.Op) rfl ledA ?_; conv=>arg 4;cbv)
    | (refine Sat.ari64 (by (try dsimp only); exact arA) (by (try dsimp only); exact arA) ?_; conv=>arg 4;cbv)
    | refine Sat.next (i + 1, s ++ ⟨#[59]⟩ ++ sI e.Epoch ++ ⟨#[58]⟩ ++ opT e.Op) ?_ ⟨by exact arA, hd, by (try dsimp only); simp only [ByteArray.size_append, size_lit]; omega⟩ (by (try dsimp only); exact arA)
   exact lesA
  ·have hi0 : i = 0 := by exact arA
   subst hi0
   have hd : (s ++ sI e.Epoch ++ ⟨#[58]⟩ ++ opT e.Op).data.toList = logL (l.take (0 + 1)) := by
    rw [hsn, if_pos (by rfl), hee]
    have hs1 : s.data.toList = [] := hs1
    simp [hs1]
   conv=>arg 4;cbv
   repeat' first
    | (refine Sat.need (by (try dsimp only); simp only [ByteArray.size_append, size_lit]; omega) ?_; conv=>arg 4;cbv)
    | (refine Sat.need (by (try dsimp only); exact arA) ?_; conv=>arg 4;cbv)
    | (refine Sat.idx (by (try dsimp only); exact arA) (fun e2 he2 => ?_); obtain rfl : e = e2 := Option.some.inj (Eq.trans (Eq.symm he) he2); conv=>arg 4;cbv)
    | (refine Sat.call (w_spec_FormatIntG e.Epoch (by omega) (by omega)) rfl ledA ?_; conv=>arg 4;cbv)
    | (refine Sat.call (w_spec_FormatOp e.Op) rfl ledA ?_; conv=>arg 4;cbv)
    | (refine Sat.ari64 (by (try dsimp only); exact arA) (by (try dsimp only); exact arA) ?_; conv=>arg 4;cbv)
    | refine Sat.next (0 + 1, s ++ sI e.Epoch ++ ⟨#[58]⟩ ++ opT e.Op) ?_ ⟨by exact arA, hd, by (try dsimp only); simp only [ByteArray.size_append, size_lit]; omega⟩ (by (try dsimp only); exact arA)
   exact lesA
 ·have hie : i = l.length := by exact arA
  conv=>arg 4;cbv
  refine Sat.pop ?_
  conv=>arg 4;cbv
  refine Sat.done (.str ?_)
  rw [logT, if_pos hA, if_neg hne]
  exact bytes_ext (by rw [hs1, hie, List.take_length])
--import Derived.Shelf.Strings.OnBuilder
theorem ents_snoc {l : List GEntry} {i : Nat} {e : GEntry} (h : l[i]? = some e) : (l.take (i + 1)).map entT = (l.take i).map entT ++ [entT e] := by
 rw [take_snocE h, List.map_append]
 rfl
set_option maxHeartbeats 1000000 in
theorem w_impl_FormatLog (l : List GEntry) (hb : bEntryS l) : Fn Pr n_impl_FormatLog [.sl 7 eGEntry (fun _ => l)] (.str (fun _ => logT l)) := by
 have h0 : l.length * 56 ≤ 140737488351232 := hb
 refine k_impl_FormatLog.fn (by kernel_rfl) ?_
 conv=>arg 4;cbv
 refine Sat.callb (w_impl_IsLog l hb) rfl ledA (fun hA => ?_) (fun hA => ?_) <;> (conv=>arg 4;cbv)
 rotate_left
 ·refine Sat.done (.str ?_)
  rw [logT, if_neg (by rw [hA]; exact Bool.false_ne_true)]
 obtain ⟨h16, hall⟩ := isLog_spec hA
 have hLl := logL_len hall
 refine Sat.cmp (fun h => ?_) (fun h => ?_) <;> simp only [Cmp.holds] at h
 ·have hn : l = [] := List.eq_nil_of_length_eq_zero (by exact arA)
  conv=>arg 4;cbv
  refine Sat.done (.str ?_)
  rw [logT, if_pos hA, if_pos hn]
  rfl
 have hne : l ≠ [] := fun e => h (by rw [e]; rfl)
 have hjn := join_log l hne
 conv=>arg 4;cbv
 refine Sat.loopP (ι := Nat) (fun i => [(17, .int .i64 (fun _ => (i : Int))), (3, .ref 33 (fun _ => 0) (fun _ => ((l.take i).map entT).length))]) (fun i => [(33, .row 1 encS (fun _ => (l.take i).map entT) false)]) (fun i => i ≤ l.length) (fun i => l.length - i) 0 ?_ (Nat.zero_le _) (fun i hi => ?_)
 ·refine les_of ?_ ?_ rfl
  iterate 2 (focus repeat' (first | exact trivial | refine And.intro ?_ ?_ | exact levA | refine lev_cons ?_ ?_ | refine LeV.agg rfl ?_ | exact Nat.le_of_ble_eq_true rfl | exact Or.inl ⟨_, rfl, .row rfl⟩ | refine Or.inl ⟨_, rfl, .row ?_⟩ | refine Or.inl ⟨_, rfl, .lit rfl ?_⟩ | exact Or.inr ⟨rfl, rfl⟩ | (first | exact .empref (fun h => nomatch h) rfl rfl rfl | rfl)))
 have hjl : ((l.take i).map entT).length = i := by rw [List.length_map, List.length_take]; omega
 conv=>arg 4;cbv
 refine Sat.cmp (fun h5 => ?_) (fun h5 => ?_) <;> simp only [Cmp.holds] at h5
 ·have hi2 : i < l.length := by exact arA
  obtain ⟨e, he⟩ : ∃ e, l[i]? = some e := ⟨_, List.getElem?_eq_getElem hi2⟩
  have hr := hall e (List.mem_of_getElem? he)
  have hz1 := (sI_size (n := e.Epoch) (by omega) (by omega)).2
  have hz2 := opT_size e.Op
  have hsn := ents_snoc he
  conv=>arg 4;cbv
  refine Sat.need (by (try dsimp only); exact arA) ?_
  conv=>arg 4;cbv
  refine Sat.idx (by (try dsimp only); exact arA) (fun e2 he2 => ?_)
  obtain rfl : e = e2 := Option.some.inj (Eq.trans (Eq.symm he) he2)
  conv=>arg 4;cbv
  refine Sat.call (w_impl_FormatIntG e.Epoch (by omega) (by omega)) rfl ledA ?_
  conv=>arg 4;cbv
  refine Sat.need (by (try dsimp only); simp only [ByteArray.size_append, size_lit]; omega) ?_
  conv=>arg 4;cbv
  refine Sat.call (w_impl_FormatOp e.Op) rfl ledA ?_
  conv=>arg 4;cbv
  refine Sat.need (by (try dsimp only); simp only [ByteArray.size_append, size_lit]; omega) ?_
  conv=>arg 4;cbv
  refine Sat.need ⟨rfl, fun y _ j _ => rfl, (by (try dsimp only); exact arA)⟩ ?_
  conv=>arg 4;cbv
  refine Sat.same ?_
  conv=>arg 4;cbv
  refine Sat.ari64 (by (try dsimp only); exact arA) (by (try dsimp only); exact arA) ?_
  conv=>arg 4;cbv
  refine Sat.next (i + 1) ?_ (by exact arA) (by (try dsimp only); exact arA)
  have e7 : (l.take (i + 1)).map entT = List.take ((l.take i).map entT).length ((l.take i).map entT) ++ List.take 1 (List.drop 0 [sI e.Epoch ++ ⟨#[58]⟩ ++ opT e.Op]) := by rw [List.take_length, hsn]; rfl
  refine les_of ?_ ?_ rfl
  iterate 2 (focus repeat' (first | exact trivial | refine And.intro ?_ ?_ | exact levA | refine lev_cons ?_ ?_ | refine LeV.agg rfl ?_ | exact Nat.le_of_ble_eq_true rfl | exact Or.inl ⟨_, rfl, .row rfl⟩ | refine Or.inl ⟨_, rfl, .row ?_⟩ | refine Or.inl ⟨_, rfl, .lit rfl ?_⟩ | exact Or.inr ⟨rfl, rfl⟩ | (first | exact .ref (fun h => nomatch h) (fun h => nomatch h) rfl (by (try dsimp only); rw [hsn]; simp) | exact e7.symm)))
 have hie : i = l.length := by exact arA
 have htk : (l.take i).map entT = l.map entT := by rw [hie, List.take_length]
 rw [htk]
 conv=>arg 4;cbv
 refine Sat.pop ?_
 conv=>arg 4;cbv
 refine Sat.call (w_strings_Join (l.map entT) ⟨#[59]⟩ (by rw [List.length_map]; omega) (by
  show (Lib.join ((l.map entT).map (·.data.toList)) [59]).length ≤ _
  rw [hjn]
  omega)) rfl (fun i x y hx hy => by
  match i with
  | 0 =>
    rw [List.getElem?_cons_zero, Option.some.injEq] at hx hy
    subst hx hy
    exact .sl (tkdr _)
  | 1 =>
    rw [List.getElem?_cons_succ, List.getElem?_cons_zero, Option.some.injEq] at hx hy
    subst hx hy
    exact .same _
  | i + 2 => simp at hx) ?_
 conv=>arg 4;cbv
 refine Sat.done (.str ?_)
 show (⟨(Lib.join ((l.map entT).map (·.data.toList)) [59]).toArray⟩ : ByteArray) = _
 rw [hjn, logT, if_pos hA, if_neg hne]
theorem w_spec_l4Copy (m : GMachine) (hb : bMachine m) : Fn Pr n_spec_l4Copy [aGMachine m] (aGMachine m) := by
 have h0 : m.Objects.length * 8 ≤ 140737488351232 := hb.1
 have h1 : m.Sessions.length * 32 ≤ 140737488351232 := hb.2
 refine k_spec_l4Copy.fn (by kernel_rfl) ?_
 conv=>arg 4;cbv
 repeat' first
  | (refine Sat.cmp (fun h => ?_) (fun h => ?_) <;> simp only [Cmp.holds] at h <;> (conv=>arg 4;cbv))
  | (refine Sat.need ⟨fun y _ => flat_encI .i64 y, by exact arA⟩ ?_; conv=>arg 4;cbv)
  | (refine Sat.need ⟨fun y _ => flat_GSession y, by exact arA⟩ ?_; conv=>arg 4;cbv)
  | (refine Sat.may (fun h => ?_) ?_ <;> (conv=>arg 4;cbv))
  | (refine Sat.need ndA ?_; conv=>arg 4;cbv)
  | (refine Sat.idxk (by assumption) ?_; conv=>arg 4;cbv) | (refine Sat.idx ndA (fun v_ hv_ => ?_); conv=>arg 4;cbv)
  | (refine Sat.ari64 ndA ndA ?_; conv=>arg 4;cbv)
  | (refine Sat.pop ?_; conv=>arg 4;cbv)
  | refine Sat.done ?_
 all_goals refine .agg rfl ?_
 all_goals (repeat' first | exact led_nil | refine led_cons ?_ ?_ | exact .same _ | exact .nil (by assumption) | exact .emp (by assumption) | exact .sl (by simp))
theorem w_spec_NewMachine : Fn Pr n_spec_NewMachine [] (aGMachine ⟨[0, 0, 0], []⟩) := by
 refine k_spec_NewMachine.fn (by kernel_rfl) ?_
 conv=>arg 4;cbv
 refine Sat.done (.agg rfl ?_)
 (repeat' first | exact led_nil | refine led_cons ?_ ?_ | exact .same _ | exact .nil rfl | exact .emp rfl | exact .sl (by simp))
def zeroSes : GSession := ⟨0, 0, ⟨false, 0⟩⟩
def sesF : List GSession → Int → GSession × Bool
 | [], _ => (zeroSes, false)
 | x :: r, c => if x.Client = c then (x, true) else sesF r c
theorem sesF_hit {l : List GSession} {c : Int} {i : Nat} {x : GSession} (h : sesF l c = sesF (l.drop i) c) (hx : l[i]? = some x) (hc : x.Client = c) : sesF l c = (x, true) := by
 rw [h, drop_get hx, sesF, if_pos hc]
theorem sesF_step {l : List GSession} {c : Int} {i : Nat} {x : GSession} (h : sesF l c = sesF (l.drop i) c) (hx : l[i]? = some x) (hc : ¬ x.Client = c) : sesF l c = sesF (l.drop (i + 1)) c := by
 rw [h, drop_get hx, sesF, if_neg hc]
theorem sesF_in : ∀ {l : List GSession} {c : Int}, (sesF l c).2 = true → ∃ x ∈ l, x.Client = c ∧ (sesF l c).1 = x
 | [], c, h => by cases h
 | x :: r, c, h => by
   rw [sesF] at h ⊢
   by_cases hc : x.Client = c
   ·exact ⟨x, List.mem_cons_self .., hc, by rw [if_pos hc]⟩
   ·rw [if_neg hc] at h ⊢
    obtain ⟨y, hy, h1, h2⟩ := sesF_in h
    exact ⟨y, List.mem_cons_of_mem _ hy, h1, h2⟩
theorem w_spec_SessionOf (m : GMachine) (c : Int) (hb : bMachine m) : Fn Pr n_spec_SessionOf [aGMachine m, .int .i64 (fun _ => c)] (.tup [aGSession (sesF m.Sessions c).1, .bo (sesF m.Sessions c).2]) := by
 have h1 : m.Sessions.length * 32 ≤ 140737488351232 := hb.2
 have h0 : sesF m.Sessions c = sesF (m.Sessions.drop 0) c := rfl
 generalize hr : sesF m.Sessions c = r at h0 ⊢
 obtain ⟨s, b⟩ := r
 refine k_spec_SessionOf.fn (by kernel_rfl) ?_
 conv=>arg 4;cbv
 refine Sat.loopP (ι := Nat) (fun i => [(6, .int .i64 (fun _ => (i : Int)))]) (fun i => []) (fun i => i ≤ m.Sessions.length ∧ sesF m.Sessions c = sesF (m.Sessions.drop i) c) (fun i => m.Sessions.length - i) 0 ?_ ⟨Nat.zero_le _, rfl⟩ (fun i hi => ?_)
 ·exact lesA
 conv=>arg 4;cbv
 refine Sat.cmp (fun h5 => ?_) (fun h5 => ?_) <;> simp only [Cmp.holds] at h5
 ·have hi2 : i < m.Sessions.length := by exact arA
  conv=>arg 4;cbv
  refine Sat.need (by (try dsimp only); exact arA) ?_
  conv=>arg 4;cbv
  refine Sat.idx (by (try dsimp only); exact arA) (fun x hx => ?_)
  have hx : m.Sessions[i]? = some x := by simpa using hx
  conv=>arg 4;cbv
  refine Sat.cmp (fun h6 => ?_) (fun h6 => ?_) <;> simp only [Cmp.holds] at h6
  ·have he := hr.symm.trans (sesF_hit hi.2 hx h6)
   obtain ⟨rfl, rfl⟩ := Prod.mk.inj he
   conv=>arg 4;cbv
   repeat' first
    | (refine Sat.need ndA ?_; conv=>arg 4;cbv)
    | (refine Sat.idxk (by assumption) ?_; conv=>arg 4;cbv) | (refine Sat.idx ndA (fun v_ hv_ => ?_); conv=>arg 4;cbv)
    | (refine Sat.pop ?_; conv=>arg 4;cbv)
    | refine Sat.done ?_
   all_goals exact ledA
  ·conv=>arg 4;cbv
   refine Sat.ari64 (by (try dsimp only); exact arA) (by (try dsimp only); exact arA) ?_
   conv=>arg 4;cbv
   refine Sat.next (i + 1) ?_ ⟨by exact arA, sesF_step hi.2 hx h6⟩ (by (try dsimp only); exact arA)
   exact lesA
 ·have he := hr.symm.trans (hi.2.trans (by rw [show i = m.Sessions.length by (have := hi.1; exact arA), List.drop_length, sesF]))
  obtain ⟨rfl, rfl⟩ := Prod.mk.inj he
  conv=>arg 4;cbv
  refine Sat.pop ?_
  conv=>arg 4;cbv
  refine Sat.done ?_
  exact ledA
def kOf (l : List GSession) (c : Int) : Nat := (l.takeWhile (fun x => decide (x.Client < c))).length
theorem kOf_eq : ∀ {l : List GSession} {c : Int} {i : Nat}, (∀ x ∈ l.take i, x.Client < c) → (i = l.length ∨ ∃ e, l[i]? = some e ∧ ¬ e.Client < c) → kOf l c = i
 | [], c, i, _, h => by
   rcases h with h | ⟨e, h, _⟩
   ·rw [h]
    rfl
   ·cases h
 | x :: r, c, 0, _, h => by
   rcases h with h | ⟨e, h, hn⟩
   ·cases h
   ·rw [List.getElem?_cons_zero] at h
    cases h
    rw [kOf, List.takeWhile_cons_of_neg (by simp; omega)]
    rfl
 | x :: r, c, i + 1, ha, h => by
   have h1 : x.Client < c := ha x (by simp)
   have h2 : kOf r c = i := kOf_eq (fun y hy => ha y (by rw [List.take_succ_cons]; exact List.mem_cons_of_mem _ hy)) (by
    rcases h with h | ⟨e, h, hn⟩
    ·exact .inl (by simpa using h)
    ·exact .inr ⟨e, by simpa using h, hn⟩)
   rw [kOf, List.takeWhile_cons_of_pos (by simp; omega), List.length_cons]
   rw [kOf] at h2
   omega
def addS (l : List GSession) (had : Bool) (s : GSession) : List GSession := l.take (kOf l s.Client) ++ s :: l.drop (if had = true then kOf l s.Client + 1 else kOf l s.Client)
theorem get_nat {l : List GSession} {i : Nat} {e : GSession} (h : l[0 + (i : Int).toNat]? = some e) : l[i]? = some e := by
 rw [show 0 + (i : Int).toNat = i by omega] at h
 exact h
theorem had_lt {l : List GSession} {c : Int} {i : Nat} {x : GSession} (ha : ∀ x ∈ l.take i, x.Client < c) (hx : x ∈ l) (hc : x.Client = c) : i < l.length := by
 rcases Nat.lt_or_ge i l.length with h1 | h1
 ·exact h1
 ·exfalso
  have := ha x (by rw [List.take_of_length_le h1]; exact hx)
  omega
theorem ap3 {l : List GSession} {i j : Nat} {x : GSession} (hi : i ≤ l.length) : List.take ((i - 0 + 1) + (List.take (l.length - j) (List.drop (0 + j) l)).length) (List.drop 0 (List.take (i - 0 + 1) (List.take (i - 0) (List.take (i - 0) (List.drop (0 + 0) l)) ++ [x]) ++ List.take (l.length - j) (List.drop (0 + j) l))) = l.take i ++ x :: l.drop j := by
 simp only [Nat.sub_zero, Nat.zero_add, List.drop_zero]
 have e0 : List.take i (List.take i l) = l.take i := by rw [List.take_take, Nat.min_self]
 have e1 : List.take (i + 1) (l.take i ++ [x]) = l.take i ++ [x] := List.take_of_length_le (by rw [List.length_append, List.length_take, List.length_singleton]; omega)
 have e2 : List.take (l.length - j) (l.drop j) = l.drop j := List.take_of_length_le (by rw [List.length_drop]; exact Nat.le_refl _)
 rw [e2, e0, e1, List.take_of_length_le (by rw [List.length_append, List.length_append, List.length_take, List.length_singleton]; omega), List.append_assoc]
 rfl
theorem take_lt {l : List GSession} {c : Int} {i : Nat} {e : GSession} (h : ∀ x ∈ l.take i, x.Client < c) (he : l[i]? = some e) (hc : e.Client < c) : ∀ x ∈ l.take (i + 1), x.Client < c := fun x hx => by
 rw [List.take_add_one, he, List.mem_append] at hx
 rcases hx with hx | hx
 ·exact h x hx
 ·simp at hx
  rw [hx]
  exact hc
def resO (m : GMachine) (o : GOp) : GResult := ⟨decide (o.Kind = 1) || decide (m.Objects.getD o.Object.toNat 0 = o.Old), m.Objects.getD o.Object.toNat 0⟩
def newO (m : GMachine) (o : GOp) : GMachine := ⟨if (resO m o).Done = true then m.Objects.set o.Object.toNat o.Value else m.Objects, addS m.Sessions (sesF m.Sessions o.Client).2 ⟨o.Client, o.Seq, resO m o⟩⟩
def aplO (m : GMachine) (o : GOp) : GMachine × GResult × Bool :=
 if validM m = true ∧ okOp o = true then
  if (sesF m.Sessions o.Client).2 = true ∧ (sesF m.Sessions o.Client).1.Seq = o.Seq then (m, (sesF m.Sessions o.Client).1.Result, true)
  else if (sesF m.Sessions o.Client).2 = true ∧ (sesF m.Sessions o.Client).1.Seq > o.Seq then (m, ⟨false, 0⟩, false)
  else (newO m o, resO m o, true)
 else (m, ⟨false, 0⟩, false)
set_option maxHeartbeats 2000000 in
theorem w_spec_ApplyOp (m : GMachine) (o : GOp) (hb : bMachine m) : Fn Pr n_spec_ApplyOp [aGMachine m, aGOp o] (.tup [aGMachine (aplO m o).1, aGResult (aplO m o).2.1, .bo (aplO m o).2.2]) := by
 have h0 : m.Objects.length * 8 ≤ 140737488351232 := hb.1
 have h1 : m.Sessions.length * 32 ≤ 140737488351232 := hb.2
 have WS := w_spec_SessionOf m o.Client hb
 generalize hs : sesF m.Sessions o.Client = sb at WS
 obtain ⟨s, had⟩ := sb
 have hsA : (sesF m.Sessions o.Client).1 = s := congrArg Prod.fst hs
 have hsB : (sesF m.Sessions o.Client).2 = had := congrArg Prod.snd hs
 refine k_spec_ApplyOp.fn (by kernel_rfl) ?_
 conv=>arg 4;cbv
 refine Sat.call (w_spec_l4Copy m hb) rfl ledA ?_
 conv=>arg 4;cbv
 refine Sat.callb (w_spec_IsValidMachine m hb) rfl ledA (fun hA => ?_) (fun hA => ?_)
 rotate_left
 ·have he : aplO m o = (m, ⟨false, 0⟩, false) := by rw [aplO, if_neg (fun e => by rw [hA] at e; exact Bool.false_ne_true e.1)]
  conv=>arg 4;cbv
  refine Sat.done ?_
  rw [he]
  exact ledA
 conv=>arg 4;cbv
 refine Sat.callb (w_spec_IsValidOp o) rfl ledA (fun hB => ?_) (fun hB => ?_)
 rotate_left
 ·have he : aplO m o = (m, ⟨false, 0⟩, false) := by rw [aplO, if_neg (fun e => by rw [hB] at e; exact Bool.false_ne_true e.2)]
  conv=>arg 4;cbv
  refine Sat.done ?_
  rw [he]
  exact ledA
 have hv := validM_spec hA
 have ho := okOp_spec hB
 obtain ⟨sc, sq, sd, sv⟩ := s
 obtain ⟨v, hv2⟩ : ∃ v, m.Objects[o.Object.toNat]? = some v := ⟨_, List.getElem?_eq_getElem (by omega)⟩
 have hgd : m.Objects.getD o.Object.toNat 0 = v := by rw [List.getD_eq_getElem?_getD, hv2]; rfl
 conv=>arg 4;cbv
 cases had
 ·refine Sat.call WS rfl ledA ?_
  conv=>arg 4;cbv
  have he : aplO m o = (newO m o, resO m o, true) := by rw [aplO, if_pos ⟨hA, hB⟩, hs, if_neg (fun q => Bool.false_ne_true q.1), if_neg (fun q => Bool.false_ne_true q.1)]
  refine Sat.need (by (try dsimp only); exact arA) ?_
  conv=>arg 4;cbv
  refine Sat.idx (by (try dsimp only); exact arA) (fun v2 hv3 => ?_)
  obtain rfl : v = v2 := Option.some.inj (Eq.trans (Eq.symm hv2) (by simpa using hv3))
  conv=>arg 4;cbv
  refine Sat.cmp (fun h7 => ?_) (fun h7 => ?_) <;> simp only [Cmp.holds] at h7
  ·have hres : resO m o = ⟨true, v⟩ := by rw [resO, hgd, h7]; rfl
   conv=>arg 4;cbv
   repeat' first | (refine Sat.need ndA ?_; conv=>arg 4;cbv) | (refine Sat.idxk (by assumption) ?_; conv=>arg 4;cbv) | (refine Sat.idx ndA (fun v_ hv_ => ?_); conv=>arg 4;cbv) | (refine Sat.typed o.Value tcA ?_; conv=>arg 4;cbv)
   refine Sat.loopP (ι := Nat) (fun i => [(12, .int .i64 (fun _ => (i : Int)))]) (fun i => []) (fun i => i ≤ m.Sessions.length ∧ ∀ x ∈ m.Sessions.take i, x.Client < o.Client) (fun i => m.Sessions.length - i) 0 ?_ ⟨Nat.zero_le _, by simp⟩ (fun i hi => ?_)
   ·exact lesA
   conv=>arg 4;cbv
   repeat' first
    | (refine Sat.cmp (fun h => ?_) (fun h => ?_) <;> simp only [Cmp.holds] at h <;> (conv=>arg 4;cbv))
    | (refine Sat.may (fun h => ?_) ?_ <;> (conv=>arg 4;cbv))
    | (refine Sat.need ndA ?_; conv=>arg 4;cbv)
    | (refine Sat.idxk (by assumption) ?_; conv=>arg 4;cbv) | (refine Sat.idx ndA (fun v_ hv_ => ?_); conv=>arg 4;cbv)
    | (refine Sat.ari64 ndA ndA ?_; conv=>arg 4;cbv)
    | (refine Sat.pop ?_; conv=>arg 4;cbv)
    | refine Sat.next (i + 1) ?_ ?_ (by (try dsimp only); exact arA)
   all_goals try rw [hres] at he
   all_goals try first
    | (exact lesA; done)
    | exact ⟨by exact arA, take_lt (i := i) hi.2 (by assumption) (by assumption)⟩
    | exact ⟨by exact arA, take_lt (i := i) hi.2 (get_nat (by assumption)) (by assumption)⟩
   all_goals repeat' first
    | (refine Sat.need ⟨fun y _ => flat_GSession y, (by (try dsimp only); (try simp only [List.length_append, List.length_take, List.length_drop, List.length_cons, List.length_nil]); exact arA)⟩ ?_; conv=>arg 4;cbv)
    | (refine Sat.need ⟨rfl, rfl, rfl, (by (try dsimp only); (try simp only [List.length_append, List.length_take, List.length_drop, List.length_cons, List.length_nil]); exact arA)⟩ ?_; conv=>arg 4;cbv)
    | (refine Sat.need ⟨rfl, fun y _ => flat_GSession y, (by (try dsimp only); (try simp only [List.length_append, List.length_take, List.length_drop, List.length_cons, List.length_nil]); exact arA)⟩ ?_; conv=>arg 4;cbv)
    | (refine Sat.typed (⟨o.Client, o.Seq, ⟨true, v⟩⟩ : GSession) tcA ?_; conv=>arg 4;cbv)
    | (refine Sat.same ?_; conv=>arg 4;cbv)
    | (refine Sat.may (fun h => ?_) ?_ <;> (conv=>arg 4;cbv))
    | (refine Sat.need ndA ?_; conv=>arg 4;cbv)
    | (refine Sat.ari64 ndA ndA ?_; conv=>arg 4;cbv)
    | refine Sat.done ?_
   all_goals have hk : kOf m.Sessions o.Client = i := kOf_eq hi.2 (by first | exact .inr ⟨_, get_nat (by assumption), by assumption⟩ | exact .inl (by exact arA))
   all_goals have hS : (newO m o).Sessions = m.Sessions.take i ++ ⟨o.Client, o.Seq, ⟨true, v⟩⟩ :: m.Sessions.drop i := by rw [newO, addS, hk, hsB, hres]; rfl
   all_goals have hO : (newO m o).Objects = m.Objects.set o.Object.toNat o.Value := by rw [newO, hres]; rfl
   all_goals rw [he]
   all_goals refine .tup rfl (led_cons (.agg rfl (led_cons (.sl ?_) (led_cons (.sl ?_) led_nil))) (led_cons (.same _) (led_cons (.same _) led_nil)))
   all_goals first
    | (rw [hO]; simp [setAt]; done)
    | exact (ap3 (j := i) hi.1).trans hS.symm
  conv=>arg 4;cbv
  refine Sat.cmp (fun h8 => ?_) (fun h8 => ?_) <;> simp only [Cmp.holds] at h8
  ·have hres : resO m o = ⟨true, v⟩ := by rw [resO, hgd, h8]; simp
   conv=>arg 4;cbv
   repeat' first | (refine Sat.need ndA ?_; conv=>arg 4;cbv) | (refine Sat.idxk (by assumption) ?_; conv=>arg 4;cbv) | (refine Sat.idx ndA (fun v_ hv_ => ?_); conv=>arg 4;cbv) | (refine Sat.typed o.Value tcA ?_; conv=>arg 4;cbv)
   refine Sat.loopP (ι := Nat) (fun i => [(12, .int .i64 (fun _ => (i : Int)))]) (fun i => []) (fun i => i ≤ m.Sessions.length ∧ ∀ x ∈ m.Sessions.take i, x.Client < o.Client) (fun i => m.Sessions.length - i) 0 ?_ ⟨Nat.zero_le _, by simp⟩ (fun i hi => ?_)
   ·exact lesA
   conv=>arg 4;cbv
   repeat' first
    | (refine Sat.cmp (fun h => ?_) (fun h => ?_) <;> simp only [Cmp.holds] at h <;> (conv=>arg 4;cbv))
    | (refine Sat.may (fun h => ?_) ?_ <;> (conv=>arg 4;cbv))
    | (refine Sat.need ndA ?_; conv=>arg 4;cbv)
    | (refine Sat.idxk (by assumption) ?_; conv=>arg 4;cbv) | (refine Sat.idx ndA (fun v_ hv_ => ?_); conv=>arg 4;cbv)
    | (refine Sat.ari64 ndA ndA ?_; conv=>arg 4;cbv)
    | (refine Sat.pop ?_; conv=>arg 4;cbv)
    | refine Sat.next (i + 1) ?_ ?_ (by (try dsimp only); exact arA)
   all_goals try rw [hres] at he
   all_goals try first
    | (exact lesA; done)
    | exact ⟨by exact arA, take_lt (i := i) hi.2 (by assumption) (by assumption)⟩
    | exact ⟨by exact arA, take_lt (i := i) hi.2 (get_nat (by assumption)) (by assumption)⟩
   all_goals repeat' first
    | (refine Sat.need ⟨fun y _ => flat_GSession y, (by (try dsimp only); (try simp only [List.length_append, List.length_take, List.length_drop, List.length_cons, List.length_nil]); exact arA)⟩ ?_; conv=>arg 4;cbv)
    | (refine Sat.need ⟨rfl, rfl, rfl, (by (try dsimp only); (try simp only [List.length_append, List.length_take, List.length_drop, List.length_cons, List.length_nil]); exact arA)⟩ ?_; conv=>arg 4;cbv)
    | (refine Sat.need ⟨rfl, fun y _ => flat_GSession y, (by (try dsimp only); (try simp only [List.length_append, List.length_take, List.length_drop, List.length_cons, List.length_nil]); exact arA)⟩ ?_; conv=>arg 4;cbv)
    | (refine Sat.typed (⟨o.Client, o.Seq, ⟨true, v⟩⟩ : GSession) tcA ?_; conv=>arg 4;cbv)
    | (refine Sat.same ?_; conv=>arg 4;cbv)
    | (refine Sat.may (fun h => ?_) ?_ <;> (conv=>arg 4;cbv))
    | (refine Sat.need ndA ?_; conv=>arg 4;cbv)
    | (refine Sat.ari64 ndA ndA ?_; conv=>arg 4;cbv)
    | refine Sat.done ?_
   all_goals have hk : kOf m.Sessions o.Client = i := kOf_eq hi.2 (by first | exact .inr ⟨_, get_nat (by assumption), by assumption⟩ | exact .inl (by exact arA))
   all_goals have hS : (newO m o).Sessions = m.Sessions.take i ++ ⟨o.Client, o.Seq, ⟨true, v⟩⟩ :: m.Sessions.drop i := by rw [newO, addS, hk, hsB, hres]; rfl
   all_goals have hO : (newO m o).Objects = m.Objects.set o.Object.toNat o.Value := by rw [newO, hres]; rfl
   all_goals rw [he]
   all_goals refine .tup rfl (led_cons (.agg rfl (led_cons (.sl ?_) (led_cons (.sl ?_) led_nil))) (led_cons (.same _) (led_cons (.same _) led_nil)))
   all_goals first
    | (rw [hO]; simp [setAt]; done)
    | exact (ap3 (j := i) hi.1).trans hS.symm
  ·have hres : resO m o = ⟨false, v⟩ := by rw [resO, hgd, decide_eq_false h7, decide_eq_false h8]; rfl
   conv=>arg 4;cbv
   refine Sat.loopP (ι := Nat) (fun i => [(12, .int .i64 (fun _ => (i : Int)))]) (fun i => []) (fun i => i ≤ m.Sessions.length ∧ ∀ x ∈ m.Sessions.take i, x.Client < o.Client) (fun i => m.Sessions.length - i) 0 ?_ ⟨Nat.zero_le _, by simp⟩ (fun i hi => ?_)
   ·exact lesA
   conv=>arg 4;cbv
   repeat' first
    | (refine Sat.cmp (fun h => ?_) (fun h => ?_) <;> simp only [Cmp.holds] at h <;> (conv=>arg 4;cbv))
    | (refine Sat.may (fun h => ?_) ?_ <;> (conv=>arg 4;cbv))
    | (refine Sat.need ndA ?_; conv=>arg 4;cbv)
    | (refine Sat.idxk (by assumption) ?_; conv=>arg 4;cbv) | (refine Sat.idx ndA (fun v_ hv_ => ?_); conv=>arg 4;cbv)
    | (refine Sat.ari64 ndA ndA ?_; conv=>arg 4;cbv)
    | (refine Sat.pop ?_; conv=>arg 4;cbv)
    | refine Sat.next (i + 1) ?_ ?_ (by (try dsimp only); exact arA)
   all_goals try rw [hres] at he
   all_goals try first
    | (exact lesA; done)
    | exact ⟨by exact arA, take_lt (i := i) hi.2 (by assumption) (by assumption)⟩
    | exact ⟨by exact arA, take_lt (i := i) hi.2 (get_nat (by assumption)) (by assumption)⟩
   all_goals repeat' first
    | (refine Sat.need ⟨fun y _ => flat_GSession y, (by (try dsimp only); (try simp only [List.length_append, List.length_take, List.length_drop, List.length_cons, List.length_nil]); exact arA)⟩ ?_; conv=>arg 4;cbv)
    | (refine Sat.need ⟨rfl, rfl, rfl, (by (try dsimp only); (try simp only [List.length_append, List.length_take, List.length_drop, List.length_cons, List.length_nil]); exact arA)⟩ ?_; conv=>arg 4;cbv)
    | (refine Sat.need ⟨rfl, fun y _ => flat_GSession y, (by (try dsimp only); (try simp only [List.length_append, List.length_take, List.length_drop, List.length_cons, List.length_nil]); exact arA)⟩ ?_; conv=>arg 4;cbv)
    | (refine Sat.typed (⟨o.Client, o.Seq, ⟨false, v⟩⟩ : GSession) tcA ?_; conv=>arg 4;cbv)
    | (refine Sat.same ?_; conv=>arg 4;cbv)
    | (refine Sat.may (fun h => ?_) ?_ <;> (conv=>arg 4;cbv))
    | (refine Sat.need ndA ?_; conv=>arg 4;cbv)
    | (refine Sat.ari64 ndA ndA ?_; conv=>arg 4;cbv)
    | refine Sat.done ?_
   all_goals have hk : kOf m.Sessions o.Client = i := kOf_eq hi.2 (by first | exact .inr ⟨_, get_nat (by assumption), by assumption⟩ | exact .inl (by exact arA))
   all_goals have hS : (newO m o).Sessions = m.Sessions.take i ++ ⟨o.Client, o.Seq, ⟨false, v⟩⟩ :: m.Sessions.drop i := by rw [newO, addS, hk, hsB, hres]; rfl
   all_goals have hO : (newO m o).Objects = m.Objects := by rw [newO, hres]; rfl
   all_goals rw [he]
   all_goals refine .tup rfl (led_cons (.agg rfl (led_cons (.sl ?_) (led_cons (.sl ?_) led_nil))) (led_cons (.same _) (led_cons (.same _) led_nil)))
   all_goals first
    | (rw [hO]; simp [setAt]; done)
    | exact (ap3 (j := i) hi.1).trans hS.symm
 ·obtain ⟨xs, hxs, hxc, _⟩ := sesF_in hsB
  refine Sat.call WS rfl ledA ?_
  conv=>arg 4;cbv
  refine Sat.cmp (fun h5 => ?_) (fun h5 => ?_) <;> simp only [Cmp.holds] at h5
  ·have he : aplO m o = (m, ⟨sd, sv⟩, true) := by rw [aplO, if_pos ⟨hA, hB⟩, hs, if_pos ⟨rfl, h5⟩]
   conv=>arg 4;cbv
   repeat' first | (refine Sat.may (fun h => ?_) ?_ <;> (conv=>arg 4;cbv)) | refine Sat.done ?_
   all_goals rw [he]
   all_goals exact ledA
  conv=>arg 4;cbv
  refine Sat.cmp (fun h6 => ?_) (fun h6 => ?_) <;> simp only [Cmp.holds] at h6
  ·have he : aplO m o = (m, ⟨false, 0⟩, false) := by rw [aplO, if_pos ⟨hA, hB⟩, hs, if_neg (fun q => h5 q.2), if_pos ⟨rfl, h6⟩]
   conv=>arg 4;cbv
   refine Sat.done ?_
   rw [he]
   exact ledA
  conv=>arg 4;cbv
  have he : aplO m o = (newO m o, resO m o, true) := by rw [aplO, if_pos ⟨hA, hB⟩, hs, if_neg (fun q => h5 q.2), if_neg (fun q => h6 q.2)]
  refine Sat.need (by (try dsimp only); exact arA) ?_
  conv=>arg 4;cbv
  refine Sat.idx (by (try dsimp only); exact arA) (fun v2 hv3 => ?_)
  obtain rfl : v = v2 := Option.some.inj (Eq.trans (Eq.symm hv2) (by simpa using hv3))
  conv=>arg 4;cbv
  refine Sat.cmp (fun h7 => ?_) (fun h7 => ?_) <;> simp only [Cmp.holds] at h7
  ·have hres : resO m o = ⟨true, v⟩ := by rw [resO, hgd, h7]; rfl
   conv=>arg 4;cbv
   repeat' first | (refine Sat.need ndA ?_; conv=>arg 4;cbv) | (refine Sat.idxk (by assumption) ?_; conv=>arg 4;cbv) | (refine Sat.idx ndA (fun v_ hv_ => ?_); conv=>arg 4;cbv) | (refine Sat.typed o.Value tcA ?_; conv=>arg 4;cbv)
   refine Sat.loopP (ι := Nat) (fun i => [(12, .int .i64 (fun _ => (i : Int)))]) (fun i => []) (fun i => i ≤ m.Sessions.length ∧ ∀ x ∈ m.Sessions.take i, x.Client < o.Client) (fun i => m.Sessions.length - i) 0 ?_ ⟨Nat.zero_le _, by simp⟩ (fun i hi => ?_)
   ·exact lesA
   conv=>arg 4;cbv
   repeat' first
    | (refine Sat.cmp (fun h => ?_) (fun h => ?_) <;> simp only [Cmp.holds] at h <;> (conv=>arg 4;cbv))
    | (refine Sat.may (fun h => ?_) ?_ <;> (conv=>arg 4;cbv))
    | (refine Sat.need ndA ?_; conv=>arg 4;cbv)
    | (refine Sat.idxk (by assumption) ?_; conv=>arg 4;cbv) | (refine Sat.idx ndA (fun v_ hv_ => ?_); conv=>arg 4;cbv)
    | (refine Sat.ari64 ndA ndA ?_; conv=>arg 4;cbv)
    | (refine Sat.pop ?_; conv=>arg 4;cbv)
    | refine Sat.next (i + 1) ?_ ?_ (by (try dsimp only); exact arA)
   all_goals try rw [hres] at he
   all_goals try first
    | (exact lesA; done)
    | exact ⟨by exact arA, take_lt (i := i) hi.2 (by assumption) (by assumption)⟩
    | exact ⟨by exact arA, take_lt (i := i) hi.2 (get_nat (by assumption)) (by assumption)⟩
   all_goals have hil : i < m.Sessions.length := had_lt hi.2 hxs hxc
   all_goals repeat' first
    | (refine Sat.need ⟨fun y _ => flat_GSession y, (by (try dsimp only); (try simp only [List.length_append, List.length_take, List.length_drop, List.length_cons, List.length_nil]); exact arA)⟩ ?_; conv=>arg 4;cbv)
    | (refine Sat.need ⟨rfl, rfl, rfl, (by (try dsimp only); (try simp only [List.length_append, List.length_take, List.length_drop, List.length_cons, List.length_nil]); exact arA)⟩ ?_; conv=>arg 4;cbv)
    | (refine Sat.need ⟨rfl, fun y _ => flat_GSession y, (by (try dsimp only); (try simp only [List.length_append, List.length_take, List.length_drop, List.length_cons, List.length_nil]); exact arA)⟩ ?_; conv=>arg 4;cbv)
    | (refine Sat.typed (⟨o.Client, o.Seq, ⟨true, v⟩⟩ : GSession) tcA ?_; conv=>arg 4;cbv)
    | (refine Sat.same ?_; conv=>arg 4;cbv)
    | (refine Sat.may (fun h => ?_) ?_ <;> (conv=>arg 4;cbv))
    | (refine Sat.need ndA ?_; conv=>arg 4;cbv)
    | (refine Sat.ari64 ndA ndA ?_; conv=>arg 4;cbv)
    | refine Sat.done ?_
   all_goals have hk : kOf m.Sessions o.Client = i := kOf_eq hi.2 (by first | exact .inr ⟨_, get_nat (by assumption), by assumption⟩ | exact .inl (by exact arA))
   all_goals have hS : (newO m o).Sessions = m.Sessions.take i ++ ⟨o.Client, o.Seq, ⟨true, v⟩⟩ :: m.Sessions.drop (i + 1) := by rw [newO, addS, hk, hsB, hres]; rfl
   all_goals have hO : (newO m o).Objects = m.Objects.set o.Object.toNat o.Value := by rw [newO, hres]; rfl
   all_goals rw [he]
   all_goals refine .tup rfl (led_cons (.agg rfl (led_cons (.sl ?_) (led_cons (.sl ?_) led_nil))) (led_cons (.same _) (led_cons (.same _) led_nil)))
   all_goals first
    | (rw [hO]; simp [setAt]; done)
    | exact (ap3 (j := (i + 1)) hi.1).trans hS.symm
  conv=>arg 4;cbv
  refine Sat.cmp (fun h8 => ?_) (fun h8 => ?_) <;> simp only [Cmp.holds] at h8
  ·have hres : resO m o = ⟨true, v⟩ := by rw [resO, hgd, h8]; simp
   conv=>arg 4;cbv
   repeat' first | (refine Sat.need ndA ?_; conv=>arg 4;cbv) | (refine Sat.idxk (by assumption) ?_; conv=>arg 4;cbv) | (refine Sat.idx ndA (fun v_ hv_ => ?_); conv=>arg 4;cbv) | (refine Sat.typed o.Value tcA ?_; conv=>arg 4;cbv)
   refine Sat.loopP (ι := Nat) (fun i => [(12, .int .i64 (fun _ => (i : Int)))]) (fun i => []) (fun i => i ≤ m.Sessions.length ∧ ∀ x ∈ m.Sessions.take i, x.Client < o.Client) (fun i => m.Sessions.length - i) 0 ?_ ⟨Nat.zero_le _, by simp⟩ (fun i hi => ?_)
   ·exact lesA
   conv=>arg 4;cbv
   repeat' first
    | (refine Sat.cmp (fun h => ?_) (fun h => ?_) <;> simp only [Cmp.holds] at h <;> (conv=>arg 4;cbv))
    | (refine Sat.may (fun h => ?_) ?_ <;> (conv=>arg 4;cbv))
    | (refine Sat.need ndA ?_; conv=>arg 4;cbv)
    | (refine Sat.idxk (by assumption) ?_; conv=>arg 4;cbv) | (refine Sat.idx ndA (fun v_ hv_ => ?_); conv=>arg 4;cbv)
    | (refine Sat.ari64 ndA ndA ?_; conv=>arg 4;cbv)
    | (refine Sat.pop ?_; conv=>arg 4;cbv)
    | refine Sat.next (i + 1) ?_ ?_ (by (try dsimp only); exact arA)
   all_goals try rw [hres] at he
   all_goals try first
    | (exact lesA; done)
    | exact ⟨by exact arA, take_lt (i := i) hi.2 (by assumption) (by assumption)⟩
    | exact ⟨by exact arA, take_lt (i := i) hi.2 (get_nat (by assumption)) (by assumption)⟩
   all_goals have hil : i < m.Sessions.length := had_lt hi.2 hxs hxc
   all_goals repeat' first
    | (refine Sat.need ⟨fun y _ => flat_GSession y, (by (try dsimp only); (try simp only [List.length_append, List.length_take, List.length_drop, List.length_cons, List.length_nil]); exact arA)⟩ ?_; conv=>arg 4;cbv)
    | (refine Sat.need ⟨rfl, rfl, rfl, (by (try dsimp only); (try simp only [List.length_append, List.length_take, List.length_drop, List.length_cons, List.length_nil]); exact arA)⟩ ?_; conv=>arg 4;cbv)
    | (refine Sat.need ⟨rfl, fun y _ => flat_GSession y, (by (try dsimp only); (try simp only [List.length_append, List.length_take, List.length_drop, List.length_cons, List.length_nil]); exact arA)⟩ ?_; conv=>arg 4;cbv)
    | (refine Sat.typed (⟨o.Client, o.Seq, ⟨true, v⟩⟩ : GSession) tcA ?_; conv=>arg 4;cbv)
    | (refine Sat.same ?_; conv=>arg 4;cbv)
    | (refine Sat.may (fun h => ?_) ?_ <;> (conv=>arg 4;cbv))
    | (refine Sat.need ndA ?_; conv=>arg 4;cbv)
    | (refine Sat.ari64 ndA ndA ?_; conv=>arg 4;cbv)
    | refine Sat.done ?_
   all_goals have hk : kOf m.Sessions o.Client = i := kOf_eq hi.2 (by first | exact .inr ⟨_, get_nat (by assumption), by assumption⟩ | exact .inl (by exact arA))
   all_goals have hS : (newO m o).Sessions = m.Sessions.take i ++ ⟨o.Client, o.Seq, ⟨true, v⟩⟩ :: m.Sessions.drop (i + 1) := by rw [newO, addS, hk, hsB, hres]; rfl
   all_goals have hO : (newO m o).Objects = m.Objects.set o.Object.toNat o.Value := by rw [newO, hres]; rfl
   all_goals rw [he]
   all_goals refine .tup rfl (led_cons (.agg rfl (led_cons (.sl ?_) (led_cons (.sl ?_) led_nil))) (led_cons (.same _) (led_cons (.same _) led_nil)))
   all_goals first
    | (rw [hO]; simp [setAt]; done)
    | exact (ap3 (j := (i + 1)) hi.1).trans hS.symm
  ·have hres : resO m o = ⟨false, v⟩ := by rw [resO, hgd, decide_eq_false h7, decide_eq_false h8]; rfl
   conv=>arg 4;cbv
   refine Sat.loopP (ι := Nat) (fun i => [(12, .int .i64 (fun _ => (i : Int)))]) (fun i => []) (fun i => i ≤ m.Sessions.length ∧ ∀ x ∈ m.Sessions.take i, x.Client < o.Client) (fun i => m.Sessions.length - i) 0 ?_ ⟨Nat.zero_le _, by simp⟩ (fun i hi => ?_)
   ·exact lesA
   conv=>arg 4;cbv
   repeat' first
    | (refine Sat.cmp (fun h => ?_) (fun h => ?_) <;> simp only [Cmp.holds] at h <;> (conv=>arg 4;cbv))
    | (refine Sat.may (fun h => ?_) ?_ <;> (conv=>arg 4;cbv))
    | (refine Sat.need ndA ?_; conv=>arg 4;cbv)
    | (refine Sat.idxk (by assumption) ?_; conv=>arg 4;cbv) | (refine Sat.idx ndA (fun v_ hv_ => ?_); conv=>arg 4;cbv)
    | (refine Sat.ari64 ndA ndA ?_; conv=>arg 4;cbv)
    | (refine Sat.pop ?_; conv=>arg 4;cbv)
    | refine Sat.next (i + 1) ?_ ?_ (by (try dsimp only); exact arA)
   all_goals try rw [hres] at he
   all_goals try first
    | (exact lesA; done)
    | exact ⟨by exact arA, take_lt (i := i) hi.2 (by assumption) (by assumption)⟩
    | exact ⟨by exact arA, take_lt (i := i) hi.2 (get_nat (by assumption)) (by assumption)⟩
   all_goals have hil : i < m.Sessions.length := had_lt hi.2 hxs hxc
   all_goals repeat' first
    | (refine Sat.need ⟨fun y _ => flat_GSession y, (by (try dsimp only); (try simp only [List.length_append, List.length_take, List.length_drop, List.length_cons, List.length_nil]); exact arA)⟩ ?_; conv=>arg 4;cbv)
    | (refine Sat.need ⟨rfl, rfl, rfl, (by (try dsimp only); (try simp only [List.length_append, List.length_take, List.length_drop, List.length_cons, List.length_nil]); exact arA)⟩ ?_; conv=>arg 4;cbv)
    | (refine Sat.need ⟨rfl, fun y _ => flat_GSession y, (by (try dsimp only); (try simp only [List.length_append, List.length_take, List.length_drop, List.length_cons, List.length_nil]); exact arA)⟩ ?_; conv=>arg 4;cbv)
    | (refine Sat.typed (⟨o.Client, o.Seq, ⟨false, v⟩⟩ : GSession) tcA ?_; conv=>arg 4;cbv)
    | (refine Sat.same ?_; conv=>arg 4;cbv)
    | (refine Sat.may (fun h => ?_) ?_ <;> (conv=>arg 4;cbv))
    | (refine Sat.need ndA ?_; conv=>arg 4;cbv)
    | (refine Sat.ari64 ndA ndA ?_; conv=>arg 4;cbv)
    | refine Sat.done ?_
   all_goals have hk : kOf m.Sessions o.Client = i := kOf_eq hi.2 (by first | exact .inr ⟨_, get_nat (by assumption), by assumption⟩ | exact .inl (by exact arA))
   all_goals have hS : (newO m o).Sessions = m.Sessions.take i ++ ⟨o.Client, o.Seq, ⟨false, v⟩⟩ :: m.Sessions.drop (i + 1) := by rw [newO, addS, hk, hsB, hres]; rfl
   all_goals have hO : (newO m o).Objects = m.Objects := by rw [newO, hres]; rfl
   all_goals rw [he]
   all_goals refine .tup rfl (led_cons (.agg rfl (led_cons (.sl ?_) (led_cons (.sl ?_) led_nil))) (led_cons (.same _) (led_cons (.same _) led_nil)))
   all_goals first
    | (rw [hO]; simp [setAt]; done)
    | exact (ap3 (j := (i + 1)) hi.1).trans hS.symm
def isMc (k : Nat) : AV → Prop := fun r => ∃ m : GMachine, r = aGMachine m ∧ m.Objects.length = 3 ∧ m.Sessions.length ≤ k
theorem addS_len (l : List GSession) (had : Bool) (s : GSession) : (addS l had s).length ≤ l.length + 1 := by
 rw [addS, List.length_append, List.length_cons, List.length_take, List.length_drop]
 split <;> omega
theorem aplO_len (m : GMachine) (o : GOp) : (aplO m o).1.Objects.length = m.Objects.length ∧ (aplO m o).1.Sessions.length ≤ m.Sessions.length + 1 := by
 unfold aplO
 split
 ·split
  ·exact ⟨rfl, Nat.le_succ _⟩
  ·split
   ·exact ⟨rfl, Nat.le_succ _⟩
   ·refine ⟨?_, addS_len _ _ _⟩
    show (if (resO m o).Done = true then m.Objects.set o.Object.toNat o.Value else m.Objects).length = _
    split
    ·exact List.length_set
    ·rfl
 ·exact ⟨rfl, Nat.le_succ _⟩
theorem setCells_row (g : Nat) (t : TypeId) : ∀ (vs : List Value) (o : Nat) (cur : Array Value) (w : World), w.heap[g]? = some (.cells cur t (0, 0)) → o + vs.length ≤ cur.size → w.setCells g o vs = w.setRow g (cur.toList.take o ++ vs ++ cur.toList.drop (o + vs.length)).toArray
 | [], o, cur, w, hg, _ => by
   simp only [World.setCells, List.append_nil, List.length_nil, Nat.add_zero, List.take_append_drop, Array.toArray_toList]
   rw [setRow_self w g cur t (0, 0) hg]
 | v :: r, o, cur, w, hg, hl => by
   have hl' : o + (r.length + 1) ≤ cur.size := hl
   rw [World.setCells, setCell_eq_setRow w g o cur t (0, 0) v hg, setCells_row g t r (o + 1) _ _ (setRow_heap w g cur _ t _ hg) (by simp; omega), setRow_setRow]
   congr 2
   have e := list_seg_step cur.toList o v r (by simp; omega)
   simpa [Array.toList_setIfInBounds, Nat.add_assoc] using e
theorem setCells_two {w : World} {g o o' : Nat} {vs ws : List Value} {cur : Array Value} {t : TypeId} (hg : w.heap[g]? = some (.cells cur t (0, 0))) (ho : o' = o + vs.length) (hl : o + vs.length + ws.length ≤ cur.size) : (w.setCells g o' ws).setCells g o vs = w.setCells g o (vs ++ ws) := by
 subst ho
 have hsz : (cur.toList.take (o + vs.length) ++ ws ++ cur.toList.drop (o + vs.length + ws.length)).toArray.size = cur.size := by
  rw [List.size_toArray, List.length_append, List.length_append, List.length_take, List.length_drop]
  have : cur.toList.length = cur.size := rfl
  omega
 have hl2 : o + (vs ++ ws).length ≤ cur.size := by rw [List.length_append]; omega
 rw [setCells_row g t ws _ cur w hg hl, setCells_row g t vs o _ _ (setRow_heap w g cur _ t _ hg) (Nat.le_trans (show o + vs.length ≤ cur.size by omega) (Nat.le_of_eq hsz.symm)), setRow_setRow, setCells_row g t (vs ++ ws) o cur w hg hl2]
 congr 2
 have hlen : (cur.toList.take (o + vs.length)).length = o + vs.length := by rw [List.length_take]; have : cur.toList.length = cur.size := rfl; omega
 have e1 : List.take o (cur.toList.take (o + vs.length) ++ ws ++ cur.toList.drop (o + vs.length + ws.length)) = cur.toList.take o := by
  rw [List.append_assoc, List.take_append_of_le_length (by omega), List.take_take, Nat.min_eq_left (by omega)]
 have e2 : List.drop (o + vs.length) (cur.toList.take (o + vs.length) ++ ws ++ cur.toList.drop (o + vs.length + ws.length)) = ws ++ cur.toList.drop (o + vs.length + ws.length) := by
  rw [List.append_assoc, List.drop_left' hlen]
 rw [List.toList_toArray, e1, e2, List.length_append, ← Nat.add_assoc]
 simp only [List.append_assoc]
theorem run_copy_z {P : Program} (w : World) (dT sT ty elem : TypeId) (b o dLen dCap : Nat) (a : Addr) (sLen sCap z : Nat) (cs : List Value)
 (hu : P.underlying dT = some (.slice elem)) (hs : (P.info? elem).map (·.size) = some z) (hn : cs.length = Nat.min sLen dLen * z)
 (hsrc : ∀ j v, cs[j]? = some v → w.cell? (a.add j) = some v) (hc : ∀ j, j < cs.length → (w.cell? ⟨b, o + j, none⟩).isSome = true) (hf : ∀ j, j < cs.length → w.frozen? ⟨b, o + j, none⟩ = false) (h1 : ∀ v ∈ cs, v.oneCell' = true) :
 (Builtin.copy_ #[dT, sT] ty #[.slice (some ⟨b, o, none⟩) dLen dCap, .slice (some a) sLen sCap]).run P w = .ok (goInt (Nat.min sLen dLen)) (w.setCells b o cs) := by
 have hl := run_loadCells_list (P := P) w a cs hsrc
 have hst := run_storeCells_cells (P := P) b o cs 0 w (by simpa using hc) (by simpa using hf) h1
 cases hq : P.info? elem with
 | none => simp [hq] at hs
 | some i =>
   have hi : i.size = z := by simpa [hq] using hs
   simp [Builtin.copy_, run_underlying hu, Builtin.lenOf, Builtin.firstCells, sizeOf, typeInfo, hq, hi, ← hn, hl, hst]
theorem alloc_setCells {w : World} {R : Array Value} {t : TypeId} {o : Nat} {vs : List Value} (hl : o + vs.length ≤ R.size) : (w.alloc (.cells R t)).setCells w.heap.size o vs = w.alloc (.cells (R.toList.take o ++ vs ++ R.toList.drop (o + vs.length)).toArray t) := by
 have hg : (w.alloc (.cells R t)).heap[w.heap.size]? = some (.cells R t (0, 0)) := by show (w.heap.push _)[w.heap.size]? = _; simp
 rw [setCells_row _ t vs o R _ hg hl]
 unfold World.setRow World.alloc
 congr 1
 apply Array.ext
 ·simp
 ·intro k h1 h2
  simp only [Array.getElem_modify, Array.getElem_push]
  split
  ·rename_i hk
   subst hk
   simp
  ·rename_i hk
   by_cases h : k < w.heap.size
   ·simp [h]
   ·exfalso
    simp at h1
    omega
--import Derived.Shelf.Spec.SlicesInsert
--import Derived.Lib.AppendZerosOnto
--import Derived.Laws.NewBlocks
section
open Go.Proofs
theorem insT : Pr.underlying 25 = some (.slice 70) := by kernel_rfl
theorem insI : ∃ (i : TypeInfo) (z : Value), Pr.info? 70 = some i ∧ i.zero = some z ∧ i.size = 4 ∧ i.bytes = 32 ∧ z.cells.size = 4 := by
 have h : (Pr.info? 70).map (fun i => (i.zero.map (·.cells.size), i.size, i.bytes)) = some (some 4, 4, 32) := by kernel_rfl
 obtain ⟨i, h1, h2⟩ := Option.map_eq_some_iff.1 h
 obtain ⟨h3, h4⟩ := Prod.mk.inj h2
 obtain ⟨h4, h5⟩ := Prod.mk.inj h4
 obtain ⟨z, h6, h7⟩ := Option.map_eq_some_iff.1 h3
 exact ⟨i, z, h1, h6, h4, h5, h7⟩
theorem insZ : ∀ w, (Go.sizeOf 70).run Pr w = .ok 4 w := fun w => by
 obtain ⟨i, z, h1, h2, h3, h4, h5⟩ := insI
 simp [Go.sizeOf, Go.typeInfo, h1, h3]
set_option maxHeartbeats 4000000 in
theorem ins_end (w : World) (A : Option Addr) (n cap vb vo vc : Nat) (olds news : List Value) (hnc : n ≤ cap) (hn6 : n ≤ 1000000) (hol : olds.length = n * 4) (hnl : news.length = 4) (h1n : ∀ v ∈ news, v.oneCell' = true)
 (hcell : ∀ j u, olds[j]? = some u → ∃ ad, A = some ad ∧ w.cell? (ad.add j) = some u) (hA : 0 < cap → ∃ g o cells ty, A = some ⟨g, o, none⟩ ∧ g ≠ vb ∧ w.heap[g]? = some (.cells cells ty (0, 0)) ∧ o + cap * 4 ≤ cells.size)
 (hv : ∃ cells ty, w.heap[vb]? = some (.cells cells ty (0, 0)) ∧ ∀ j u, news[j]? = some u → cells[vo + j]? = some u) :
 Calls Pr 50 #[.slice A n cap, .int .i64 n, .slice (some ⟨vb, vo, none⟩) 1 vc] w fun e w' => ∃ u, e = .returned u ∧ Grown w 70 4 A n cap 1 olds news u w' := by
 obtain ⟨vcells, vty, hvg, hvs⟩ := hv
 obtain ⟨i0, z0, hi0, hz0, hs0, hb0, hzs0⟩ := insI
 have u25 := run_underlying insT
 have hsrc : Src Pr 4 25 (.slice (some ⟨vb, vo, none⟩) 1 vc) 1 news w := Src.ofSlice w insT ⟨vb, vo, none⟩ 1 vc news (by omega) (fun j u hj => by rw [addr_add, cell_of hvg]; exact hvs j u hj) h1n
 obtain ⟨u, w', hrun, hg⟩ := app_run (P := Pr) (ty := 25) (tx := 25) insT hi0 hz0 hs0 hb0 hzs0 (by omega) (by omega) hnc hsrc hol hcell (fun hc => by
  obtain ⟨g, o, cells, ty, h1, h2, h3, h4⟩ := hA hc
  refine ⟨g, o, h1, fun j hj => ?_, fun j => ?_⟩
  ·rw [cell_of h3, Array.getElem?_eq_getElem (by omega)]; rfl
  ·simp [World.frozen?, h3]) (by omega)
 have mixed := hm
 go_enter Go.Proofs.Tryd.func50, (show Go.Proofs.Tryd.f50.ntmps = 95 by kernel_rfl)
 cases A with
 | none =>
   have h0 : n = 0 := by
    rcases Nat.eq_zero_or_pos n with h | h
    ·exact h
    ·obtain ⟨ad, had, _⟩ := hcell 0 _ (List.getElem?_eq_getElem (show 0 < olds.length by omega))
     cases had
   subst h0
   go_wp2_with (at_builtin; refine Lib.wpList_append_run _ rfl _ _ _ _ rfl _ _ rfl rfl _ _ hrun ?_)
   all_goals (go_ret; first | exact ⟨u, rfl, hg⟩ | (have e : cap = n := (by omega); subst e; exact ⟨u, rfl, hg⟩))
 | some a =>
   obtain ⟨ab, ao, asp⟩ := a
   go_wp2_with (at_builtin; refine Lib.wpList_append_run _ rfl _ _ _ _ rfl _ _ rfl rfl _ _ hrun ?_)
   all_goals (go_ret; first | exact ⟨u, rfl, hg⟩ | (have e : cap = n := (by omega); subst e; exact ⟨u, rfl, hg⟩))
set_option maxHeartbeats 4000000 in
theorem ins_shift (w : World) (g o n cap i vb vo vc : Nat) (olds news : List Value) (hnc : n + 1 ≤ cap) (hin : i < n) (hn6 : n ≤ 1000000) (hol : olds.length = n * 4) (hnl : news.length = 4) (h1o : ∀ v ∈ olds, v.oneCell' = true) (h1n : ∀ v ∈ news, v.oneCell' = true)
 (hgv : g ≠ vb) (cells : Array Value) (ty : TypeId) (hg : w.heap[g]? = some (.cells cells ty (0, 0))) (hsz : o + cap * 4 ≤ cells.size) (hcell : ∀ j u, olds[j]? = some u → cells[o + j]? = some u)
 (hv : ∃ cells ty, w.heap[vb]? = some (.cells cells ty (0, 0)) ∧ ∀ j u, news[j]? = some u → cells[vo + j]? = some u) :
 Calls Pr 50 #[.slice (some ⟨g, o, none⟩) n cap, .int .i64 i, .slice (some ⟨vb, vo, none⟩) 1 vc] w fun e w' => e = .returned (.slice (some ⟨g, o, none⟩) (n + 1) cap) ∧ w' = w.drew.setCells g (o + i * 4) (news ++ olds.drop (i * 4)) := by
 obtain ⟨vcells, vty, hvg, hvs⟩ := hv
 obtain ⟨i0, z0, hi0, hz0, hs0, hb0, hzs0⟩ := insI
 have u25 := run_underlying insT
 have hsz1 : (Pr.info? 70).map (·.size) = some 4 := by rw [hi0]; simp [hs0]
 have hz2 : ¬ ((i : Int) = (n : Int)) := by omega
 have hov : ∀ lb cb, (callFunc 60 #[.slice (some ⟨vb, vo, none⟩) 1 vc, .slice (some ⟨g, o + (i + 1) * 4, none⟩) lb cb]).run Pr w = .ok (.value (.bool false)) w := fun lb cb => by
  rw [run_callFunc_extern Go.Proofs.Tryd.func60 (by kernel_rfl) (by kernel_rfl) (by kernel_rfl) (e := Extern.SlicesOverlaps.overlaps #[25, 25] #[4]) (by kernel_rfl),
   Lib.run_overlaps_apart w 25 4 70 insT 4 insZ ⟨vb, vo, none⟩ ⟨g, o + (i + 1) * 4, none⟩ 1 vc lb cb (fun e => hgv e.symm) vty ty vcells.size cells.size (by simp [World.shape?, hvg]) (by simp [World.shape?, hg]) (by omega) (by simp [World.frozen?, hvg]) (by simp [World.frozen?, hvg])]
  rfl
 have hdl : (olds.drop (i * 4)).length = (n - i) * 4 := by rw [List.length_drop, hol, Nat.sub_mul]
 have mixed := hm
 have hw1 : IntKind.i64.wrap ((i : Int) + (1 : Int)) = (i : Int) + (1 : Int) := by rw [IntKind.wrap_i64]; omega
 have hb1 : (0 : Int) ≤ (i : Int) + (1 : Int) := by omega
 have hin' : i ≤ n := by omega
 have htn : ((i : Int) + (1 : Int)).toNat = i + 1 := by omega
 have hb2 : ¬ (cap = i + 1) := by omega
 have hb3 : (i : Int) ≤ (n : Int) + (1 : Int) := by omega
 have hb4 : ¬ (cap = i) := by omega
 have hoW : ∀ j u, olds[j]? = some u → w.cell? ⟨g, o + j, none⟩ = some u := fun j u hj => by rw [cell_of hg]; exact hcell j u hj
 have hspW : ∀ k, k < (n + 1) * 4 → (w.cell? ⟨g, o + k, none⟩).isSome = true := fun k hk => by rw [cell_of hg, Array.getElem?_eq_getElem (by omega)]; rfl
 have hfzW : ∀ k, w.frozen? ⟨g, k, none⟩ = false := fun k => by simp [World.frozen?, hg]
 have hcp1 : ∀ t dc sc, (Builtin.copy_ #[25, 25] t #[.slice (some ⟨g, o + (i + 1) * 4, none⟩) (n - i) dc, .slice (some ⟨g, o + i * 4, none⟩) (n + 1 - i) sc]).run Pr w.drew = .ok (goInt (Nat.min (n + 1 - i) (n - i))) (w.drew.setCells g (o + (i + 1) * 4) (olds.drop (i * 4))) := fun t dc sc =>
  run_copy_z w.drew _ _ t 70 g (o + (i + 1) * 4) (n - i) dc ⟨g, o + i * 4, none⟩ (n + 1 - i) sc 4 (olds.drop (i * 4)) insT hsz1 (by rw [hdl]; congr 1; simp only [Nat.min_def]; split <;> omega)
   (fun j v hj => by rw [Addr.add_lit, Nat.add_assoc]; exact hoW (i * 4 + j) v (by rwa [List.getElem?_drop] at hj))
   (fun j hj => by rw [hdl] at hj; rw [Nat.add_assoc]; exact hspW _ (by omega)) (fun j hj => hfzW _) (fun v hv => h1o v (List.mem_of_mem_drop hv))
 obtain ⟨W1, hW1⟩ : ∃ W1, W1 = w.drew.setCells g (o + (i + 1) * 4) (olds.drop (i * 4)) := ⟨_, rfl⟩
 have hsp1 : ∀ k, k < (n + 1) * 4 → (W1.cell? ⟨g, o + k, none⟩).isSome = true := fun k hk => by
  rw [hW1]
  exact isSome_setCells g _ _ _ (fun j hj => by rw [hdl] at hj; rw [Nat.add_assoc]; exact hspW _ (by omega)) _ (hspW k hk)
 have hcp2 : ∀ (W : World), (∀ x, W.cell? x = W1.cell? x) → (∀ x, W.frozen? x = W1.frozen? x) → ∀ t dc, (Builtin.copy_ #[25, 25] t #[.slice (some ⟨g, o + i * 4, none⟩) (n + 1 - i) dc, .slice (some ⟨vb, vo, none⟩) 1 vc]).run Pr W = .ok (goInt (Nat.min 1 (n + 1 - i))) (W.setCells g (o + i * 4) news) := fun W hWc hWf t dc =>
  run_copy_z W _ _ t 70 g (o + i * 4) (n + 1 - i) dc ⟨vb, vo, none⟩ 1 vc 4 news insT hsz1 (by rw [hnl]; simp only [Nat.min_def]; split <;> omega)
   (fun j v hj => by
     rw [Addr.add_lit, hWc, hW1, World.cell?_setCells_out g _ _ _ _ (fun h _ => absurd h.symm hgv)]
     show w.cell? ⟨vb, vo + j, none⟩ = some v
     rw [cell_of hvg]
     exact hvs j v hj)
   (fun j hj => by rw [hWc, Nat.add_assoc]; exact hsp1 _ (by omega)) (fun j hj => by rw [hWf, hW1, World.frozen?_setCells]; exact hfzW _) h1n
 rw [← hW1] at hcp1
 have hfin : W1.setCells g (o + i * 4) news = w.drew.setCells g (o + i * 4) (news ++ olds.drop (i * 4)) := by
  rw [hW1]
  exact setCells_two (w := w.drew) (t := ty) (cur := cells) hg (by rw [hnl]; omega) (by rw [hnl, hdl]; omega)
 rw [← hfin]
 go_enter Go.Proofs.Tryd.func50, (show Go.Proofs.Tryd.f50.ntmps = 95 by kernel_rfl)
 go_wp2_with (simp only [hov])
 go_region_law_o (refine step_copy_runI rfl _ _ 25 25 rfl _ _ (by simp [Act.eval, Act.put]) (by simp [Act.eval, Act.put]) (hcp1 _ _ _) ?_)
 go_wp2_with (at_builtin; refine wpList_copy_runI _ rfl _ _ 25 25 rfl _ _ rfl rfl (hcp2 _ (fun _ => rfl) (fun _ => rfl) _ _) ?_)
 all_goals (go_ret; first | exact ⟨rfl, rfl⟩ | exact ⟨rfl, by rw [hW1]⟩)
theorem ins_rows {w : World} {t : TypeId} {R : Array Value} {p : Nat} {A V D : List Value} {Z : List Value} (hR : R.toList = A ++ Z) (hA : A.length = p) (hl : p + V.length + D.length ≤ R.size) :
 ∃ R' : Array Value, ((w.alloc (.cells R t)).setCells w.heap.size p V).setCells w.heap.size (p + V.length) D = w.alloc (.cells R' t) ∧ R'.size = R.size ∧ ∀ q, q < p + V.length + D.length → R'[q]? = (A ++ (V ++ D))[q]? := by
 have hRs : R.toList.length = R.size := rfl
 have e0 : R.toList.take p = A := by rw [hR, List.take_left' hA]
 rw [alloc_setCells (by omega), e0]
 have hs1 : (A ++ V ++ R.toList.drop (p + V.length)).toArray.size = R.size := by
  rw [List.size_toArray, List.length_append, List.length_append, List.length_drop, hA]
  omega
 rw [alloc_setCells (by rw [hs1]; exact hl)]
 have e1 : (A ++ V ++ R.toList.drop (p + V.length)).toArray.toList.take (p + V.length) = A ++ V := by
  show List.take _ (A ++ V ++ _) = _
  rw [List.take_left' (by rw [List.length_append, hA])]
 refine ⟨_, rfl, ?_, fun q hq => ?_⟩
 ·rw [List.size_toArray, e1, List.length_append, List.length_append, List.length_append, List.length_drop, hA]
  show _ + (List.length (A ++ V ++ R.toList.drop (p + V.length)) - _) = _
  rw [List.length_append, List.length_append, List.length_drop, hA]
  omega
 ·rw [e1, List.getElem?_toArray, List.getElem?_append_left (by rw [List.length_append, List.length_append, hA]; omega), List.append_assoc]
set_option maxHeartbeats 4000000 in
theorem ins_grow (w : World) (g o n i vb vo vc : Nat) (olds news : List Value) (hin : i < n) (hn6 : n ≤ 1000000) (hol : olds.length = n * 4) (hnl : news.length = 4) (h1o : ∀ v ∈ olds, v.oneCell' = true) (h1n : ∀ v ∈ news, v.oneCell' = true)
 (hgv : g ≠ vb) (cells : Array Value) (ty : TypeId) (hg : w.heap[g]? = some (.cells cells ty (0, 0))) (hsz : o + n * 4 ≤ cells.size) (hcell : ∀ j u, olds[j]? = some u → cells[o + j]? = some u)
 (hv : ∃ cells ty, w.heap[vb]? = some (.cells cells ty (0, 0)) ∧ ∀ j u, news[j]? = some u → cells[vo + j]? = some u) :
 Calls Pr 50 #[.slice (some ⟨g, o, none⟩) n n, .int .i64 i, .slice (some ⟨vb, vo, none⟩) 1 vc] w fun e w' => ∃ G R, e = .returned (.slice (some ⟨w.heap.size, 0, none⟩) (n + 1) G) ∧ n + 1 ≤ G ∧ w' = w.drew.drew.alloc (.cells R 70) ∧ R.size = G * 4 ∧ ∀ q, q < (n + 1) * 4 → R[q]? = (olds.take (i * 4) ++ (news ++ olds.drop (i * 4)))[q]? := by
 obtain ⟨vcells, vty, hvg, hvs⟩ := hv
 obtain ⟨i0, z0, hi0, hz0, hs0, hb0, hzs0⟩ := insI
 have u25 := run_underlying insT
 have t3 : Pr.underlying 3 = some (.int .i64) := by kernel_rfl
 have hsz1 : (Pr.info? 70).map (·.size) = some 4 := by rw [hi0]; simp [hs0]
 have hz2 : ¬ ((i : Int) = (n : Int)) := by omega
 have hdl : (olds.drop (i * 4)).length = (n - i) * 4 := by rw [List.length_drop, hol, Nat.sub_mul]
 have htl : (olds.take (i * 4)).length = i * 4 := by rw [List.length_take, hol]; omega
 have hkk : (n : Int) + 1 - (i : Int) = ((n + 1 - i : Nat) : Int) := by omega
 have hik : i + (n + 1 - i) = n + 1 := by omega
 have hoW : ∀ j u, olds[j]? = some u → w.cell? ⟨g, o + j, none⟩ = some u := fun j u hj => by rw [cell_of hg]; exact hcell j u hj
 have hbw : g < w.heap.size := heap_lt hg
 have hvw : vb < w.heap.size := heap_lt hvg
 have hold : (Builtin.firstCells i0.size i (.slice (some ⟨g, o, none⟩) i n)).run Pr w.drew = .ok (olds.take (i * 4)).toArray w.drew := by
  rw [hs0]
  exact run_firstCells_some w.drew 4 i ⟨g, o, none⟩ i n (olds.take (i * 4)) htl (fun j v hj => by
   rw [Addr.add_lit]
   rw [List.getElem?_take] at hj
   split at hj
   ·exact hoW j v hj
   ·cases hj)
 have hrz : ∀ t, (Builtin.append_ #[25, 3] t #[.slice (some ⟨g, o, none⟩) i n, .int .i64 ((n : Int) + 1 - (i : Int))]).run Pr w =
  .ok (.slice (some ⟨w.heap.size, 0, none⟩) (n + 1) (grownCap w (n + 1) n 70)) (w.drew.alloc (.cells ((olds.take (i * 4)).toArray ++ Builtin.zeroCells z0.cells (n + 1 - i) ++ Builtin.zeroCells z0.cells (grownCap w (n + 1) n 70 - (n + 1))) 70)) := fun t => by
  have h := Lib.run_append_grow_zeros w 25 3 t 70 i0 z0 .i64 .i64 insT t3 hi0 hz0 (some ⟨g, o, none⟩) i n (olds.take (i * 4)) hold (n + 1 - i) (by omega) (by omega) (by omega) (by omega) (by rw [hb0]; omega) (by rw [hb0, hik]; exact growslice_fits (by omega) (by omega))
  rw [hik] at h
  rw [hkk]
  exact h
 obtain ⟨G, hG⟩ : ∃ G, G = grownCap w (n + 1) n 70 := ⟨_, rfl⟩
 have hGn : n + 1 ≤ G := by rw [hG]; exact grownCap_ge w _ _ _
 have hG63 : G ≤ 9223372036854775807 := by
  have := grownCap_le_maxLen w (n + 1) n 70 (by unfold maxLen; omega)
  rw [← hG] at this
  unfold maxLen at this
  omega
 obtain ⟨ROW, hROW⟩ : ∃ ROW : Array Value, ROW = (olds.take (i * 4)).toArray ++ Builtin.zeroCells z0.cells (n + 1 - i) ++ Builtin.zeroCells z0.cells (G - (n + 1)) := ⟨_, rfl⟩
 have hRs : ROW.size = G * 4 := by
  rw [hROW, Array.size_append, Array.size_append, List.size_toArray, htl]
  simp only [Builtin.zeroCells, Array.size_map, Array.size_range, hzs0]
  omega
 have hRl : ∃ Z, ROW.toList = olds.take (i * 4) ++ Z := ⟨(Builtin.zeroCells z0.cells (n + 1 - i)).toList ++ (Builtin.zeroCells z0.cells (G - (n + 1))).toList, by rw [hROW, Array.toList_append, Array.toList_append, List.append_assoc]⟩
 obtain ⟨Z, hRl⟩ := hRl
 rw [← hG] at hrz
 rw [← hROW] at hrz
 clear hROW hG
 obtain ⟨R', hR1, hR2, hR3⟩ := ins_rows (w := w.drew.drew) (t := 70) (p := i * 4) (V := news) (D := olds.drop (i * 4)) hRl htl (by rw [hnl, hdl, hRs]; omega)
 obtain ⟨W1, hW1⟩ : ∃ W1, W1 = w.drew.alloc (.cells ROW 70) := ⟨_, rfl⟩
 rw [← hW1] at hrz
 have hN : ∀ j, j < (n + 1) * 4 → (W1.cell? ⟨w.heap.size, j, none⟩).isSome = true := fun j hj => by
  rw [hW1, World.cell?_alloc_at (w := w.drew) ROW _ w.heap.size j rfl, Array.getElem?_eq_getElem (by omega)]; rfl
 have hNf : ∀ j, W1.frozen? ⟨w.heap.size, j, none⟩ = false := fun j => by rw [hW1]; exact World.frozen?_alloc_at (w := w.drew) ROW _ w.heap.size j rfl
 have hOb : ∀ j v, w.cell? ⟨g, j, none⟩ = some v → W1.cell? ⟨g, j, none⟩ = some v := fun j v h => by rw [hW1, World.cell?_alloc_past (w := w.drew) _ g j hbw]; exact h
 have hOv : ∀ j v, w.cell? ⟨vb, j, none⟩ = some v → W1.cell? ⟨vb, j, none⟩ = some v := fun j v h => by rw [hW1, World.cell?_alloc_past (w := w.drew) _ vb j hvw]; exact h
 have hvW : ∀ j v, news[j]? = some v → w.cell? ⟨vb, vo + j, none⟩ = some v := fun j v hj => by rw [cell_of hvg]; exact hvs j v hj
 have hcpA : ∀ (W : World), (∀ x, W.cell? x = W1.cell? x) → (∀ x, W.frozen? x = W1.frozen? x) → ∀ t dc, (Builtin.copy_ #[25, 25] t #[.slice (some ⟨w.heap.size, i * 4, none⟩) (n + 1 - i) dc, .slice (some ⟨vb, vo, none⟩) 1 vc]).run Pr W = .ok (goInt (Nat.min 1 (n + 1 - i))) (W.setCells w.heap.size (i * 4) news) := fun W hWc hWf t dc =>
  run_copy_z W _ _ t 70 w.heap.size (i * 4) (n + 1 - i) dc ⟨vb, vo, none⟩ 1 vc 4 news insT hsz1 (by rw [hnl]; simp only [Nat.min_def]; split <;> omega)
   (fun j v hj => by rw [Addr.add_lit, hWc]; exact hOv _ v (hvW j v hj))
   (fun j hj => by rw [hWc]; exact hN _ (by omega)) (fun j hj => by rw [hWf]; exact hNf _) h1n
 have hGi : ¬ (G = i) := by omega
 have hGim : ¬ (G = i + 1) := by omega
 have hci : ¬ (n = i) := by omega
 have hbN : g ≠ w.heap.size := by omega
 have hcpB : ∀ (W : World), (∀ x, W.cell? x = (W1.setCells w.heap.size (i * 4) news).cell? x) → (∀ x, W.frozen? x = (W1.setCells w.heap.size (i * 4) news).frozen? x) → ∀ t dc sc, (Builtin.copy_ #[25, 25] t #[.slice (some ⟨w.heap.size, (i + 1) * 4, none⟩) (n - i) dc, .slice (some ⟨g, o + i * 4, none⟩) (n - i) sc]).run Pr W = .ok (goInt (Nat.min (n - i) (n - i))) (W.setCells w.heap.size ((i + 1) * 4) (olds.drop (i * 4))) := fun W hWc hWf t dc sc =>
  run_copy_z W _ _ t 70 w.heap.size ((i + 1) * 4) (n - i) dc ⟨g, o + i * 4, none⟩ (n - i) sc 4 (olds.drop (i * 4)) insT hsz1 (by rw [hdl]; congr 1; simp only [Nat.min_def]; split <;> omega)
   (fun j v hj => by
     rw [Addr.add_lit, hWc, World.cell?_setCells_out _ _ _ _ _ (fun h _ => absurd h hbN), Nat.add_assoc]
     exact hOb _ v (hoW (i * 4 + j) v (by rwa [List.getElem?_drop] at hj)))
   (fun j hj => by rw [hdl] at hj; rw [hWc]; exact isSome_setCells _ _ _ _ (fun t ht => hN _ (by omega)) _ (hN _ (by omega)))
   (fun j hj => by rw [hWf, World.frozen?_setCells]; exact hNf _) (fun v hv => h1o v (List.mem_of_mem_drop hv))
 subst hW1
 have mixed := hm
 have hE1 : ∀ x, ((w.alloc (.cells ROW 70)).drew).cell? x = (w.drew.alloc (.cells ROW 70)).cell? x := fun x => rfl
 have hE2 : ∀ x, ((w.alloc (.cells ROW 70)).drew).frozen? x = (w.drew.alloc (.cells ROW 70)).frozen? x := fun x => rfl
 have hF1 : ∀ x, (((w.alloc (.cells ROW 70)).drew.setCells w.heap.size (i * 4) news).drew).cell? x = ((w.drew.alloc (.cells ROW 70)).setCells w.heap.size (i * 4) news).cell? x := fun x => rfl
 have hF2 : ∀ x, (((w.alloc (.cells ROW 70)).drew.setCells w.heap.size (i * 4) news).drew).frozen? x = ((w.drew.alloc (.cells ROW 70)).setCells w.heap.size (i * 4) news).frozen? x := fun x => rfl
 have hw1 : IntKind.i64.wrap ((i : Int) + (1 : Int)) = (i : Int) + (1 : Int) := by rw [IntKind.wrap_i64]; omega
 have hb1 : (0 : Int) ≤ (i : Int) + (1 : Int) := by omega
 have hin' : i ≤ n := by omega
 have htn : ((i : Int) + (1 : Int)).toNat = i + 1 := by omega
 have hb3 : (i : Int) ≤ (n : Int) := by omega
 clear hkk hik hold
 go_enter Go.Proofs.Tryd.func50, (show Go.Proofs.Tryd.f50.ntmps = 95 by kernel_rfl)
 go_wp2_with (first
  | (at_builtin; refine Lib.wpList_append_run _ rfl _ _ _ _ rfl _ _ rfl rfl _ _ (hrz _) ?_)
  | (at_builtin; refine wpList_copy_runI _ rfl _ _ 25 25 rfl _ _ rfl rfl (hcpA _ hE1 hE2 _ _) ?_)
  | (at_builtin; refine wpList_copy_runI _ rfl _ _ 25 25 rfl _ _ rfl rfl (hcpB _ (fun _ => rfl) (fun _ => rfl) _ _ _) ?_))
 go_region_law_o (refine step_copy_runI rfl _ _ 25 25 rfl (.slice (some ⟨w.heap.size, (i + 1) * 4, none⟩) (n - i) (G - (i + 1))) (.slice (some ⟨g, o + i * 4, none⟩) (n - i) (n - i)) (by simp [Act.eval, Act.put]) (by simp [Act.eval, Act.put]) (hcpB _ hF1 hF2 3 (G - (i + 1)) (n - i)) ?_)
 go_wp2
 go_ret
 rw [hnl, show i * 4 + 4 = (i + 1) * 4 by omega] at hR1
 refine ⟨G, R', rfl, hGn, ?_, hR2.trans hRs, fun q hq => hR3 q (by rw [hnl, hdl]; omega)⟩
 rw [← hR1]
 first | rfl | (simp only [drew_setCells]; rfl)
theorem w_ins : InsSpec Pr n_slices_Insert_implSessionimplSession 4 := by
 refine ⟨⟨_, Go.Proofs.Tryd.func50, fun h => by
  have e : (Go.Proofs.Tryd.f50.name == "runtime.NumGoroutine") = false := by kernel_rfl
  rw [h] at e
  simp at e, by kernel_rfl⟩, ?_⟩
 intro w A n cap i vb vo vc olds news hnc hin hn6 hvc hol hnl h1o h1n hcell hA hv
 have hdr : Below w.heap.size w w.drew := ⟨rfl, rfl, rfl, Nat.le_refl _, fun _ _ => rfl⟩
 have hrf : Below w.heap.size w w := ⟨rfl, rfl, rfl, Nat.le_refl _, fun _ _ => rfl⟩
 by_cases he : i = n
 ·subst he
  refine (ins_end w A i cap vb vo vc olds news hnc hn6 hol hnl h1n hcell hA hv).mono (fun e w' ⟨u, h1, h2⟩ => ⟨u, w, 70, h1, hrf, rfl, ?_⟩)
  rw [Nat.sub_self, List.take_of_length_le (by omega), List.drop_of_length_le (by omega), List.append_nil]
  exact h2
 ·have hi : i < n := by omega
  obtain ⟨g, o, cells, ty, rfl, hgv, hg, hsz⟩ := hA (by omega)
  have hc' : ∀ j u, olds[j]? = some u → cells[o + j]? = some u := fun j u hj => by
   obtain ⟨ad, h1, h2⟩ := hcell j u hj
   cases h1
   rw [addr_add, cell_of hg] at h2
   exact h2
  have e1 : i + (1 + (n - i)) = n + 1 := by omega
  by_cases hr : n + 1 ≤ cap
  ·refine (ins_shift w g o n cap i vb vo vc olds news hr hi hn6 hol hnl h1o h1n hgv cells ty hg hsz hc' hv).mono (fun e w' ⟨h1, h2⟩ => ⟨_, w.drew, 70, h1, hdr, rfl, ?_⟩)
   have h3 := Grown.room (w := w.drew) (e := 70) (size := 4) (A := some ⟨g, o, none⟩) (n := i) (cap := cap) (m := 1 + (n - i)) (olds := olds.take (i * 4)) (news := news ++ olds.drop (i * 4)) (by omega) (by omega) rfl
   rw [e1, ← h2] at h3
   exact h3
  ·have hcn : cap = n := by omega
   subst hcn
   refine (ins_grow w g o cap i vb vo vc olds news hi hn6 hol hnl h1o h1n hgv cells ty hg hsz hc' hv).mono (fun e w' ⟨G, R, h1, h2, h3, h4, h5⟩ => ⟨_, w.drew, 70, h1, hdr, rfl, ?_⟩)
   have h6 := Grown.grow (w := w.drew) (e := 70) (size := 4) (A := some ⟨g, o, none⟩) (n := i) (cap := cap) (m := 1 + (cap - i)) (olds := olds.take (i * 4)) (news := news ++ olds.drop (i * 4)) (c := G) (cs := R) (by omega) (by omega) (by omega) h4 (fun q hq => h5 q (by rw [e1] at hq; exact hq))
   rw [e1, ← h3] at h6
   exact h6
end
def ckB (c : Int) (b : UInt8) : Int := (257 * c + (b.toNat : Int) + 1) % 9949
def ckS (s : ByteArray) : Int := s.data.toList.foldl ckB 5
theorem ckB_rng {c : Int} {b : UInt8} : 0 ≤ ckB c b ∧ ckB c b < 9949 := by
 unfold ckB
 omega
theorem ck_snoc {l : List UInt8} {i : Nat} {b : UInt8} (h : l[i]? = some b) : (l.take (i + 1)).foldl ckB 5 = ckB ((l.take i).foldl ckB 5) b := by
 rw [List.take_add_one, h, List.foldl_append]
 rfl
theorem ck_rng (l : List UInt8) : 0 ≤ l.foldl ckB 5 ∧ l.foldl ckB 5 < 9949 := by
 rcases List.eq_nil_or_concat l with rfl | ⟨r, b, rfl⟩
 ·exact ⟨by decide, by decide⟩
 ·rw [List.concat_eq_append, List.foldl_append]
  exact ckB_rng
theorem ckS_rng (s : ByteArray) : 0 ≤ ckS s ∧ ckS s < 9949 := ck_rng _
def dgE (d : Int) (e : GEntry) : Int := (31 * d + ckS (logT [e])) % 9973
def dgL (l : List GEntry) : Int := l.foldl dgE 11
def digs (l : List GEntry) : List Int := (List.range (l.length + 1)).map (fun i => dgL (l.take i))
theorem dgL_rng (l : List GEntry) : 0 ≤ dgL l ∧ dgL l < 9973 := by
 rcases List.eq_nil_or_concat l with rfl | ⟨r, b, rfl⟩
 ·exact ⟨by decide, by decide⟩
 ·rw [List.concat_eq_append, dgL, List.foldl_append]
  show 0 ≤ dgE _ b ∧ dgE _ b < 9973
  unfold dgE
  omega
theorem dgL_snoc {l : List GEntry} {i : Nat} {e : GEntry} (h : l[i]? = some e) : dgL (l.take (i + 1)) = dgE (dgL (l.take i)) e := by
 rw [dgL, List.take_add_one, h, List.foldl_append]
 rfl
theorem digs_len (l : List GEntry) : (digs l).length = l.length + 1 := by rw [digs, List.length_map, List.length_range]
theorem digs_at {l : List GEntry} {i : Nat} (h : i ≤ l.length) : (digs l)[i]? = some (dgL (l.take i)) := by
 rw [digs, List.getElem?_map, List.getElem?_range (by omega)]
 rfl
theorem digs_snoc {l : List GEntry} {i : Nat} {e : GEntry} (h : l[i]? = some e) : digs (l.take (i + 1)) = digs (l.take i) ++ [dgE (dgL (l.take i)) e] := by
 have hi : i < l.length := (List.getElem?_eq_some_iff.1 h).1
 have h1 : (l.take (i + 1)).length = i + 1 := by rw [List.length_take]; omega
 have h2 : (l.take i).length = i := by rw [List.length_take]; omega
 rw [digs, digs, h1, h2, List.range_succ, List.map_append, ← dgL_snoc h]
 congr 1
 ·refine List.map_congr_left (fun j hj => ?_)
  have := List.mem_range.1 hj
  rw [List.take_take, List.take_take, Nat.min_eq_left (by omega), Nat.min_eq_left (by omega)]
 ·rw [List.map_singleton, List.take_take, Nat.min_self]
def repO (m : GMachine) (l : List GEntry) : GMachine := l.foldl (fun m e => (aplO m e.Op).1) m
theorem repO_snoc {m : GMachine} {l : List GEntry} {i : Nat} {e : GEntry} (h : l[i]? = some e) : repO m (l.take (i + 1)) = (aplO (repO m (l.take i)) e.Op).1 := by
 rw [repO, List.take_add_one, h, List.foldl_append]
 rfl
theorem repO_len (m : GMachine) (l : List GEntry) : (repO m l).Objects.length = m.Objects.length ∧ (repO m l).Sessions.length ≤ m.Sessions.length + l.length := by
 induction l generalizing m with
 | nil => exact ⟨rfl, Nat.le_refl _⟩
 | cons e r ih =>
   have h1 := aplO_len m e.Op
   have h2 := ih (aplO m e.Op).1
   rw [List.length_cons]
   exact ⟨h2.1.trans h1.1, by have := h2.2; have := h1.2; show (repO (aplO m e.Op).1 r).Sessions.length ≤ _; omega⟩
def zeroMa : GMachine := ⟨[0, 0, 0], []⟩
theorem flatS_GSession (y : GSession) (j : Nat) (hj : j < 4) : flatS (eGSession y j) = true := by
 rcases j with _ | _ | _ | _ | j <;> first | rfl | omega
theorem w_slices_Clone_implSessionimplSession (l : List GSession) (hb : bSessionS l) : Fn Pr n_slices_Clone_implSessionimplSession [.sl 4 eGSession (fun _ => l)] (.sl 4 eGSession (fun _ => l)) := by
 refine k_slices_Clone_implSessionimplSession.fn (by kernel_rfl) ?_
 have h0 : l.length * 32 ≤ 140737488351232 := hb
 conv=>arg 4;cbv
 repeat' first
  | (refine Sat.cmp (fun h => ?_) (fun h => ?_) <;> simp only [Cmp.holds] at h <;> (conv=>arg 4;cbv))
  | (refine Sat.need ⟨fun y _ => flat_GSession y, by exact arA⟩ ?_; conv=>arg 4;cbv)
  | (refine Sat.may (fun h => ?_) ?_ <;> (conv=>arg 4;cbv))
  | (refine Sat.need ndA ?_; conv=>arg 4;cbv)
  | (refine Sat.idxk (by assumption) ?_; conv=>arg 4;cbv) | (refine Sat.idx ndA (fun v_ hv_ => ?_); conv=>arg 4;cbv)
  | (refine Sat.ari64 ndA ndA ?_; conv=>arg 4;cbv)
  | (refine Sat.pop ?_; conv=>arg 4;cbv)
  | refine Sat.done ?_
 all_goals first | exact .nil (by assumption) | exact .sl (by simp)
theorem w_impl_machineCopy (m : GMachine) (hb : bMachine m) : Fn Pr n_impl_machineCopy [aGMachine m] (aGMachine m) := by
 refine k_impl_machineCopy.fn (by kernel_rfl) ?_
 conv=>arg 4;cbv
 repeat' first
  | (refine Sat.cmp (fun h => ?_) (fun h => ?_) <;> simp only [Cmp.holds] at h <;> (conv=>arg 4;cbv))
  | (refine Sat.call (w_slices_Clone_intint m.Objects hb.1) rfl ledA ?_; conv=>arg 4;cbv)
  | (refine Sat.call (w_slices_Clone_implSessionimplSession m.Sessions hb.2) rfl ledA ?_; conv=>arg 4;cbv)
  | (refine Sat.need ndA ?_; conv=>arg 4;cbv)
  | (refine Sat.idxk (by assumption) ?_; conv=>arg 4;cbv) | (refine Sat.idx ndA (fun v_ hv_ => ?_); conv=>arg 4;cbv)
  | (refine Sat.ari64 ndA ndA ?_; conv=>arg 4;cbv)
  | (refine Sat.pop ?_; conv=>arg 4;cbv)
  | refine Sat.done ?_
 all_goals refine .agg rfl ?_
 all_goals (repeat' first | exact led_nil | refine led_cons ?_ ?_ | exact .sl (by simp))
theorem w_impl_NewMachine : Fn Pr n_impl_NewMachine [] (aGMachine ⟨[0, 0, 0], []⟩) := by
 refine k_impl_NewMachine.fn (by kernel_rfl) ?_
 conv=>arg 4;cbv
 refine Sat.need (by decide) ?_
 conv=>arg 4;cbv
 refine Sat.typ (encI .i64) (0 : Int) tcA ?_
 conv=>arg 4;cbv
 refine Sat.done (.agg rfl ?_)
 (repeat' first | exact led_nil | refine led_cons ?_ ?_ | exact .same _ | exact .nil rfl | exact .emp rfl | exact .sl (by simp))
theorem w_impl_SessionOf (m : GMachine) (c : Int) (hb : bMachine m) : Fn Pr n_impl_SessionOf [aGMachine m, .int .i64 (fun _ => c)] (.tup [aGSession (sesF m.Sessions c).1, .bo (sesF m.Sessions c).2]) := by
 have h1 : m.Sessions.length * 32 ≤ 140737488351232 := hb.2
 have h0 : sesF m.Sessions c = sesF (m.Sessions.drop 0) c := rfl
 generalize hr : sesF m.Sessions c = r at h0 ⊢
 obtain ⟨s, b⟩ := r
 refine k_impl_SessionOf.fn (by kernel_rfl) ?_
 conv=>arg 4;cbv
 refine Sat.loopP (ι := Nat) (fun i => [(11, .int .i64 (fun _ => (i : Int)))]) (fun i => []) (fun i => i ≤ m.Sessions.length ∧ sesF m.Sessions c = sesF (m.Sessions.drop i) c) (fun i => m.Sessions.length - i) 0 ?_ ⟨Nat.zero_le _, rfl⟩ (fun i hi => ?_)
 ·exact lesA
 conv=>arg 4;cbv
 refine Sat.cmp (fun h5 => ?_) (fun h5 => ?_) <;> simp only [Cmp.holds] at h5
 ·have hi2 : i < m.Sessions.length := by exact arA
  conv=>arg 4;cbv
  refine Sat.need (by (try dsimp only); exact arA) ?_
  conv=>arg 4;cbv
  refine Sat.idx (by (try dsimp only); exact arA) (fun x hx => ?_)
  have hx : m.Sessions[i]? = some x := by simpa using hx
  conv=>arg 4;cbv
  refine Sat.cmp (fun h6 => ?_) (fun h6 => ?_) <;> simp only [Cmp.holds] at h6
  ·have he := hr.symm.trans (sesF_hit hi.2 hx h6)
   obtain ⟨rfl, rfl⟩ := Prod.mk.inj he
   conv=>arg 4;cbv
   repeat' first
    | (refine Sat.need ndA ?_; conv=>arg 4;cbv)
    | (refine Sat.idxk (by assumption) ?_; conv=>arg 4;cbv) | (refine Sat.idx ndA (fun v_ hv_ => ?_); conv=>arg 4;cbv)
    | (refine Sat.pop ?_; conv=>arg 4;cbv)
    | refine Sat.done ?_
   all_goals exact ledA
  ·conv=>arg 4;cbv
   refine Sat.ari64 (by (try dsimp only); exact arA) (by (try dsimp only); exact arA) ?_
   conv=>arg 4;cbv
   refine Sat.next (i + 1) ?_ ⟨by exact arA, sesF_step hi.2 hx h6⟩ (by (try dsimp only); exact arA)
   exact lesA
 ·have he := hr.symm.trans (hi.2.trans (by rw [show i = m.Sessions.length by (have := hi.1; exact arA), List.drop_length, sesF]))
  obtain ⟨rfl, rfl⟩ := Prod.mk.inj he
  conv=>arg 4;cbv
  refine Sat.pop ?_
  conv=>arg 4;cbv
  refine Sat.done ?_
  exact ledA
theorem apI {l : List GSession} {i : Nat} {z x : GSession} (hi : i ≤ l.length) : List.take (l.length + 1) (List.drop 0 (setAt (List.take (i : Int).toNat (l.take l.length) ++ z :: List.drop (i : Int).toNat (l.take l.length)) (0 + (i : Int).toNat) x)) = l.take i ++ x :: l.drop i := by
 have e : (i : Int).toNat = i := by omega
 rw [e, Nat.zero_add, List.drop_zero, List.take_length, setAt, List.take_of_length_le (by rw [List.length_set, List.length_append, List.length_cons, List.length_take, List.length_drop]; omega)]
 rw [List.set_append_right _ _ (by rw [List.length_take]; omega), List.length_take, Nat.min_eq_left hi, Nat.sub_self]
 rfl
theorem apH {l : List GSession} {i : Nat} {x : GSession} (hi : i < l.length) : List.take l.length (List.drop 0 (setAt l (0 + (i : Int).toNat) x)) = l.take i ++ x :: l.drop (i + 1) := by
 have e : (i : Int).toNat = i := by omega
 rw [e, Nat.zero_add, List.drop_zero, setAt, List.take_of_length_le (by rw [List.length_set]; exact Nat.le_refl _), List.set_eq_take_append_cons_drop, if_pos hi]
end Go.V.T