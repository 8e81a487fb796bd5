/- Contracts of the functions that FnSnapshots reaches: what each returns. Conditions: those that each theorem states. -/
import Derived.Test.YtbmbdfkeecifiaaGreatDoorWLSnapshots1
import Derived.Laws.NewBlocks
import Derived.Lib.AppendZerosOnto
import Derived.Lib.Join
import Derived.Shelf.Spec.SlicesInsert
import Derived.Shelf.Strings.Cut
import Derived.Shelf.Strings.OnBuilder
namespace Go.V.T
open Go Go.V Go.RowKit
set_option maxRecDepth 100000
set_option linter.unusedVariables false
set_option linter.unusedSimpArgs false
--import Derived.Lib.Join
def entT (e : GEntry) : ByteArray := sI e.Epoch ++ ⟨#[58]⟩ ++ opT e.Op
def entL (e : GEntry) : List UInt8 := (entT e).data.toList
def logL : List GEntry → List UInt8
 | [] => []
 | e :: r => entL e ++ r.flatMap (fun x => 59 :: entL x)
def logT (l : List GEntry) : ByteArray := if isLog l = true then (if l = [] then noneT else ⟨(logL l).toArray⟩) else ⟨#[]⟩
theorem okLogFrom_all : ∀ {l : List GEntry} {p : Int}, okLogFrom p l = true → ∀ e ∈ l, (1 ≤ e.Epoch ∧ e.Epoch ≤ 20) ∧ okOp e.Op = true
 | [], _, _, e, he => by cases he
 | x :: r, p, h, e, he => by
   simp only [okLogFrom, Bool.and_eq_true, decide_eq_true_eq] at h
   rcases List.mem_cons.1 he with rfl | he
   ·exact ⟨h.1.1.1, h.1.1.2⟩
   ·exact okLogFrom_all h.2 e he
theorem isLog_spec {l : List GEntry} (h : isLog l = true) : l.length ≤ 16 ∧ ∀ e ∈ l, (1 ≤ e.Epoch ∧ e.Epoch ≤ 20) ∧ okOp e.Op = true := by
 rw [isLog, Bool.and_eq_true] at h
 exact ⟨of_decide_eq_true h.2, okLogFrom_all h.1⟩
theorem entT_size {e : GEntry} (h : 1 ≤ e.Epoch ∧ e.Epoch ≤ 20) : (entT e).size ≤ 33 := by
 have h1 := (sI_size (n := e.Epoch) (by omega) (by omega)).2
 have h2 := opT_size e.Op
 simp only [entT, ByteArray.size_append, size_lit]
 omega
theorem logL_snoc : ∀ (l : List GEntry) (e : GEntry), logL (l ++ [e]) = if l = [] then entL e else logL l ++ 59 :: entL e
 | [], e => by simp [logL]
 | x :: r, e => by
   rw [if_neg (by simp), List.cons_append, logL, logL, List.flatMap_append]
   simp
theorem take_snocE {l : List GEntry} {i : Nat} {e : GEntry} (h : l[i]? = some e) : l.take (i + 1) = l.take i ++ [e] := by rw [List.take_add_one, h]; rfl
theorem join_log : ∀ l : List GEntry, l ≠ [] → Lib.join ((l.map entT).map (·.data.toList)) [59] = logL l
 | [], h => absurd rfl h
 | e :: r, _ => by
   rw [List.map_cons, List.map_cons, Lib.join_cons, logL]
   have : ∀ r : List GEntry, Lib.joinTail [59] ((r.map entT).map (·.data.toList)) = r.flatMap (fun x => 59 :: entL x) := by
    intro r
    induction r with
    | nil => rfl
    | cons x r ih =>
      rw [List.flatMap_cons, ← ih]
      rfl
   rw [this]
   rfl
theorem logL_len : ∀ {l : List GEntry}, (∀ e ∈ l, (1 ≤ e.Epoch ∧ e.Epoch ≤ 20) ∧ okOp e.Op = true) → (logL l).length ≤ 34 * l.length
 | [], _ => Nat.le_refl _
 | e :: r, h => by
   have e1 : ∀ x : GEntry, (entL x).length = (entT x).size := fun x => rfl
   have h1 := entT_size (h e (List.mem_cons_self ..)).1
   have h2 : ∀ r : List GEntry, (∀ e ∈ r, (1 ≤ e.Epoch ∧ e.Epoch ≤ 20) ∧ okOp e.Op = true) → (r.flatMap (fun x => 59 :: entL x)).length ≤ 34 * r.length := by
    intro r
    induction r with
    | nil => intro _; exact Nat.le_refl _
    | cons x r ih =>
      intro hr
      have h3 := ih (fun y hy => hr y (List.mem_cons_of_mem _ hy))
      have h4 := entT_size (hr x (List.mem_cons_self ..)).1
      rw [List.flatMap_cons, List.length_append, List.length_cons, List.length_cons, e1]
      omega
   have h5 := h2 r (fun y hy => h y (List.mem_cons_of_mem _ hy))
   rw [logL, List.length_append, e1, List.length_cons]
   omega
set_option maxHeartbeats 1000000 in
theorem w_spec_FormatLog (l : List GEntry) (hb : bEntryS l) : Fn Pr n_spec_FormatLog [.sl 7 eGEntry (fun _ => l)] (.str (fun _ => logT l)) := by
 have h0 : l.length * 56 ≤ 140737488351232 := hb
 refine k_spec_FormatLog.fn (by kernel_rfl) ?_
 conv=>arg 4;cbv
 refine Sat.callb (w_spec_IsLog l hb) rfl ledA (fun hA => ?_) (fun hA => ?_) <;> (conv=>arg 4;cbv)
 rotate_left
 ·refine Sat.done (.str ?_)
  rw [logT, if_neg (by rw [hA]; exact Bool.false_ne_true)]
 obtain ⟨h16, hall⟩ := isLog_spec hA
 refine Sat.cmp (fun h => ?_) (fun h => ?_) <;> simp only [Cmp.holds] at h
 ·have hn : l = [] := List.eq_nil_of_length_eq_zero (by exact arA)
  conv=>arg 4;cbv
  refine Sat.done (.str ?_)
  rw [logT, if_pos hA, if_pos hn]
  rfl
 have hne : l ≠ [] := fun e => h (by rw [e]; rfl)
 conv=>arg 4;cbv
 refine Sat.loopP (ι := Nat × ByteArray) (fun x => [(4, .int .i64 (fun _ => (x.1 : Int))), (3, .str (fun _ => x.2))]) (fun x => []) (fun x => x.1 ≤ l.length ∧ x.2.data.toList = logL (l.take x.1) ∧ x.2.size ≤ 34 * x.1) (fun x => l.length - x.1) (0, ⟨#[]⟩) ?_ ⟨Nat.zero_le _, rfl, Nat.le_refl _⟩ (fun x hx => ?_)
 ·exact lesA
 obtain ⟨i, s⟩ := x
 obtain ⟨hi, hs1, hs2⟩ := hx
 simp only at hi hs1 hs2
 conv=>arg 4;cbv
 refine Sat.cmp (fun h5 => ?_) (fun h5 => ?_) <;> simp only [Cmp.holds] at h5
 ·have hi2 : i < l.length := by exact arA
  obtain ⟨e, he⟩ : ∃ e, l[i]? = some e := ⟨_, List.getElem?_eq_getElem hi2⟩
  have hr := hall e (List.mem_of_getElem? he)
  have hz := entT_size hr.1
  have hz1 := (sI_size (n := e.Epoch) (by omega) (by omega)).2
  have hz2 := opT_size e.Op
  have hsn : logL (l.take (i + 1)) = if l.take i = [] then entL e else logL (l.take i) ++ 59 :: entL e := by rw [take_snocE he, logL_snoc]
  have hee : entL e = (sI e.Epoch).data.toList ++ 58 :: (opT e.Op).data.toList := by rw [entL, entT]; simp
  conv=>arg 4;cbv
  refine Sat.cmp (fun h6 => ?_) (fun h6 => ?_) <;> simp only [Cmp.holds] at h6
  ·have hti : l.take i ≠ [] := fun q => by
    have h7 := congrArg List.length q
    rw [List.length_take] at h7
    simp only [List.length_nil] at h7
    (try simp only [ncast] at *)
    omega
   have hd : (s ++ ⟨#[59]⟩ ++ sI e.Epoch ++ ⟨#[58]⟩ ++ opT e.Op).data.toList = logL (l.take (i + 1)) := by
    rw [hsn, if_neg hti, ← hs1, hee]
    simp
   conv=>arg 4;cbv
   repeat' first
    | (refine Sat.need (by (try dsimp only); simp only [ByteArray.size_append, size_lit]; omega) ?_; conv=>arg 4;cbv)
    | (refine Sat.need (by (try dsimp only); exact arA) ?_; conv=>arg 4;cbv)
    | (refine Sat.idx (by (try dsimp only); exact arA) (fun e2 he2 => ?_); obtain rfl : e = e2 := Option.some.inj (Eq.trans (Eq.symm he) he2); conv=>arg 4;cbv)
    | (refine Sat.call (w_spec_FormatIntG e.Epoch (by omega) (by omega)) rfl ledA ?_; conv=>arg 4;cbv)
    | (refine Sat.call (w_spec_FormatOp e.Op) rfl ledA ?_; conv=>arg 4;cbv)
    | (refine Sat.ari64 (by (try dsimp only); exact arA) (by (try dsimp only); exact arA) ?_; conv=>arg 4;cbv)
    | refine Sat.next (i + 1, s ++ ⟨#[59]⟩ ++ sI e.Epoch ++ ⟨#[58]⟩ ++ opT e.Op) ?_ ⟨by exact arA, hd, by (try dsimp only); simp only [ByteArray.size_append, size_lit]; omega⟩ (by (try dsimp only); exact arA)
   exact lesA
  ·have hi0 : i = 0 := by exact arA
   subst hi0
   have hd : (s ++ sI e.Epoch ++ ⟨#[58]⟩ ++ opT e.Op).data.toList = logL (l.take (0 + 1)) := by
    rw [hsn, if_pos (by rfl), hee]
    have hs1 : s.data.toList = [] := hs1
    simp [hs1]
   conv=>arg 4;cbv
   repeat' first
    | (refine Sat.need (by (try dsimp only); simp only [ByteArray.size_append, size_lit]; omega) ?_; conv=>arg 4;cbv)
    | (refine Sat.need (by (try dsimp only); exact arA) ?_; conv=>arg 4;cbv)
    | (refine Sat.idx (by (try dsimp only); exact arA) (fun e2 he2 => ?_); obtain rfl : e = e2 := Option.some.inj (Eq.trans (Eq.symm he) he2); conv=>arg 4;cbv)
    | (refine Sat.call (w_spec_FormatIntG e.Epoch (by omega) (by omega)) rfl ledA ?_; conv=>arg 4;cbv)
    | (refine Sat.call (w_spec_FormatOp e.Op) rfl ledA ?_; conv=>arg 4;cbv)
    | (refine Sat.ari64 (by (try dsimp only); exact arA) (by (try dsimp only); exact arA) ?_; conv=>arg 4;cbv)
    | refine Sat.next (0 + 1, s ++ sI e.Epoch ++ ⟨#[58]⟩ ++ opT e.Op) ?_ ⟨by exact arA, hd, by (try dsimp only); simp only [ByteArray.size_append, size_lit]; omega⟩ (by (try dsimp only); exact arA)
   exact lesA
 ·have hie : i = l.length := by exact arA
  conv=>arg 4;cbv
  refine Sat.pop ?_
  conv=>arg 4;cbv
  refine Sat.done (.str ?_)
  rw [logT, if_pos hA, if_neg hne]
  exact bytes_ext (by rw [hs1, hie, List.take_length])
--import Derived.Shelf.Strings.OnBuilder
theorem ents_snoc {l : List GEntry} {i : Nat} {e : GEntry} (h : l[i]? = some e) : (l.take (i + 1)).map entT = (l.take i).map entT ++ [entT e] := by
 rw [take_snocE h, List.map_append]
 rfl
set_option maxHeartbeats 1000000 in
theorem w_impl_FormatLog (l : List GEntry) (hb : bEntryS l) : Fn Pr n_impl_FormatLog [.sl 7 eGEntry (fun _ => l)] (.str (fun _ => logT l)) := by
 have h0 : l.length * 56 ≤ 140737488351232 := hb
 refine k_impl_FormatLog.fn (by kernel_rfl) ?_
 conv=>arg 4;cbv
 refine Sat.callb (w_impl_IsLog l hb) rfl ledA (fun hA => ?_) (fun hA => ?_) <;> (conv=>arg 4;cbv)
 rotate_left
 ·refine Sat.done (.str ?_)
  rw [logT, if_neg (by rw [hA]; exact Bool.false_ne_true)]
 obtain ⟨h16, hall⟩ := isLog_spec hA
 have hLl := logL_len hall
 refine Sat.cmp (fun h => ?_) (fun h => ?_) <;> simp only [Cmp.holds] at h
 ·have hn : l = [] := List.eq_nil_of_length_eq_zero (by exact arA)
  conv=>arg 4;cbv
  refine Sat.done (.str ?_)
  rw [logT, if_pos hA, if_pos hn]
  rfl
 have hne : l ≠ [] := fun e => h (by rw [e]; rfl)
 have hjn := join_log l hne
 conv=>arg 4;cbv
 refine Sat.loopP (ι := Nat) (fun i => [(17, .int .i64 (fun _ => (i : Int))), (3, .ref 33 (fun _ => 0) (fun _ => ((l.take i).map entT).length))]) (fun i => [(33, .row 1 encS (fun _ => (l.take i).map entT) false)]) (fun i => i ≤ l.length) (fun i => l.length - i) 0 ?_ (Nat.zero_le _) (fun i hi => ?_)
 ·refine les_of ?_ ?_ rfl
  iterate 2 (focus repeat' (first | exact trivial | refine And.intro ?_ ?_ | exact levA | refine lev_cons ?_ ?_ | refine LeV.agg rfl ?_ | exact Nat.le_of_ble_eq_true rfl | exact Or.inl ⟨_, rfl, .row rfl⟩ | refine Or.inl ⟨_, rfl, .row ?_⟩ | refine Or.inl ⟨_, rfl, .lit rfl ?_⟩ | exact Or.inr ⟨rfl, rfl⟩ | (first | exact .empref (fun h => nomatch h) rfl rfl rfl | rfl)))
 have hjl : ((l.take i).map entT).length = i := by rw [List.length_map, List.length_take]; omega
 conv=>arg 4;cbv
 refine Sat.cmp (fun h5 => ?_) (fun h5 => ?_) <;> simp only [Cmp.holds] at h5
 ·have hi2 : i < l.length := by exact arA
  obtain ⟨e, he⟩ : ∃ e, l[i]? = some e := ⟨_, List.getElem?_eq_getElem hi2⟩
  have hr := hall e (List.mem_of_getElem? he)
  have hz1 := (sI_size (n := e.Epoch) (by omega) (by omega)).2
  have hz2 := opT_size e.Op
  have hsn := ents_snoc he
  conv=>arg 4;cbv
  refine Sat.need (by (try dsimp only); exact arA) ?_
  conv=>arg 4;cbv
  refine Sat.idx (by (try dsimp only); exact arA) (fun e2 he2 => ?_)
  obtain rfl : e = e2 := Option.some.inj (Eq.trans (Eq.symm he) he2)
  conv=>arg 4;cbv
  refine Sat.call (w_impl_FormatIntG e.Epoch (by omega) (by omega)) rfl ledA ?_
  conv=>arg 4;cbv
  refine Sat.need (by (try dsimp only); simp only [ByteArray.size_append, size_lit]; omega) ?_
  conv=>arg 4;cbv
  refine Sat.call (w_impl_FormatOp e.Op) rfl ledA ?_
  conv=>arg 4;cbv
  refine Sat.need (by (try dsimp only); simp only [ByteArray.size_append, size_lit]; omega) ?_
  conv=>arg 4;cbv
  refine Sat.need ⟨rfl, fun y _ j _ => rfl, (by (try dsimp only); exact arA)⟩ ?_
  conv=>arg 4;cbv
  refine Sat.same ?_
  conv=>arg 4;cbv
  refine Sat.ari64 (by (try dsimp only); exact arA) (by (try dsimp only); exact arA) ?_
  conv=>arg 4;cbv
  refine Sat.next (i + 1) ?_ (by exact arA) (by (try dsimp only); exact arA)
  have e7 : (l.take (i + 1)).map entT = List.take ((l.take i).map entT).length ((l.take i).map entT) ++ List.take 1 (List.drop 0 [sI e.Epoch ++ ⟨#[58]⟩ ++ opT e.Op]) := by rw [List.take_length, hsn]; rfl
  refine les_of ?_ ?_ rfl
  iterate 2 (focus repeat' (first | exact trivial | refine And.intro ?_ ?_ | exact levA | refine lev_cons ?_ ?_ | refine LeV.agg rfl ?_ | exact Nat.le_of_ble_eq_true rfl | exact Or.inl ⟨_, rfl, .row rfl⟩ | refine Or.inl ⟨_, rfl, .row ?_⟩ | refine Or.inl ⟨_, rfl, .lit rfl ?_⟩ | exact Or.inr ⟨rfl, rfl⟩ | (first | exact .ref (fun h => nomatch h) (fun h => nomatch h) rfl (by (try dsimp only); rw [hsn]; simp) | exact e7.symm)))
 have hie : i = l.length := by exact arA
 have htk : (l.take i).map entT = l.map entT := by rw [hie, List.take_length]
 rw [htk]
 conv=>arg 4;cbv
 refine Sat.pop ?_
 conv=>arg 4;cbv
 refine Sat.call (w_strings_Join (l.map entT) ⟨#[59]⟩ (by rw [List.length_map]; omega) (by
  show (Lib.join ((l.map entT).map (·.data.toList)) [59]).length ≤ _
  rw [hjn]
  omega)) rfl (fun i x y hx hy => by
  match i with
  | 0 =>
    rw [List.getElem?_cons_zero, Option.some.injEq] at hx hy
    subst hx hy
    exact .sl (tkdr _)
  | 1 =>
    rw [List.getElem?_cons_succ, List.getElem?_cons_zero, Option.some.injEq] at hx hy
    subst hx hy
    exact .same _
  | i + 2 => simp at hx) ?_
 conv=>arg 4;cbv
 refine Sat.done (.str ?_)
 show (⟨(Lib.join ((l.map entT).map (·.data.toList)) [59]).toArray⟩ : ByteArray) = _
 rw [hjn, logT, if_pos hA, if_neg hne]
--import Derived.Shelf.Strings.Cut
theorem index_at (c : UInt8) (a r : List UInt8) (h : ∀ b ∈ a, b ≠ c) : Lib.cut (a ++ c :: r) [c] = (a, r, true) := by
 have hi : Lib.index (a ++ c :: r) [c] = a.length := by rw [Lib.index_one, indexByte_acc c r a h]
 rw [Lib.cut, if_pos (by rw [hi]; omega), hi]
 have e1 : ((a.length : Nat) : Int).toNat = a.length := by omega
 rw [e1, List.take_left]
 have e2 : (a ++ c :: r).drop (a.length + [c].length) = r := by
  rw [← List.drop_drop, List.drop_left]
  rfl
 rw [e2]
theorem ct_at {c : UInt8} {s x y : ByteArray} (h : s.data.toList = x.data.toList ++ c :: y.data.toList) (hx : ∀ b ∈ x.data.toList, b ≠ c) : ctA c s = x ∧ ctZ c s = y := by
 have e := index_at c x.data.toList y.data.toList hx
 constructor
 ·rw [ctA, h, e]
 ·rw [ctZ, h, e]
theorem sI_ne {n : Int} (h : 0 ≤ n) {c : UInt8} (hc : c.toNat < 48 ∨ 57 < c.toNat) : ∀ b ∈ (sI n).data.toList, b ≠ c := fun b hb e => by
 have := sI_digs h b hb
 rw [e] at this
 omega
theorem cut_texts (c : UInt8) : ∀ (r : List ByteArray) (x s : ByteArray), (∀ b ∈ x.data.toList, b ≠ c) → (∀ y ∈ r, ∀ b ∈ y.data.toList, b ≠ c) → s.data.toList = x.data.toList ++ (r.map (fun y => y.data.toList)).flatMap (fun w => c :: w) → cutB c s = x :: r := fun r x s hx hr hs => by
 rw [cutB, hs, pcs_join c _ _ hx (fun w hw => by
  rw [List.mem_map] at hw
  obtain ⟨y, hy, rfl⟩ := hw
  exact hr y hy)]
 rw [List.map_cons, List.map_map]
 have e : mkB x.data.toList = x := mkB_back x
 unfold mkB at e
 rw [e]
 congr 1
 exact (List.map_congr_left (fun y _ => mkB_back y)).trans (List.map_id _)
theorem w_spec_l4Copy (m : GMachine) (hb : bMachine m) : Fn Pr n_spec_l4Copy [aGMachine m] (aGMachine m) := by
 have h0 : m.Objects.length * 8 ≤ 140737488351232 := hb.1
 have h1 : m.Sessions.length * 32 ≤ 140737488351232 := hb.2
 refine k_spec_l4Copy.fn (by kernel_rfl) ?_
 conv=>arg 4;cbv
 repeat' first
  | (refine Sat.cmp (fun h => ?_) (fun h => ?_) <;> simp only [Cmp.holds] at h <;> (conv=>arg 4;cbv))
  | (refine Sat.need ⟨fun y _ => flat_encI .i64 y, by exact arA⟩ ?_; conv=>arg 4;cbv)
  | (refine Sat.need ⟨fun y _ => flat_GSession y, by exact arA⟩ ?_; conv=>arg 4;cbv)
  | (refine Sat.may (fun h => ?_) ?_ <;> (conv=>arg 4;cbv))
  | (refine Sat.need ndA ?_; conv=>arg 4;cbv)
  | (refine Sat.idxk (by assumption) ?_; conv=>arg 4;cbv) | (refine Sat.idx ndA (fun v_ hv_ => ?_); conv=>arg 4;cbv)
  | (refine Sat.ari64 ndA ndA ?_; conv=>arg 4;cbv)
  | (refine Sat.pop ?_; conv=>arg 4;cbv)
  | refine Sat.done ?_
 all_goals refine .agg rfl ?_
 all_goals (repeat' first | exact led_nil | refine led_cons ?_ ?_ | exact .same _ | exact .nil (by assumption) | exact .emp (by assumption) | exact .sl (by simp))
theorem w_spec_NewMachine : Fn Pr n_spec_NewMachine [] (aGMachine ⟨[0, 0, 0], []⟩) := by
 refine k_spec_NewMachine.fn (by kernel_rfl) ?_
 conv=>arg 4;cbv
 refine Sat.done (.agg rfl ?_)
 (repeat' first | exact led_nil | refine led_cons ?_ ?_ | exact .same _ | exact .nil rfl | exact .emp rfl | exact .sl (by simp))
def zeroSes : GSession := ⟨0, 0, ⟨false, 0⟩⟩
def sesF : List GSession → Int → GSession × Bool
 | [], _ => (zeroSes, false)
 | x :: r, c => if x.Client = c then (x, true) else sesF r c
theorem sesF_hit {l : List GSession} {c : Int} {i : Nat} {x : GSession} (h : sesF l c = sesF (l.drop i) c) (hx : l[i]? = some x) (hc : x.Client = c) : sesF l c = (x, true) := by
 rw [h, drop_get hx, sesF, if_pos hc]
theorem sesF_step {l : List GSession} {c : Int} {i : Nat} {x : GSession} (h : sesF l c = sesF (l.drop i) c) (hx : l[i]? = some x) (hc : ¬ x.Client = c) : sesF l c = sesF (l.drop (i + 1)) c := by
 rw [h, drop_get hx, sesF, if_neg hc]
theorem sesF_in : ∀ {l : List GSession} {c : Int}, (sesF l c).2 = true → ∃ x ∈ l, x.Client = c ∧ (sesF l c).1 = x
 | [], c, h => by cases h
 | x :: r, c, h => by
   rw [sesF] at h ⊢
   by_cases hc : x.Client = c
   ·exact ⟨x, List.mem_cons_self .., hc, by rw [if_pos hc]⟩
   ·rw [if_neg hc] at h ⊢
    obtain ⟨y, hy, h1, h2⟩ := sesF_in h
    exact ⟨y, List.mem_cons_of_mem _ hy, h1, h2⟩
theorem w_spec_SessionOf (m : GMachine) (c : Int) (hb : bMachine m) : Fn Pr n_spec_SessionOf [aGMachine m, .int .i64 (fun _ => c)] (.tup [aGSession (sesF m.Sessions c).1, .bo (sesF m.Sessions c).2]) := by
 have h1 : m.Sessions.length * 32 ≤ 140737488351232 := hb.2
 have h0 : sesF m.Sessions c = sesF (m.Sessions.drop 0) c := rfl
 generalize hr : sesF m.Sessions c = r at h0 ⊢
 obtain ⟨s, b⟩ := r
 refine k_spec_SessionOf.fn (by kernel_rfl) ?_
 conv=>arg 4;cbv
 refine Sat.loopP (ι := Nat) (fun i => [(6, .int .i64 (fun _ => (i : Int)))]) (fun i => []) (fun i => i ≤ m.Sessions.length ∧ sesF m.Sessions c = sesF (m.Sessions.drop i) c) (fun i => m.Sessions.length - i) 0 ?_ ⟨Nat.zero_le _, rfl⟩ (fun i hi => ?_)
 ·exact lesA
 conv=>arg 4;cbv
 refine Sat.cmp (fun h5 => ?_) (fun h5 => ?_) <;> simp only [Cmp.holds] at h5
 ·have hi2 : i < m.Sessions.length := by exact arA
  conv=>arg 4;cbv
  refine Sat.need (by (try dsimp only); exact arA) ?_
  conv=>arg 4;cbv
  refine Sat.idx (by (try dsimp only); exact arA) (fun x hx => ?_)
  have hx : m.Sessions[i]? = some x := by simpa using hx
  conv=>arg 4;cbv
  refine Sat.cmp (fun h6 => ?_) (fun h6 => ?_) <;> simp only [Cmp.holds] at h6
  ·have he := hr.symm.trans (sesF_hit hi.2 hx h6)
   obtain ⟨rfl, rfl⟩ := Prod.mk.inj he
   conv=>arg 4;cbv
   repeat' first
    | (refine Sat.need ndA ?_; conv=>arg 4;cbv)
    | (refine Sat.idxk (by assumption) ?_; conv=>arg 4;cbv) | (refine Sat.idx ndA (fun v_ hv_ => ?_); conv=>arg 4;cbv)
    | (refine Sat.pop ?_; conv=>arg 4;cbv)
    | refine Sat.done ?_
   all_goals exact ledA
  ·conv=>arg 4;cbv
   refine Sat.ari64 (by (try dsimp only); exact arA) (by (try dsimp only); exact arA) ?_
   conv=>arg 4;cbv
   refine Sat.next (i + 1) ?_ ⟨by exact arA, sesF_step hi.2 hx h6⟩ (by (try dsimp only); exact arA)
   exact lesA
 ·have he := hr.symm.trans (hi.2.trans (by rw [show i = m.Sessions.length by (have := hi.1; exact arA), List.drop_length, sesF]))
  obtain ⟨rfl, rfl⟩ := Prod.mk.inj he
  conv=>arg 4;cbv
  refine Sat.pop ?_
  conv=>arg 4;cbv
  refine Sat.done ?_
  exact ledA
def kOf (l : List GSession) (c : Int) : Nat := (l.takeWhile (fun x => decide (x.Client < c))).length
theorem kOf_eq : ∀ {l : List GSession} {c : Int} {i : Nat}, (∀ x ∈ l.take i, x.Client < c) → (i = l.length ∨ ∃ e, l[i]? = some e ∧ ¬ e.Client < c) → kOf l c = i
 | [], c, i, _, h => by
   rcases h with h | ⟨e, h, _⟩
   ·rw [h]
    rfl
   ·cases h
 | x :: r, c, 0, _, h => by
   rcases h with h | ⟨e, h, hn⟩
   ·cases h
   ·rw [List.getElem?_cons_zero] at h
    cases h
    rw [kOf, List.takeWhile_cons_of_neg (by simp; omega)]
    rfl
 | x :: r, c, i + 1, ha, h => by
   have h1 : x.Client < c := ha x (by simp)
   have h2 : kOf r c = i := kOf_eq (fun y hy => ha y (by rw [List.take_succ_cons]; exact List.mem_cons_of_mem _ hy)) (by
    rcases h with h | ⟨e, h, hn⟩
    ·exact .inl (by simpa using h)
    ·exact .inr ⟨e, by simpa using h, hn⟩)
   rw [kOf, List.takeWhile_cons_of_pos (by simp; omega), List.length_cons]
   rw [kOf] at h2
   omega
def addS (l : List GSession) (had : Bool) (s : GSession) : List GSession := l.take (kOf l s.Client) ++ s :: l.drop (if had = true then kOf l s.Client + 1 else kOf l s.Client)
theorem get_nat {l : List GSession} {i : Nat} {e : GSession} (h : l[0 + (i : Int).toNat]? = some e) : l[i]? = some e := by
 rw [show 0 + (i : Int).toNat = i by omega] at h
 exact h
theorem had_lt {l : List GSession} {c : Int} {i : Nat} {x : GSession} (ha : ∀ x ∈ l.take i, x.Client < c) (hx : x ∈ l) (hc : x.Client = c) : i < l.length := by
 rcases Nat.lt_or_ge i l.length with h1 | h1
 ·exact h1
 ·exfalso
  have := ha x (by rw [List.take_of_length_le h1]; exact hx)
  omega
theorem ap3 {l : List GSession} {i j : Nat} {x : GSession} (hi : i ≤ l.length) : List.take ((i - 0 + 1) + (List.take (l.length - j) (List.drop (0 + j) l)).length) (List.drop 0 (List.take (i - 0 + 1) (List.take (i - 0) (List.take (i - 0) (List.drop (0 + 0) l)) ++ [x]) ++ List.take (l.length - j) (List.drop (0 + j) l))) = l.take i ++ x :: l.drop j := by
 simp only [Nat.sub_zero, Nat.zero_add, List.drop_zero]
 have e0 : List.take i (List.take i l) = l.take i := by rw [List.take_take, Nat.min_self]
 have e1 : List.take (i + 1) (l.take i ++ [x]) = l.take i ++ [x] := List.take_of_length_le (by rw [List.length_append, List.length_take, List.length_singleton]; omega)
 have e2 : List.take (l.length - j) (l.drop j) = l.drop j := List.take_of_length_le (by rw [List.length_drop]; exact Nat.le_refl _)
 rw [e2, e0, e1, List.take_of_length_le (by rw [List.length_append, List.length_append, List.length_take, List.length_singleton]; omega), List.append_assoc]
 rfl
theorem take_lt {l : List GSession} {c : Int} {i : Nat} {e : GSession} (h : ∀ x ∈ l.take i, x.Client < c) (he : l[i]? = some e) (hc : e.Client < c) : ∀ x ∈ l.take (i + 1), x.Client < c := fun x hx => by
 rw [List.take_add_one, he, List.mem_append] at hx
 rcases hx with hx | hx
 ·exact h x hx
 ·simp at hx
  rw [hx]
  exact hc
def resO (m : GMachine) (o : GOp) : GResult := ⟨decide (o.Kind = 1) || decide (m.Objects.getD o.Object.toNat 0 = o.Old), m.Objects.getD o.Object.toNat 0⟩
def newO (m : GMachine) (o : GOp) : GMachine := ⟨if (resO m o).Done = true then m.Objects.set o.Object.toNat o.Value else m.Objects, addS m.Sessions (sesF m.Sessions o.Client).2 ⟨o.Client, o.Seq, resO m o⟩⟩
def aplO (m : GMachine) (o : GOp) : GMachine × GResult × Bool :=
 if validM m = true ∧ okOp o = true then
  if (sesF m.Sessions o.Client).2 = true ∧ (sesF m.Sessions o.Client).1.Seq = o.Seq then (m, (sesF m.Sessions o.Client).1.Result, true)
  else if (sesF m.Sessions o.Client).2 = true ∧ (sesF m.Sessions o.Client).1.Seq > o.Seq then (m, ⟨false, 0⟩, false)
  else (newO m o, resO m o, true)
 else (m, ⟨false, 0⟩, false)
set_option maxHeartbeats 2000000 in
theorem w_spec_ApplyOp (m : GMachine) (o : GOp) (hb : bMachine m) : Fn Pr n_spec_ApplyOp [aGMachine m, aGOp o] (.tup [aGMachine (aplO m o).1, aGResult (aplO m o).2.1, .bo (aplO m o).2.2]) := by
 have h0 : m.Objects.length * 8 ≤ 140737488351232 := hb.1
 have h1 : m.Sessions.length * 32 ≤ 140737488351232 := hb.2
 have WS := w_spec_SessionOf m o.Client hb
 generalize hs : sesF m.Sessions o.Client = sb at WS
 obtain ⟨s, had⟩ := sb
 have hsA : (sesF m.Sessions o.Client).1 = s := congrArg Prod.fst hs
 have hsB : (sesF m.Sessions o.Client).2 = had := congrArg Prod.snd hs
 refine k_spec_ApplyOp.fn (by kernel_rfl) ?_
 conv=>arg 4;cbv
 refine Sat.call (w_spec_l4Copy m hb) rfl ledA ?_
 conv=>arg 4;cbv
 refine Sat.callb (w_spec_IsValidMachine m hb) rfl ledA (fun hA => ?_) (fun hA => ?_)
 rotate_left
 ·have he : aplO m o = (m, ⟨false, 0⟩, false) := by rw [aplO, if_neg (fun e => by rw [hA] at e; exact Bool.false_ne_true e.1)]
  conv=>arg 4;cbv
  refine Sat.done ?_
  rw [he]
  exact ledA
 conv=>arg 4;cbv
 refine Sat.callb (w_spec_IsValidOp o) rfl ledA (fun hB => ?_) (fun hB => ?_)
 rotate_left
 ·have he : aplO m o = (m, ⟨false, 0⟩, false) := by rw [aplO, if_neg (fun e => by rw [hB] at e; exact Bool.false_ne_true e.2)]
  conv=>arg 4;cbv
  refine Sat.done ?_
  rw [he]
  exact ledA
 have hv := validM_spec hA
 have ho := okOp_spec hB
 obtain ⟨sc, sq, sd, sv⟩ := s
 obtain ⟨v, hv2⟩ : ∃ v, m.Objects[o.Object.toNat]? = some v := ⟨_, List.getElem?_eq_getElem (by omega)⟩
 have hgd : m.Objects.getD o.Object.toNat 0 = v := by rw [List.getD_eq_getElem?_getD, hv2]; rfl
 conv=>arg 4;cbv
 cases had
 ·refine Sat.call WS rfl ledA ?_
  conv=>arg 4;cbv
  have he : aplO m o = (newO m o, resO m o, true) := by rw [aplO, if_pos ⟨hA, hB⟩, hs, if_neg (fun q => Bool.false_ne_true q.1), if_neg (fun q => Bool.false_ne_true q.1)]
  refine Sat.need (by (try dsimp only); exact arA) ?_
  conv=>arg 4;cbv
  refine Sat.idx (by (try dsimp only); exact arA) (fun v2 hv3 => ?_)
  obtain rfl : v = v2 := Option.some.inj (Eq.trans (Eq.symm hv2) (by simpa using hv3))
  conv=>arg 4;cbv
  refine Sat.cmp (fun h7 => ?_) (fun h7 => ?_) <;> simp only [Cmp.holds] at h7
  ·have hres : resO m o = ⟨true, v⟩ := by rw [resO, hgd, h7]; rfl
   conv=>arg 4;cbv
   repeat' first | (refine Sat.need ndA ?_; conv=>arg 4;cbv) | (refine Sat.idxk (by assumption) ?_; conv=>arg 4;cbv) | (refine Sat.idx ndA (fun v_ hv_ => ?_); conv=>arg 4;cbv) | (refine Sat.typed o.Value tcA ?_; conv=>arg 4;cbv)
   refine Sat.loopP (ι := Nat) (fun i => [(12, .int .i64 (fun _ => (i : Int)))]) (fun i => []) (fun i => i ≤ m.Sessions.length ∧ ∀ x ∈ m.Sessions.take i, x.Client < o.Client) (fun i => m.Sessions.length - i) 0 ?_ ⟨Nat.zero_le _, by simp⟩ (fun i hi => ?_)
   ·exact lesA
   conv=>arg 4;cbv
   repeat' first
    | (refine Sat.cmp (fun h => ?_) (fun h => ?_) <;> simp only [Cmp.holds] at h <;> (conv=>arg 4;cbv))
    | (refine Sat.may (fun h => ?_) ?_ <;> (conv=>arg 4;cbv))
    | (refine Sat.need ndA ?_; conv=>arg 4;cbv)
    | (refine Sat.idxk (by assumption) ?_; conv=>arg 4;cbv) | (refine Sat.idx ndA (fun v_ hv_ => ?_); conv=>arg 4;cbv)
    | (refine Sat.ari64 ndA ndA ?_; conv=>arg 4;cbv)
    | (refine Sat.pop ?_; conv=>arg 4;cbv)
    | refine Sat.next (i + 1) ?_ ?_ (by (try dsimp only); exact arA)
   all_goals try rw [hres] at he
   all_goals try first
    | (exact lesA; done)
    | exact ⟨by exact arA, take_lt (i := i) hi.2 (by assumption) (by assumption)⟩
    | exact ⟨by exact arA, take_lt (i := i) hi.2 (get_nat (by assumption)) (by assumption)⟩
   all_goals repeat' first
    | (refine Sat.need ⟨fun y _ => flat_GSession y, (by (try dsimp only); (try simp only [List.length_append, List.length_take, List.length_drop, List.length_cons, List.length_nil]); exact arA)⟩ ?_; conv=>arg 4;cbv)
    | (refine Sat.need ⟨rfl, rfl, rfl, (by (try dsimp only); (try simp only [List.length_append, List.length_take, List.length_drop, List.length_cons, List.length_nil]); exact arA)⟩ ?_; conv=>arg 4;cbv)
    | (refine Sat.need ⟨rfl, fun y _ => flat_GSession y, (by (try dsimp only); (try simp only [List.length_append, List.length_take, List.length_drop, List.length_cons, List.length_nil]); exact arA)⟩ ?_; conv=>arg 4;cbv)
    | (refine Sat.typed (⟨o.Client, o.Seq, ⟨true, v⟩⟩ : GSession) tcA ?_; conv=>arg 4;cbv)
    | (refine Sat.same ?_; conv=>arg 4;cbv)
    | (refine Sat.may (fun h => ?_) ?_ <;> (conv=>arg 4;cbv))
    | (refine Sat.need ndA ?_; conv=>arg 4;cbv)
    | (refine Sat.ari64 ndA ndA ?_; conv=>arg 4;cbv)
    | refine Sat.done ?_
   all_goals have hk : kOf m.Sessions o.Client = i := kOf_eq hi.2 (by first | exact .inr ⟨_, get_nat (by assumption), by assumption⟩ | exact .inl (by exact arA))
   all_goals have hS : (newO m o).Sessions = m.Sessions.take i ++ ⟨o.Client, o.Seq, ⟨true, v⟩⟩ :: m.Sessions.drop i := by rw [newO, addS, hk, hsB, hres]; rfl
   all_goals have hO : (newO m o).Objects = m.Objects.set o.Object.toNat o.Value := by rw [newO, hres]; rfl
   all_goals rw [he]
   all_goals refine .tup rfl (led_cons (.agg rfl (led_cons (.sl ?_) (led_cons (.sl ?_) led_nil))) (led_cons (.same _) (led_cons (.same _) led_nil)))
   all_goals first
    | (rw [hO]; simp [setAt]; done)
    | exact (ap3 (j := i) hi.1).trans hS.symm
  conv=>arg 4;cbv
  refine Sat.cmp (fun h8 => ?_) (fun h8 => ?_) <;> simp only [Cmp.holds] at h8
  ·have hres : resO m o = ⟨true, v⟩ := by rw [resO, hgd, h8]; simp
   conv=>arg 4;cbv
   repeat' first | (refine Sat.need ndA ?_; conv=>arg 4;cbv) | (refine Sat.idxk (by assumption) ?_; conv=>arg 4;cbv) | (refine Sat.idx ndA (fun v_ hv_ => ?_); conv=>arg 4;cbv) | (refine Sat.typed o.Value tcA ?_; conv=>arg 4;cbv)
   refine Sat.loopP (ι := Nat) (fun i => [(12, .int .i64 (fun _ => (i : Int)))]) (fun i => []) (fun i => i ≤ m.Sessions.length ∧ ∀ x ∈ m.Sessions.take i, x.Client < o.Client) (fun i => m.Sessions.length - i) 0 ?_ ⟨Nat.zero_le _, by simp⟩ (fun i hi => ?_)
   ·exact lesA
   conv=>arg 4;cbv
   repeat' first
    | (refine Sat.cmp (fun h => ?_) (fun h => ?_) <;> simp only [Cmp.holds] at h <;> (conv=>arg 4;cbv))
    | (refine Sat.may (fun h => ?_) ?_ <;> (conv=>arg 4;cbv))
    | (refine Sat.need ndA ?_; conv=>arg 4;cbv)
    | (refine Sat.idxk (by assumption) ?_; conv=>arg 4;cbv) | (refine Sat.idx ndA (fun v_ hv_ => ?_); conv=>arg 4;cbv)
    | (refine Sat.ari64 ndA ndA ?_; conv=>arg 4;cbv)
    | (refine Sat.pop ?_; conv=>arg 4;cbv)
    | refine Sat.next (i + 1) ?_ ?_ (by (try dsimp only); exact arA)
   all_goals try rw [hres] at he
   all_goals try first
    | (exact lesA; done)
    | exact ⟨by exact arA, take_lt (i := i) hi.2 (by assumption) (by assumption)⟩
    | exact ⟨by exact arA, take_lt (i := i) hi.2 (get_nat (by assumption)) (by assumption)⟩
   all_goals repeat' first
    | (refine Sat.need ⟨fun y _ => flat_GSession y, (by (try dsimp only); (try simp only [List.length_append, List.length_take, List.length_drop, List.length_cons, List.length_nil]); exact arA)⟩ ?_; conv=>arg 4;cbv)
    | (refine Sat.need ⟨rfl, rfl, rfl, (by (try dsimp only); (try simp only [List.length_append, List.length_take, List.length_drop, List.length_cons, List.length_nil]); exact arA)⟩ ?_; conv=>arg 4;cbv)
    | (refine Sat.need ⟨rfl, fun y _ => flat_GSession y, (by (try dsimp only); (try simp only [List.length_append, List.length_take, List.length_drop, List.length_cons, List.length_nil]); exact arA)⟩ ?_; conv=>arg 4;cbv)
    | (refine Sat.typed (⟨o.Client, o.Seq, ⟨true, v⟩⟩ : GSession) tcA ?_; conv=>arg 4;cbv)
    | (refine Sat.same ?_; conv=>arg 4;cbv)
    | (refine Sat.may (fun h => ?_) ?_ <;> (conv=>arg 4;cbv))
    | (refine Sat.need ndA ?_; conv=>arg 4;cbv)
    | (refine Sat.ari64 ndA ndA ?_; conv=>arg 4;cbv)
    | refine Sat.done ?_
   all_goals have hk : kOf m.Sessions o.Client = i := kOf_eq hi.2 (by first | exact .inr ⟨_, get_nat (by assumption), by assumption⟩ | exact .inl (by exact arA))
   all_goals have hS : (newO m o).Sessions = m.Sessions.take i ++ ⟨o.Client, o.Seq, ⟨true, v⟩⟩ :: m.Sessions.drop i := by rw [newO, addS, hk, hsB, hres]; rfl
   all_goals have hO : (newO m o).Objects = m.Objects.set o.Object.toNat o.Value := by rw [newO, hres]; rfl
   all_goals rw [he]
   all_goals refine .tup rfl (led_cons (.agg rfl (led_cons (.sl ?_) (led_cons (.sl ?_) led_nil))) (led_cons (.same _) (led_cons (.same _) led_nil)))
   all_goals first
    | (rw [hO]; simp [setAt]; done)
    | exact (ap3 (j := i) hi.1).trans hS.symm
  ·have hres : resO m o = ⟨false, v⟩ := by rw [resO, hgd, decide_eq_false h7, decide_eq_false h8]; rfl
   conv=>arg 4;cbv
   refine Sat.loopP (ι := Nat) (fun i => [(12, .int .i64 (fun _ => (i : Int)))]) (fun i => []) (fun i => i ≤ m.Sessions.length ∧ ∀ x ∈ m.Sessions.take i, x.Client < o.Client) (fun i => m.Sessions.length - i) 0 ?_ ⟨Nat.zero_le _, by simp⟩ (fun i hi => ?_)
   ·exact lesA
   conv=>arg 4;cbv
   repeat' first
    | (refine Sat.cmp (fun h => ?_) (fun h => ?_) <;> simp only [Cmp.holds] at h <;> (conv=>arg 4;cbv))
    | (refine Sat.may (fun h => ?_) ?_ <;> (conv=>arg 4;cbv))
    | (refine Sat.need ndA ?_; conv=>arg 4;cbv)
    | (refine Sat.idxk (by assumption) ?_; conv=>arg 4;cbv) | (refine Sat.idx ndA (fun v_ hv_ => ?_); conv=>arg 4;cbv)
    | (refine Sat.ari64 ndA ndA ?_; conv=>arg 4;cbv)
    | (refine Sat.pop ?_; conv=>arg 4;cbv)
    | refine Sat.next (i + 1) ?_ ?_ (by (try dsimp only); exact arA)
   all_goals try rw [hres] at he
   all_goals try first
    | (exact lesA; done)
    | exact ⟨by exact arA, take_lt (i := i) hi.2 (by assumption) (by assumption)⟩
    | exact ⟨by exact arA, take_lt (i := i) hi.2 (get_nat (by assumption)) (by assumption)⟩
   all_goals repeat' first
    | (refine Sat.need ⟨fun y _ => flat_GSession y, (by (try dsimp only); (try simp only [List.length_append, List.length_take, List.length_drop, List.length_cons, List.length_nil]); exact arA)⟩ ?_; conv=>arg 4;cbv)
    | (refine Sat.need ⟨rfl, rfl, rfl, (by (try dsimp only); (try simp only [List.length_append, List.length_take, List.length_drop, List.length_cons, List.length_nil]); exact arA)⟩ ?_; conv=>arg 4;cbv)
    | (refine Sat.need ⟨rfl, fun y _ => flat_GSession y, (by (try dsimp only); (try simp only [List.length_append, List.length_take, List.length_drop, List.length_cons, List.length_nil]); exact arA)⟩ ?_; conv=>arg 4;cbv)
    | (refine Sat.typed (⟨o.Client, o.Seq, ⟨false, v⟩⟩ : GSession) tcA ?_; conv=>arg 4;cbv)
    | (refine Sat.same ?_; conv=>arg 4;cbv)
    | (refine Sat.may (fun h => ?_) ?_ <;> (conv=>arg 4;cbv))
    | (refine Sat.need ndA ?_; conv=>arg 4;cbv)
    | (refine Sat.ari64 ndA ndA ?_; conv=>arg 4;cbv)
    | refine Sat.done ?_
   all_goals have hk : kOf m.Sessions o.Client = i := kOf_eq hi.2 (by first | exact .inr ⟨_, get_nat (by assumption), by assumption⟩ | exact .inl (by exact arA))
   all_goals have hS : (newO m o).Sessions = m.Sessions.take i ++ ⟨o.Client, o.Seq, ⟨false, v⟩⟩ :: m.Sessions.drop i := by rw [newO, addS, hk, hsB, hres]; rfl
   all_goals have hO : (newO m o).Objects = m.Objects := by rw [newO, hres]; rfl
   all_goals rw [he]
   all_goals refine .tup rfl (led_cons (.agg rfl (led_cons (.sl ?_) (led_cons (.sl ?_) led_nil))) (led_cons (.same _) (led_cons (.same _) led_nil)))
   all_goals first
    | (rw [hO]; simp [setAt]; done)
    | exact (ap3 (j := i) hi.1).trans hS.symm
 ·obtain ⟨xs, hxs, hxc, _⟩ := sesF_in hsB
  refine Sat.call WS rfl ledA ?_
  conv=>arg 4;cbv
  refine Sat.cmp (fun h5 => ?_) (fun h5 => ?_) <;> simp only [Cmp.holds] at h5
  ·have he : aplO m o = (m, ⟨sd, sv⟩, true) := by rw [aplO, if_pos ⟨hA, hB⟩, hs, if_pos ⟨rfl, h5⟩]
   conv=>arg 4;cbv
   repeat' first | (refine Sat.may (fun h => ?_) ?_ <;> (conv=>arg 4;cbv)) | refine Sat.done ?_
   all_goals rw [he]
   all_goals exact ledA
  conv=>arg 4;cbv
  refine Sat.cmp (fun h6 => ?_) (fun h6 => ?_) <;> simp only [Cmp.holds] at h6
  ·have he : aplO m o = (m, ⟨false, 0⟩, false) := by rw [aplO, if_pos ⟨hA, hB⟩, hs, if_neg (fun q => h5 q.2), if_pos ⟨rfl, h6⟩]
   conv=>arg 4;cbv
   refine Sat.done ?_
   rw [he]
   exact ledA
  conv=>arg 4;cbv
  have he : aplO m o = (newO m o, resO m o, true) := by rw [aplO, if_pos ⟨hA, hB⟩, hs, if_neg (fun q => h5 q.2), if_neg (fun q => h6 q.2)]
  refine Sat.need (by (try dsimp only); exact arA) ?_
  conv=>arg 4;cbv
  refine Sat.idx (by (try dsimp only); exact arA) (fun v2 hv3 => ?_)
  obtain rfl : v = v2 := Option.some.inj (Eq.trans (Eq.symm hv2) (by simpa using hv3))
  conv=>arg 4;cbv
  refine Sat.cmp (fun h7 => ?_) (fun h7 => ?_) <;> simp only [Cmp.holds] at h7
  ·have hres : resO m o = ⟨true, v⟩ := by rw [resO, hgd, h7]; rfl
   conv=>arg 4;cbv
   repeat' first | (refine Sat.need ndA ?_; conv=>arg 4;cbv) | (refine Sat.idxk (by assumption) ?_; conv=>arg 4;cbv) | (refine Sat.idx ndA (fun v_ hv_ => ?_); conv=>arg 4;cbv) | (refine Sat.typed o.Value tcA ?_; conv=>arg 4;cbv)
   refine Sat.loopP (ι := Nat) (fun i => [(12, .int .i64 (fun _ => (i : Int)))]) (fun i => []) (fun i => i ≤ m.Sessions.length ∧ ∀ x ∈ m.Sessions.take i, x.Client < o.Client) (fun i => m.Sessions.length - i) 0 ?_ ⟨Nat.zero_le _, by simp⟩ (fun i hi => ?_)
   ·exact lesA
   conv=>arg 4;cbv
   repeat' first
    | (refine Sat.cmp (fun h => ?_) (fun h => ?_) <;> simp only [Cmp.holds] at h <;> (conv=>arg 4;cbv))
    | (refine Sat.may (fun h => ?_) ?_ <;> (conv=>arg 4;cbv))
    | (refine Sat.need ndA ?_; conv=>arg 4;cbv)
    | (refine Sat.idxk (by assumption) ?_; conv=>arg 4;cbv) | (refine Sat.idx ndA (fun v_ hv_ => ?_); conv=>arg 4;cbv)
    | (refine Sat.ari64 ndA ndA ?_; conv=>arg 4;cbv)
    | (refine Sat.pop ?_; conv=>arg 4;cbv)
    | refine Sat.next (i + 1) ?_ ?_ (by (try dsimp only); exact arA)
   all_goals try rw [hres] at he
   all_goals try first
    | (exact lesA; done)
    | exact ⟨by exact arA, take_lt (i := i) hi.2 (by assumption) (by assumption)⟩
    | exact ⟨by exact arA, take_lt (i := i) hi.2 (get_nat (by assumption)) (by assumption)⟩
   all_goals have hil : i < m.Sessions.length := had_lt hi.2 hxs hxc
   all_goals repeat' first
    | (refine Sat.need ⟨fun y _ => flat_GSession y, (by (try dsimp only); (try simp only [List.length_append, List.length_take, List.length_drop, List.length_cons, List.length_nil]); exact arA)⟩ ?_; conv=>arg 4;cbv)
    | (refine Sat.need ⟨rfl, rfl, rfl, (by (try dsimp only); (try simp only [List.length_append, List.length_take, List.length_drop, List.length_cons, List.length_nil]); exact arA)⟩ ?_; conv=>arg 4;cbv)
    | (refine Sat.need ⟨rfl, fun y _ => flat_GSession y, (by (try dsimp only); (try simp only [List.length_append, List.length_take, List.length_drop, List.length_cons, List.length_nil]); exact arA)⟩ ?_; conv=>arg 4;cbv)
    | (refine Sat.typed (⟨o.Client, o.Seq, ⟨true, v⟩⟩ : GSession) tcA ?_; conv=>arg 4;cbv)
    | (refine Sat.same ?_; conv=>arg 4;cbv)
    | (refine Sat.may (fun h => ?_) ?_ <;> (conv=>arg 4;cbv))
    | (refine Sat.need ndA ?_; conv=>arg 4;cbv)
    | (refine Sat.ari64 ndA ndA ?_; conv=>arg 4;cbv)
    | refine Sat.done ?_
   all_goals have hk : kOf m.Sessions o.Client = i := kOf_eq hi.2 (by first | exact .inr ⟨_, get_nat (by assumption), by assumption⟩ | exact .inl (by exact arA))
   all_goals have hS : (newO m o).Sessions = m.Sessions.take i ++ ⟨o.Client, o.Seq, ⟨true, v⟩⟩ :: m.Sessions.drop (i + 1) := by rw [newO, addS, hk, hsB, hres]; rfl
   all_goals have hO : (newO m o).Objects = m.Objects.set o.Object.toNat o.Value := by rw [newO, hres]; rfl
   all_goals rw [he]
   all_goals refine .tup rfl (led_cons (.agg rfl (led_cons (.sl ?_) (led_cons (.sl ?_) led_nil))) (led_cons (.same _) (led_cons (.same _) led_nil)))
   all_goals first
    | (rw [hO]; simp [setAt]; done)
    | exact (ap3 (j := (i + 1)) hi.1).trans hS.symm
  conv=>arg 4;cbv
  refine Sat.cmp (fun h8 => ?_) (fun h8 => ?_) <;> simp only [Cmp.holds] at h8
  ·have hres : resO m o = ⟨true, v⟩ := by rw [resO, hgd, h8]; simp
   conv=>arg 4;cbv
   repeat' first | (refine Sat.need ndA ?_; conv=>arg 4;cbv) | (refine Sat.idxk (by assumption) ?_; conv=>arg 4;cbv) | (refine Sat.idx ndA (fun v_ hv_ => ?_); conv=>arg 4;cbv) | (refine Sat.typed o.Value tcA ?_; conv=>arg 4;cbv)
   refine Sat.loopP (ι := Nat) (fun i => [(12, .int .i64 (fun _ => (i : Int)))]) (fun i => []) (fun i => i ≤ m.Sessions.length ∧ ∀ x ∈ m.Sessions.take i, x.Client < o.Client) (fun i => m.Sessions.length - i) 0 ?_ ⟨Nat.zero_le _, by simp⟩ (fun i hi => ?_)
   ·exact lesA
   conv=>arg 4;cbv
   repeat' first
    | (refine Sat.cmp (fun h => ?_) (fun h => ?_) <;> simp only [Cmp.holds] at h <;> (conv=>arg 4;cbv))
    | (refine Sat.may (fun h => ?_) ?_ <;> (conv=>arg 4;cbv))
    | (refine Sat.need ndA ?_; conv=>arg 4;cbv)
    | (refine Sat.idxk (by assumption) ?_; conv=>arg 4;cbv) | (refine Sat.idx ndA (fun v_ hv_ => ?_); conv=>arg 4;cbv)
    | (refine Sat.ari64 ndA ndA ?_; conv=>arg 4;cbv)
    | (refine Sat.pop ?_; conv=>arg 4;cbv)
    | refine Sat.next (i + 1) ?_ ?_ (by (try dsimp only); exact arA)
   all_goals try rw [hres] at he
   all_goals try first
    | (exact lesA; done)
    | exact ⟨by exact arA, take_lt (i := i) hi.2 (by assumption) (by assumption)⟩
    | exact ⟨by exact arA, take_lt (i := i) hi.2 (get_nat (by assumption)) (by assumption)⟩
   all_goals have hil : i < m.Sessions.length := had_lt hi.2 hxs hxc
   all_goals repeat' first
    | (refine Sat.need ⟨fun y _ => flat_GSession y, (by (try dsimp only); (try simp only [List.length_append, List.length_take, List.length_drop, List.length_cons, List.length_nil]); exact arA)⟩ ?_; conv=>arg 4;cbv)
    | (refine Sat.need ⟨rfl, rfl, rfl, (by (try dsimp only); (try simp only [List.length_append, List.length_take, List.length_drop, List.length_cons, List.length_nil]); exact arA)⟩ ?_; conv=>arg 4;cbv)
    | (refine Sat.need ⟨rfl, fun y _ => flat_GSession y, (by (try dsimp only); (try simp only [List.length_append, List.length_take, List.length_drop, List.length_cons, List.length_nil]); exact arA)⟩ ?_; conv=>arg 4;cbv)
    | (refine Sat.typed (⟨o.Client, o.Seq, ⟨true, v⟩⟩ : GSession) tcA ?_; conv=>arg 4;cbv)
    | (refine Sat.same ?_; conv=>arg 4;cbv)
    | (refine Sat.may (fun h => ?_) ?_ <;> (conv=>arg 4;cbv))
    | (refine Sat.need ndA ?_; conv=>arg 4;cbv)
    | (refine Sat.ari64 ndA ndA ?_; conv=>arg 4;cbv)
    | refine Sat.done ?_
   all_goals have hk : kOf m.Sessions o.Client = i := kOf_eq hi.2 (by first | exact .inr ⟨_, get_nat (by assumption), by assumption⟩ | exact .inl (by exact arA))
   all_goals have hS : (newO m o).Sessions = m.Sessions.take i ++ ⟨o.Client, o.Seq, ⟨true, v⟩⟩ :: m.Sessions.drop (i + 1) := by rw [newO, addS, hk, hsB, hres]; rfl
   all_goals have hO : (newO m o).Objects = m.Objects.set o.Object.toNat o.Value := by rw [newO, hres]; rfl
   all_goals rw [he]
   all_goals refine .tup rfl (led_cons (.agg rfl (led_cons (.sl ?_) (led_cons (.sl ?_) led_nil))) (led_cons (.same _) (led_cons (.same _) led_nil)))
   all_goals first
    | (rw [hO]; simp [setAt]; done)
    | exact (ap3 (j := (i + 1)) hi.1).trans hS.symm
  ·have hres : resO m o = ⟨false, v⟩ := by rw [resO, hgd, decide_eq_false h7, decide_eq_false h8]; rfl
   conv=>arg 4;cbv
   refine Sat.loopP (ι := Nat) (fun i => [(12, .int .i64 (fun _ => (i : Int)))]) (fun i => []) (fun i => i ≤ m.Sessions.length ∧ ∀ x ∈ m.Sessions.take i, x.Client < o.Client) (fun i => m.Sessions.length - i) 0 ?_ ⟨Nat.zero_le _, by simp⟩ (fun i hi => ?_)
   ·exact lesA
   conv=>arg 4;cbv
   repeat' first
    | (refine Sat.cmp (fun h => ?_) (fun h => ?_) <;> simp only [Cmp.holds] at h <;> (conv=>arg 4;cbv))
    | (refine Sat.may (fun h => ?_) ?_ <;> (conv=>arg 4;cbv))
    | (refine Sat.need ndA ?_; conv=>arg 4;cbv)
    | (refine Sat.idxk (by assumption) ?_; conv=>arg 4;cbv) | (refine Sat.idx ndA (fun v_ hv_ => ?_); conv=>arg 4;cbv)
    | (refine Sat.ari64 ndA ndA ?_; conv=>arg 4;cbv)
    | (refine Sat.pop ?_; conv=>arg 4;cbv)
    | refine Sat.next (i + 1) ?_ ?_ (by (try dsimp only); exact arA)
   all_goals try rw [hres] at he
   all_goals try first
    | (exact lesA; done)
    | exact ⟨by exact arA, take_lt (i := i) hi.2 (by assumption) (by assumption)⟩
    | exact ⟨by exact arA, take_lt (i := i) hi.2 (get_nat (by assumption)) (by assumption)⟩
   all_goals have hil : i < m.Sessions.length := had_lt hi.2 hxs hxc
   all_goals repeat' first
    | (refine Sat.need ⟨fun y _ => flat_GSession y, (by (try dsimp only); (try simp only [List.length_append, List.length_take, List.length_drop, List.length_cons, List.length_nil]); exact arA)⟩ ?_; conv=>arg 4;cbv)
    | (refine Sat.need ⟨rfl, rfl, rfl, (by (try dsimp only); (try simp only [List.length_append, List.length_take, List.length_drop, List.length_cons, List.length_nil]); exact arA)⟩ ?_; conv=>arg 4;cbv)
    | (refine Sat.need ⟨rfl, fun y _ => flat_GSession y, (by (try dsimp only); (try simp only [List.length_append, List.length_take, List.length_drop, List.length_cons, List.length_nil]); exact arA)⟩ ?_; conv=>arg 4;cbv)
    | (refine Sat.typed (⟨o.Client, o.Seq, ⟨false, v⟩⟩ : GSession) tcA ?_; conv=>arg 4;cbv)
    | (refine Sat.same ?_; conv=>arg 4;cbv)
    | (refine Sat.may (fun h => ?_) ?_ <;> (conv=>arg 4;cbv))
    | (refine Sat.need ndA ?_; conv=>arg 4;cbv)
    | (refine Sat.ari64 ndA ndA ?_; conv=>arg 4;cbv)
    | refine Sat.done ?_
   all_goals have hk : kOf m.Sessions o.Client = i := kOf_eq hi.2 (by first | exact .inr ⟨_, get_nat (by assumption), by assumption⟩ | exact .inl (by exact arA))
   all_goals have hS : (newO m o).Sessions = m.Sessions.take i ++ ⟨o.Client, o.Seq, ⟨false, v⟩⟩ :: m.Sessions.drop (i + 1) := by rw [newO, addS, hk, hsB, hres]; rfl
   all_goals have hO : (newO m o).Objects = m.Objects := by rw [newO, hres]; rfl
   all_goals rw [he]
   all_goals refine .tup rfl (led_cons (.agg rfl (led_cons (.sl ?_) (led_cons (.sl ?_) led_nil))) (led_cons (.same _) (led_cons (.same _) led_nil)))
   all_goals first
    | (rw [hO]; simp [setAt]; done)
    | exact (ap3 (j := (i + 1)) hi.1).trans hS.symm
def isMc (k : Nat) : AV → Prop := fun r => ∃ m : GMachine, r = aGMachine m ∧ m.Objects.length = 3 ∧ m.Sessions.length ≤ k
theorem addS_len (l : List GSession) (had : Bool) (s : GSession) : (addS l had s).length ≤ l.length + 1 := by
 rw [addS, List.length_append, List.length_cons, List.length_take, List.length_drop]
 split <;> omega
theorem aplO_len (m : GMachine) (o : GOp) : (aplO m o).1.Objects.length = m.Objects.length ∧ (aplO m o).1.Sessions.length ≤ m.Sessions.length + 1 := by
 unfold aplO
 split
 ·split
  ·exact ⟨rfl, Nat.le_succ _⟩
  ·split
   ·exact ⟨rfl, Nat.le_succ _⟩
   ·refine ⟨?_, addS_len _ _ _⟩
    show (if (resO m o).Done = true then m.Objects.set o.Object.toNat o.Value else m.Objects).length = _
    split
    ·exact List.length_set
    ·rfl
 ·exact ⟨rfl, Nat.le_succ _⟩
theorem w_spec_l4Machine (code : List Int) (hc : code.length ≤ 1048576) (i h : Int) (hi : 0 ≤ i ∧ i ≤ (code.length : Int)) : FnP Pr n_spec_l4Machine [.ptr 0 0] [curA code i h] (Dr code (isMc 5)) := by
 refine k_spec_l4Machine.fnp (by kernel_rfl) ?_
 conv=>arg 4;cbv
 refine Sat.call w_spec_NewMachine rfl ledA ?_
 conv=>arg 4;cbv
 refine Sat.draw (w_spec_l1Below code hc 6) hi (fun ret ia ha hia hR => ?_)
 obtain ⟨n, rfl, n0, n1⟩ := hR
 conv=>arg 4;cbv
 refine Sat.loopP (ι := GMachine × Int × Int × Int) (fun p => [(4, .int .i64 (fun _ => p.2.1))]) (fun p => [(0, .lit 99 [.sl 1 (encI .u8) (fun _ => code), .int .i64 (fun _ => p.2.2.1), .int .i64 (fun _ => p.2.2.2)]), (33, .lit 0 [.ref 17 (fun _ => 0) (fun _ => p.1.Objects.length), .ref 18 (fun _ => 0) (fun _ => p.1.Sessions.length)]), (17, .row 1 (encI .i64) (fun _ => p.1.Objects) false), (18, .row 4 eGSession (fun _ => p.1.Sessions) false)]) (fun p => (p.1.Objects.length = 3 ∧ (p.1.Sessions.length : Int) + p.2.1 ≤ 5 ∧ 0 ≤ p.2.1) ∧ 0 ≤ p.2.2.1 ∧ p.2.2.1 ≤ (code.length : Int)) (fun p => p.2.1.toNat) (⟨[0, 0, 0], []⟩, n, ia, ha) ?_ ⟨⟨rfl, by (try dsimp only); (try simp only [List.length_nil]); omega, n0⟩, hia⟩ (fun p hp => ?_)
 ·refine les_of ?_ ?_ rfl
  iterate 2 (focus repeat' (first | exact trivial | refine And.intro ?_ ?_ | exact levA | refine lev_cons ?_ ?_ | refine LeV.agg rfl ?_ | exact Nat.le_of_ble_eq_true rfl | exact Or.inl ⟨_, rfl, .row rfl⟩ | refine Or.inl ⟨_, rfl, .row ?_⟩ | refine Or.inl ⟨_, rfl, .lit rfl ?_⟩ | exact Or.inr ⟨rfl, rfl⟩ | (first | exact .nilref (fun h => nomatch h) rfl rfl rfl | rfl)))
 have hb : bMachine p.1 := ⟨by show p.1.Objects.length * 8 ≤ _; omega, by show p.1.Sessions.length * 32 ≤ _; omega⟩
 conv=>arg 4;cbv
 refine Sat.cmp (fun hn => ?_) (fun hn => ?_) <;> simp only [Cmp.holds] at hn <;> (conv=>arg 4;cbv)
 ·repeat' first
   | (refine Sat.may (fun _ => ?_) ?_ <;> (conv=>arg 4;cbv))
   | (refine Sat.draw (w_spec_l3Op code hc) hp.2 (fun ret ic hd hic hR => ?_); obtain ⟨o, rfl⟩ := hR; have hal := aplO_len p.1 o; conv=>arg 4;cbv)
   | (refine Sat.call (w_spec_ApplyOp p.1 o hb) rfl (led_cons (.agg rfl (led_cons (.sl (tkdr _)) (led_cons (.sl (tkdr _)) led_nil))) (led_cons (.same _) led_nil)) ?_; generalize aplO p.1 o = A at *; conv=>arg 4;cbv)
   | (refine Sat.ari64 ndA ndA ?_; conv=>arg 4;cbv)
  all_goals refine Sat.nextR2 197 17 198 18 (A.1, p.2.1 - 1, ic, hd) rfl rfl rfl rfl rfl rfl rfl rfl ?_ ⟨⟨hal.1.trans hp.1.1, by (try dsimp only); omega, by (try dsimp only); omega⟩, hic⟩ (by (try dsimp only); omega)
  ·exact lesA
  ·exact lesA
 ·(refine Sat.pop ?_; conv=>arg 4;cbv)
  exact Sat.done (dr_end (ret := aGMachine p.1) ⟨_, rfl, hp.1.1, by omega⟩ (.agg rfl (led_cons (.sl (tkdr _)) (led_cons (.sl (tkdr _)) led_nil))) hp.2 rfl)
set_option maxHeartbeats 4000000 in
theorem w_spec_l4Any (code : List Int) (hc : code.length ≤ 1048576) (i h : Int) (hi : 0 ≤ i ∧ i ≤ (code.length : Int)) : FnP Pr n_spec_l4Any [.ptr 0 0] [curA code i h] (Dr code (fun r => ∃ m : GMachine, r = aGMachine m ∧ m.Objects.length ≤ 3 ∧ m.Sessions.length ≤ 6)) := by
 refine k_spec_l4Any.fnp (by kernel_rfl) ?_
 conv=>arg 4;cbv
 refine Sat.draw (w_spec_l4Machine code hc) hi (fun ret ia ha hia hR => ?_)
 obtain ⟨m, rfl, m1, m2⟩ := hR
 conv=>arg 4;cbv
 refine Sat.draw (w_spec_l1Below code hc 14) hia (fun ret ib hb hib hR => ?_)
 obtain ⟨q, rfl, q0, q1⟩ := hR
 conv=>arg 4;cbv
 repeat' first
  | (refine Sat.cmp (fun h => ?_) (fun h => ?_) <;> simp only [Cmp.holds] at h <;> (conv=>arg 4;cbv))
  | (refine Sat.draw (w_spec_l1Below code hc 3) (by assumption) (fun ret ij hj hij hR => ?_); obtain ⟨u, rfl, u0, u1⟩ := hR; conv=>arg 4;cbv)
  | (refine Sat.draw (w_spec_l1Below code hc 4) (by assumption) (fun ret ik hk hik hR => ?_); obtain ⟨w, rfl, w0, w1⟩ := hR; conv=>arg 4;cbv)
  | (refine Sat.draw (w_spec_l1PickInt code hc [-1, 9, 10] (by decide) (by decide)) (by assumption) (fun ret il hl hil hR => ?_); obtain ⟨v, rfl⟩ := hR; conv=>arg 4;cbv)
  | (refine Sat.draw (w_spec_l1PickInt code hc [0, 10] (by decide) (by decide)) (by assumption) (fun ret il hl hil hR => ?_); obtain ⟨v, rfl⟩ := hR; conv=>arg 4;cbv)
  | (refine Sat.typed (⟨w, u, ⟨false, v⟩⟩ : GSession) tcA ?_; conv=>arg 4;cbv)
  | (refine Sat.typed v tcA ?_; conv=>arg 4;cbv)
  | (refine Sat.may (fun _ => ?_) ?_ <;> (conv=>arg 4;cbv))
  | (refine Sat.need ndA ?_; conv=>arg 4;cbv)
  | (refine Sat.idxk (by assumption) ?_; conv=>arg 4;cbv) | (refine Sat.idx ndA (fun v_ hv_ => ?_); conv=>arg 4;cbv)
  | (refine Sat.ari64 ndA ndA ?_; conv=>arg 4;cbv)
  | (refine Sat.same ?_; conv=>arg 4;cbv)
  | refine Sat.done ?_
 all_goals have hml : m.Objects.length ≤ 3 := by omega
 all_goals have hms : m.Sessions.length ≤ 6 := by omega
 all_goals first
  | exact dr_end (ret := aGMachine m) ⟨_, rfl, hml, hms⟩ (.agg rfl (led_cons (.sl (tkdr _)) (led_cons (.sl (tkdr _)) led_nil))) (by assumption) rfl
  | exact dr_end (ret := aGMachine ⟨m.Objects.set u.toNat v, m.Sessions⟩) ⟨_, rfl, by simpa using hml, hms⟩ (.agg rfl (led_cons (.sl (by simp [setAt])) (led_cons (.sl (tkdr _)) led_nil))) (by assumption) rfl
  | exact dr_end (ret := aGMachine ⟨m.Objects, m.Sessions ++ [⟨w, u, ⟨false, v⟩⟩]⟩) ⟨_, rfl, hml, by simp; omega⟩ (.agg rfl (led_cons (.sl (tkdr _)) (led_cons (.sl (by simp)) led_nil))) (by assumption) rfl
  | exact dr_end (ret := aGMachine ⟨m.Objects.drop 1, m.Sessions⟩) ⟨_, rfl, by simp; omega, hms⟩ (.agg rfl (led_cons (.sl (by simp)) (led_cons (.sl (tkdr _)) led_nil))) (by assumption) rfl
  | trace_state
theorem w_slices_Equal_implSessionimplSession (x y : List GSession) (hb : bSessionS x) : Fn Pr n_slices_Equal_implSessionimplSession [.sl 4 eGSession (fun _ => x), .sl 4 eGSession (fun _ => y)] (.bo (decide (x = y))) := by
 refine k_slices_Equal_implSessionimplSession.fn (by kernel_rfl) ?_
 have h0 : x.length * 32 ≤ 140737488351232 := hb
 conv=>arg 4;cbv
 refine Sat.cmp (fun hl => ?_) (fun hl => ?_) <;> simp only [Cmp.holds] at hl <;> (conv=>arg 4;cbv)
 ·refine Sat.loopP (ι := Nat) (fun i => [(13, .int .i64 (fun _ => (i : Int)))]) (fun i => []) (fun i => i ≤ x.length ∧ x.take i = y.take i) (fun i => x.length - i) 0 ?_ ⟨by omega, by simp⟩ (fun i hi => ?_)
  ·exact lesA
  conv=>arg 4;cbv
  repeat' first
   | (refine Sat.cmp (fun h => ?_) (fun h => ?_) <;> simp only [Cmp.holds] at h <;> (conv=>arg 4;cbv))
   | (refine Sat.need ndA ?_; conv=>arg 4;cbv)
   | (refine Sat.idxk (by assumption) ?_; conv=>arg 4;cbv) | (refine Sat.idx ndA (fun v_ hv_ => ?_); conv=>arg 4;cbv)
   | (refine Sat.ari64 ndA ndA ?_; conv=>arg 4;cbv)
   | (refine Sat.pop ?_; conv=>arg 4;cbv)
   | refine Sat.next (i + 1) ?_ ?_ (by (try dsimp only); exact arA)
   | refine Sat.done (led_bo (Eq.symm (decide_eq_false (ne_of_get (by assumption) (by assumption) (fun e => by subst e; first | contradiction | (simp_all; done))))))
   | refine Sat.done ?_
  ·rename_i _ v1 hv1 _
   obtain ⟨c1, s1, ⟨d1, w1⟩⟩ := v1
   obtain ⟨c2, s2, ⟨d2, w2⟩⟩ := v_
   cases d1 <;> cases d2 <;> (conv=>arg 4;cbv)
   repeat' first
    | (refine Sat.cmp (fun h => ?_) (fun h => ?_) <;> simp only [Cmp.holds] at h <;> (conv=>arg 4;cbv))
    | (refine Sat.need ndA ?_; conv=>arg 4;cbv)
    | (refine Sat.idxk (by assumption) ?_; conv=>arg 4;cbv) | (refine Sat.idx ndA (fun v_ hv_ => ?_); conv=>arg 4;cbv)
    | (refine Sat.ari64 ndA ndA ?_; conv=>arg 4;cbv)
    | (refine Sat.pop ?_; conv=>arg 4;cbv)
    | refine Sat.next (i + 1) ?_ ?_ (by (try dsimp only); exact arA)
    | refine Sat.done (led_bo (Eq.symm (decide_eq_false (ne_of_get (by assumption) (by assumption) (fun e => by subst e; first | contradiction | (simp_all; done))))))
    | refine Sat.done ?_
   ·exact lesA
   ·exact ⟨by exact arA, take_ext hv1 hv_ hi.2 (by simp_all)⟩
   ·refine led_bo (Eq.symm (decide_eq_false (ne_of_get hv1 hv_ (fun e => ?_))))
    simp_all
   ·refine led_bo (Eq.symm (decide_eq_false (ne_of_get hv1 hv_ (fun e => ?_))))
    simp_all
   ·refine led_bo (Eq.symm (decide_eq_false (ne_of_get hv1 hv_ (fun e => ?_))))
    simp_all
   ·exact lesA
   ·exact ⟨by exact arA, take_ext hv1 hv_ hi.2 (by simp_all)⟩
   ·refine led_bo (Eq.symm (decide_eq_false (ne_of_get hv1 hv_ (fun e => ?_))))
    simp_all
  ·refine led_bo ?_
   have e1 : i = x.length := by exact arA
   have e2 : x.length = y.length := by exact arA
   have := hi.2
   rw [e1, List.take_length, e2, List.take_length] at this
   simp [this]
 ·refine Sat.done (led_bo ?_)
  have : x ≠ y := fun e => hl (by rw [e])
  simp [this]
theorem w_impl_EqualMachines (x y : GMachine) (hb : bMachine x) (hb' : bMachine y) : Fn Pr n_impl_EqualMachines [aGMachine x, aGMachine y] (.bo (decide (x = y))) := by
 refine k_impl_EqualMachines.fn (by kernel_rfl) ?_
 conv=>arg 4;cbv
 refine Sat.callb (w_slices_Equal_intint x.Objects y.Objects hb.1) rfl ledA (fun h => ?_) (fun h => ?_) <;> (try simp only [decide_eq_true_eq, decide_eq_false_iff_not] at h) <;> (conv=>arg 4;cbv)
 ·refine Sat.callb (w_slices_Equal_implSessionimplSession x.Sessions y.Sessions hb.2) rfl ledA (fun h' => ?_) (fun h' => ?_) <;> (try simp only [decide_eq_true_eq, decide_eq_false_iff_not] at h') <;> (conv=>arg 4;cbv)
  ·refine Sat.done (led_bo (Eq.symm (decide_eq_true ?_)))
   cases x; cases y
   subst h h'
   rfl
  ·exact Sat.done (led_bo (Eq.symm (decide_eq_false (fun e => h' (by rw [e])))))
 ·exact Sat.done (led_bo (Eq.symm (decide_eq_false (fun e => h (by rw [e])))))
theorem setCells_row (g : Nat) (t : TypeId) : ∀ (vs : List Value) (o : Nat) (cur : Array Value) (w : World), w.heap[g]? = some (.cells cur t (0, 0)) → o + vs.length ≤ cur.size → w.setCells g o vs = w.setRow g (cur.toList.take o ++ vs ++ cur.toList.drop (o + vs.length)).toArray
 | [], o, cur, w, hg, _ => by
   simp only [World.setCells, List.append_nil, List.length_nil, Nat.add_zero, List.take_append_drop, Array.toArray_toList]
   rw [setRow_self w g cur t (0, 0) hg]
 | v :: r, o, cur, w, hg, hl => by
   have hl' : o + (r.length + 1) ≤ cur.size := hl
   rw [World.setCells, setCell_eq_setRow w g o cur t (0, 0) v hg, setCells_row g t r (o + 1) _ _ (setRow_heap w g cur _ t _ hg) (by simp; omega), setRow_setRow]
   congr 2
   have e := list_seg_step cur.toList o v r (by simp; omega)
   simpa [Array.toList_setIfInBounds, Nat.add_assoc] using e
theorem setCells_two {w : World} {g o o' : Nat} {vs ws : List Value} {cur : Array Value} {t : TypeId} (hg : w.heap[g]? = some (.cells cur t (0, 0))) (ho : o' = o + vs.length) (hl : o + vs.length + ws.length ≤ cur.size) : (w.setCells g o' ws).setCells g o vs = w.setCells g o (vs ++ ws) := by
 subst ho
 have hsz : (cur.toList.take (o + vs.length) ++ ws ++ cur.toList.drop (o + vs.length + ws.length)).toArray.size = cur.size := by
  rw [List.size_toArray, List.length_append, List.length_append, List.length_take, List.length_drop]
  have : cur.toList.length = cur.size := rfl
  omega
 have hl2 : o + (vs ++ ws).length ≤ cur.size := by rw [List.length_append]; omega
 rw [setCells_row g t ws _ cur w hg hl, setCells_row g t vs o _ _ (setRow_heap w g cur _ t _ hg) (Nat.le_trans (show o + vs.length ≤ cur.size by omega) (Nat.le_of_eq hsz.symm)), setRow_setRow, setCells_row g t (vs ++ ws) o cur w hg hl2]
 congr 2
 have hlen : (cur.toList.take (o + vs.length)).length = o + vs.length := by rw [List.length_take]; have : cur.toList.length = cur.size := rfl; omega
 have e1 : List.take o (cur.toList.take (o + vs.length) ++ ws ++ cur.toList.drop (o + vs.length + ws.length)) = cur.toList.take o := by
  rw [List.append_assoc, List.take_append_of_le_length (by omega), List.take_take, Nat.min_eq_left (by omega)]
 have e2 : List.drop (o + vs.length) (cur.toList.take (o + vs.length) ++ ws ++ cur.toList.drop (o + vs.length + ws.length)) = ws ++ cur.toList.drop (o + vs.length + ws.length) := by
  rw [List.append_assoc, List.drop_left' hlen]
 rw [List.toList_toArray, e1, e2, List.length_append, ← Nat.add_assoc]
 simp only [List.append_assoc]
theorem run_copy_z {P : Program} (w : World) (dT sT ty elem : TypeId) (b o dLen dCap : Nat) (a : Addr) (sLen sCap z : Nat) (cs : List Value)
 (hu : P.underlying dT = some (.slice elem)) (hs : (P.info? elem).map (·.size) = some z) (hn : cs.length = Nat.min sLen dLen * z)
 (hsrc : ∀ j v, cs[j]? = some v → w.cell? (a.add j) = some v) (hc : ∀ j, j < cs.length → (w.cell? ⟨b, o + j, none⟩).isSome = true) (hf : ∀ j, j < cs.length → w.frozen? ⟨b, o + j, none⟩ = false) (h1 : ∀ v ∈ cs, v.oneCell' = true) :
 (Builtin.copy_ #[dT, sT] ty #[.slice (some ⟨b, o, none⟩) dLen dCap, .slice (some a) sLen sCap]).run P w = .ok (goInt (Nat.min sLen dLen)) (w.setCells b o cs) := by
 have hl := run_loadCells_list (P := P) w a cs hsrc
 have hst := run_storeCells_cells (P := P) b o cs 0 w (by simpa using hc) (by simpa using hf) h1
 cases hq : P.info? elem with
 | none => simp [hq] at hs
 | some i =>
   have hi : i.size = z := by simpa [hq] using hs
   simp [Builtin.copy_, run_underlying hu, Builtin.lenOf, Builtin.firstCells, sizeOf, typeInfo, hq, hi, ← hn, hl, hst]
theorem alloc_setCells {w : World} {R : Array Value} {t : TypeId} {o : Nat} {vs : List Value} (hl : o + vs.length ≤ R.size) : (w.alloc (.cells R t)).setCells w.heap.size o vs = w.alloc (.cells (R.toList.take o ++ vs ++ R.toList.drop (o + vs.length)).toArray t) := by
 have hg : (w.alloc (.cells R t)).heap[w.heap.size]? = some (.cells R t (0, 0)) := by show (w.heap.push _)[w.heap.size]? = _; simp
 rw [setCells_row _ t vs o R _ hg hl]
 unfold World.setRow World.alloc
 congr 1
 apply Array.ext
 ·simp
 ·intro k h1 h2
  simp only [Array.getElem_modify, Array.getElem_push]
  split
  ·rename_i hk
   subst hk
   simp
  ·rename_i hk
   by_cases h : k < w.heap.size
   ·simp [h]
   ·exfalso
    simp at h1
    omega
--import Derived.Shelf.Spec.SlicesInsert
--import Derived.Lib.AppendZerosOnto
--import Derived.Laws.NewBlocks
section
open Go.Proofs
theorem insT : Pr.underlying 28 = some (.slice 89) := by kernel_rfl
theorem insI : ∃ (i : TypeInfo) (z : Value), Pr.info? 89 = some i ∧ i.zero = some z ∧ i.size = 4 ∧ i.bytes = 32 ∧ z.cells.size = 4 := by
 have h : (Pr.info? 89).map (fun i => (i.zero.map (·.cells.size), i.size, i.bytes)) = some (some 4, 4, 32) := by kernel_rfl
 obtain ⟨i, h1, h2⟩ := Option.map_eq_some_iff.1 h
 obtain ⟨h3, h4⟩ := Prod.mk.inj h2
 obtain ⟨h4, h5⟩ := Prod.mk.inj h4
 obtain ⟨z, h6, h7⟩ := Option.map_eq_some_iff.1 h3
 exact ⟨i, z, h1, h6, h4, h5, h7⟩
theorem insZ : ∀ w, (Go.sizeOf 89).run Pr w = .ok 4 w := fun w => by
 obtain ⟨i, z, h1, h2, h3, h4, h5⟩ := insI
 simp [Go.sizeOf, Go.typeInfo, h1, h3]
set_option maxHeartbeats 4000000 in
theorem ins_end (w : World) (A : Option Addr) (n cap vb vo vc : Nat) (olds news : List Value) (hnc : n ≤ cap) (hn6 : n ≤ 1000000) (hol : olds.length = n * 4) (hnl : news.length = 4) (h1n : ∀ v ∈ news, v.oneCell' = true)
 (hcell : ∀ j u, olds[j]? = some u → ∃ ad, A = some ad ∧ w.cell? (ad.add j) = some u) (hA : 0 < cap → ∃ g o cells ty, A = some ⟨g, o, none⟩ ∧ g ≠ vb ∧ w.heap[g]? = some (.cells cells ty (0, 0)) ∧ o + cap * 4 ≤ cells.size)
 (hv : ∃ cells ty, w.heap[vb]? = some (.cells cells ty (0, 0)) ∧ ∀ j u, news[j]? = some u → cells[vo + j]? = some u) :
 Calls Pr 74 #[.slice A n cap, .int .i64 n, .slice (some ⟨vb, vo, none⟩) 1 vc] w fun e w' => ∃ u, e = .returned u ∧ Grown w 89 4 A n cap 1 olds news u w' := by
 obtain ⟨vcells, vty, hvg, hvs⟩ := hv
 obtain ⟨i0, z0, hi0, hz0, hs0, hb0, hzs0⟩ := insI
 have u25 := run_underlying insT
 have hsrc : Src Pr 4 28 (.slice (some ⟨vb, vo, none⟩) 1 vc) 1 news w := Src.ofSlice w insT ⟨vb, vo, none⟩ 1 vc news (by omega) (fun j u hj => by rw [addr_add, cell_of hvg]; exact hvs j u hj) h1n
 obtain ⟨u, w', hrun, hg⟩ := app_run (P := Pr) (ty := 28) (tx := 28) insT hi0 hz0 hs0 hb0 hzs0 (by omega) (by omega) hnc hsrc hol hcell (fun hc => by
  obtain ⟨g, o, cells, ty, h1, h2, h3, h4⟩ := hA hc
  refine ⟨g, o, h1, fun j hj => ?_, fun j => ?_⟩
  ·rw [cell_of h3, Array.getElem?_eq_getElem (by omega)]; rfl
  ·simp [World.frozen?, h3]) (by omega)
 have mixed := hm
 go_enter Go.Proofs.Tryz.func74, (show Go.Proofs.Tryz.f74.ntmps = 95 by kernel_rfl)
 cases A with
 | none =>
   have h0 : n = 0 := by
    rcases Nat.eq_zero_or_pos n with h | h
    ·exact h
    ·obtain ⟨ad, had, _⟩ := hcell 0 _ (List.getElem?_eq_getElem (show 0 < olds.length by omega))
     cases had
   subst h0
   go_wp2_with (at_builtin; refine Lib.wpList_append_run _ rfl _ _ _ _ rfl _ _ rfl rfl _ _ hrun ?_)
   all_goals (go_ret; first | exact ⟨u, rfl, hg⟩ | (have e : cap = n := (by omega); subst e; exact ⟨u, rfl, hg⟩))
 | some a =>
   obtain ⟨ab, ao, asp⟩ := a
   go_wp2_with (at_builtin; refine Lib.wpList_append_run _ rfl _ _ _ _ rfl _ _ rfl rfl _ _ hrun ?_)
   all_goals (go_ret; first | exact ⟨u, rfl, hg⟩ | (have e : cap = n := (by omega); subst e; exact ⟨u, rfl, hg⟩))
set_option maxHeartbeats 4000000 in
theorem ins_shift (w : World) (g o n cap i vb vo vc : Nat) (olds news : List Value) (hnc : n + 1 ≤ cap) (hin : i < n) (hn6 : n ≤ 1000000) (hol : olds.length = n * 4) (hnl : news.length = 4) (h1o : ∀ v ∈ olds, v.oneCell' = true) (h1n : ∀ v ∈ news, v.oneCell' = true)
 (hgv : g ≠ vb) (cells : Array Value) (ty : TypeId) (hg : w.heap[g]? = some (.cells cells ty (0, 0))) (hsz : o + cap * 4 ≤ cells.size) (hcell : ∀ j u, olds[j]? = some u → cells[o + j]? = some u)
 (hv : ∃ cells ty, w.heap[vb]? = some (.cells cells ty (0, 0)) ∧ ∀ j u, news[j]? = some u → cells[vo + j]? = some u) :
 Calls Pr 74 #[.slice (some ⟨g, o, none⟩) n cap, .int .i64 i, .slice (some ⟨vb, vo, none⟩) 1 vc] w fun e w' => e = .returned (.slice (some ⟨g, o, none⟩) (n + 1) cap) ∧ w' = w.drew.setCells g (o + i * 4) (news ++ olds.drop (i * 4)) := by
 obtain ⟨vcells, vty, hvg, hvs⟩ := hv
 obtain ⟨i0, z0, hi0, hz0, hs0, hb0, hzs0⟩ := insI
 have u25 := run_underlying insT
 have hsz1 : (Pr.info? 89).map (·.size) = some 4 := by rw [hi0]; simp [hs0]
 have hz2 : ¬ ((i : Int) = (n : Int)) := by omega
 have hov : ∀ lb cb, (callFunc 94 #[.slice (some ⟨vb, vo, none⟩) 1 vc, .slice (some ⟨g, o + (i + 1) * 4, none⟩) lb cb]).run Pr w = .ok (.value (.bool false)) w := fun lb cb => by
  rw [run_callFunc_extern Go.Proofs.Tryz.func94 (by kernel_rfl) (by kernel_rfl) (by kernel_rfl) (e := Extern.SlicesOverlaps.overlaps #[28, 28] #[4]) (by kernel_rfl),
   Lib.run_overlaps_apart w 28 4 89 insT 4 insZ ⟨vb, vo, none⟩ ⟨g, o + (i + 1) * 4, none⟩ 1 vc lb cb (fun e => hgv e.symm) vty ty vcells.size cells.size (by simp [World.shape?, hvg]) (by simp [World.shape?, hg]) (by omega) (by simp [World.frozen?, hvg]) (by simp [World.frozen?, hvg])]
  rfl
 have hdl : (olds.drop (i * 4)).length = (n - i) * 4 := by rw [List.length_drop, hol, Nat.sub_mul]
 have mixed := hm
 have hw1 : IntKind.i64.wrap ((i : Int) + (1 : Int)) = (i : Int) + (1 : Int) := by rw [IntKind.wrap_i64]; omega
 have hb1 : (0 : Int) ≤ (i : Int) + (1 : Int) := by omega
 have hin' : i ≤ n := by omega
 have htn : ((i : Int) + (1 : Int)).toNat = i + 1 := by omega
 have hb2 : ¬ (cap = i + 1) := by omega
 have hb3 : (i : Int) ≤ (n : Int) + (1 : Int) := by omega
 have hb4 : ¬ (cap = i) := by omega
 have hoW : ∀ j u, olds[j]? = some u → w.cell? ⟨g, o + j, none⟩ = some u := fun j u hj => by rw [cell_of hg]; exact hcell j u hj
 have hspW : ∀ k, k < (n + 1) * 4 → (w.cell? ⟨g, o + k, none⟩).isSome = true := fun k hk => by rw [cell_of hg, Array.getElem?_eq_getElem (by omega)]; rfl
 have hfzW : ∀ k, w.frozen? ⟨g, k, none⟩ = false := fun k => by simp [World.frozen?, hg]
 have hcp1 : ∀ t dc sc, (Builtin.copy_ #[28, 28] t #[.slice (some ⟨g, o + (i + 1) * 4, none⟩) (n - i) dc, .slice (some ⟨g, o + i * 4, none⟩) (n + 1 - i) sc]).run Pr w.drew = .ok (goInt (Nat.min (n + 1 - i) (n - i))) (w.drew.setCells g (o + (i + 1) * 4) (olds.drop (i * 4))) := fun t dc sc =>
  run_copy_z w.drew _ _ t 89 g (o + (i + 1) * 4) (n - i) dc ⟨g, o + i * 4, none⟩ (n + 1 - i) sc 4 (olds.drop (i * 4)) insT hsz1 (by rw [hdl]; congr 1; simp only [Nat.min_def]; split <;> omega)
   (fun j v hj => by rw [Addr.add_lit, Nat.add_assoc]; exact hoW (i * 4 + j) v (by rwa [List.getElem?_drop] at hj))
   (fun j hj => by rw [hdl] at hj; rw [Nat.add_assoc]; exact hspW _ (by omega)) (fun j hj => hfzW _) (fun v hv => h1o v (List.mem_of_mem_drop hv))
 obtain ⟨W1, hW1⟩ : ∃ W1, W1 = w.drew.setCells g (o + (i + 1) * 4) (olds.drop (i * 4)) := ⟨_, rfl⟩
 have hsp1 : ∀ k, k < (n + 1) * 4 → (W1.cell? ⟨g, o + k, none⟩).isSome = true := fun k hk => by
  rw [hW1]
  exact isSome_setCells g _ _ _ (fun j hj => by rw [hdl] at hj; rw [Nat.add_assoc]; exact hspW _ (by omega)) _ (hspW k hk)
 have hcp2 : ∀ (W : World), (∀ x, W.cell? x = W1.cell? x) → (∀ x, W.frozen? x = W1.frozen? x) → ∀ t dc, (Builtin.copy_ #[28, 28] t #[.slice (some ⟨g, o + i * 4, none⟩) (n + 1 - i) dc, .slice (some ⟨vb, vo, none⟩) 1 vc]).run Pr W = .ok (goInt (Nat.min 1 (n + 1 - i))) (W.setCells g (o + i * 4) news) := fun W hWc hWf t dc =>
  run_copy_z W _ _ t 89 g (o + i * 4) (n + 1 - i) dc ⟨vb, vo, none⟩ 1 vc 4 news insT hsz1 (by rw [hnl]; simp only [Nat.min_def]; split <;> omega)
   (fun j v hj => by
     rw [Addr.add_lit, hWc, hW1, World.cell?_setCells_out g _ _ _ _ (fun h _ => absurd h.symm hgv)]
     show w.cell? ⟨vb, vo + j, none⟩ = some v
     rw [cell_of hvg]
     exact hvs j v hj)
   (fun j hj => by rw [hWc, Nat.add_assoc]; exact hsp1 _ (by omega)) (fun j hj => by rw [hWf, hW1, World.frozen?_setCells]; exact hfzW _) h1n
 rw [← hW1] at hcp1
 have hfin : W1.setCells g (o + i * 4) news = w.drew.setCells g (o + i * 4) (news ++ olds.drop (i * 4)) := by
  rw [hW1]
  exact setCells_two (w := w.drew) (t := ty) (cur := cells) hg (by rw [hnl]; omega) (by rw [hnl, hdl]; omega)
 rw [← hfin]
 go_enter Go.Proofs.Tryz.func74, (show Go.Proofs.Tryz.f74.ntmps = 95 by kernel_rfl)
 go_wp2_with (simp only [hov])
 go_region_law_o (refine step_copy_runI rfl _ _ 28 28 rfl _ _ (by simp [Act.eval, Act.put]) (by simp [Act.eval, Act.put]) (hcp1 _ _ _) ?_)
 go_wp2_with (at_builtin; refine wpList_copy_runI _ rfl _ _ 28 28 rfl _ _ rfl rfl (hcp2 _ (fun _ => rfl) (fun _ => rfl) _ _) ?_)
 all_goals (go_ret; first | exact ⟨rfl, rfl⟩ | exact ⟨rfl, by rw [hW1]⟩)
theorem ins_rows {w : World} {t : TypeId} {R : Array Value} {p : Nat} {A V D : List Value} {Z : List Value} (hR : R.toList = A ++ Z) (hA : A.length = p) (hl : p + V.length + D.length ≤ R.size) :
 ∃ R' : Array Value, ((w.alloc (.cells R t)).setCells w.heap.size p V).setCells w.heap.size (p + V.length) D = w.alloc (.cells R' t) ∧ R'.size = R.size ∧ ∀ q, q < p + V.length + D.length → R'[q]? = (A ++ (V ++ D))[q]? := by
 have hRs : R.toList.length = R.size := rfl
 have e0 : R.toList.take p = A := by rw [hR, List.take_left' hA]
 rw [alloc_setCells (by omega), e0]
 have hs1 : (A ++ V ++ R.toList.drop (p + V.length)).toArray.size = R.size := by
  rw [List.size_toArray, List.length_append, List.length_append, List.length_drop, hA]
  omega
 rw [alloc_setCells (by rw [hs1]; exact hl)]
 have e1 : (A ++ V ++ R.toList.drop (p + V.length)).toArray.toList.take (p + V.length) = A ++ V := by
  show List.take _ (A ++ V ++ _) = _
  rw [List.take_left' (by rw [List.length_append, hA])]
 refine ⟨_, rfl, ?_, fun q hq => ?_⟩
 ·rw [List.size_toArray, e1, List.length_append, List.length_append, List.length_append, List.length_drop, hA]
  show _ + (List.length (A ++ V ++ R.toList.drop (p + V.length)) - _) = _
  rw [List.length_append, List.length_append, List.length_drop, hA]
  omega
 ·rw [e1, List.getElem?_toArray, List.getElem?_append_left (by rw [List.length_append, List.length_append, hA]; omega), List.append_assoc]
set_option maxHeartbeats 4000000 in
theorem ins_grow (w : World) (g o n i vb vo vc : Nat) (olds news : List Value) (hin : i < n) (hn6 : n ≤ 1000000) (hol : olds.length = n * 4) (hnl : news.length = 4) (h1o : ∀ v ∈ olds, v.oneCell' = true) (h1n : ∀ v ∈ news, v.oneCell' = true)
 (hgv : g ≠ vb) (cells : Array Value) (ty : TypeId) (hg : w.heap[g]? = some (.cells cells ty (0, 0))) (hsz : o + n * 4 ≤ cells.size) (hcell : ∀ j u, olds[j]? = some u → cells[o + j]? = some u)
 (hv : ∃ cells ty, w.heap[vb]? = some (.cells cells ty (0, 0)) ∧ ∀ j u, news[j]? = some u → cells[vo + j]? = some u) :
 Calls Pr 74 #[.slice (some ⟨g, o, none⟩) n n, .int .i64 i, .slice (some ⟨vb, vo, none⟩) 1 vc] w fun e w' => ∃ G R, e = .returned (.slice (some ⟨w.heap.size, 0, none⟩) (n + 1) G) ∧ n + 1 ≤ G ∧ w' = w.drew.drew.alloc (.cells R 89) ∧ R.size = G * 4 ∧ ∀ q, q < (n + 1) * 4 → R[q]? = (olds.take (i * 4) ++ (news ++ olds.drop (i * 4)))[q]? := by
 obtain ⟨vcells, vty, hvg, hvs⟩ := hv
 obtain ⟨i0, z0, hi0, hz0, hs0, hb0, hzs0⟩ := insI
 have u25 := run_underlying insT
 have t3 : Pr.underlying 3 = some (.int .i64) := by kernel_rfl
 have hsz1 : (Pr.info? 89).map (·.size) = some 4 := by rw [hi0]; simp [hs0]
 have hz2 : ¬ ((i : Int) = (n : Int)) := by omega
 have hdl : (olds.drop (i * 4)).length = (n - i) * 4 := by rw [List.length_drop, hol, Nat.sub_mul]
 have htl : (olds.take (i * 4)).length = i * 4 := by rw [List.length_take, hol]; omega
 have hkk : (n : Int) + 1 - (i : Int) = ((n + 1 - i : Nat) : Int) := by omega
 have hik : i + (n + 1 - i) = n + 1 := by omega
 have hoW : ∀ j u, olds[j]? = some u → w.cell? ⟨g, o + j, none⟩ = some u := fun j u hj => by rw [cell_of hg]; exact hcell j u hj
 have hbw : g < w.heap.size := heap_lt hg
 have hvw : vb < w.heap.size := heap_lt hvg
 have hold : (Builtin.firstCells i0.size i (.slice (some ⟨g, o, none⟩) i n)).run Pr w.drew = .ok (olds.take (i * 4)).toArray w.drew := by
  rw [hs0]
  exact run_firstCells_some w.drew 4 i ⟨g, o, none⟩ i n (olds.take (i * 4)) htl (fun j v hj => by
   rw [Addr.add_lit]
   rw [List.getElem?_take] at hj
   split at hj
   ·exact hoW j v hj
   ·cases hj)
 have hrz : ∀ t, (Builtin.append_ #[28, 3] t #[.slice (some ⟨g, o, none⟩) i n, .int .i64 ((n : Int) + 1 - (i : Int))]).run Pr w =
  .ok (.slice (some ⟨w.heap.size, 0, none⟩) (n + 1) (grownCap w (n + 1) n 89)) (w.drew.alloc (.cells ((olds.take (i * 4)).toArray ++ Builtin.zeroCells z0.cells (n + 1 - i) ++ Builtin.zeroCells z0.cells (grownCap w (n + 1) n 89 - (n + 1))) 89)) := fun t => by
  have h := Lib.run_append_grow_zeros w 28 3 t 89 i0 z0 .i64 .i64 insT t3 hi0 hz0 (some ⟨g, o, none⟩) i n (olds.take (i * 4)) hold (n + 1 - i) (by omega) (by omega) (by omega) (by omega) (by rw [hb0]; omega) (by rw [hb0, hik]; exact growslice_fits (by omega) (by omega))
  rw [hik] at h
  rw [hkk]
  exact h
 obtain ⟨G, hG⟩ : ∃ G, G = grownCap w (n + 1) n 89 := ⟨_, rfl⟩
 have hGn : n + 1 ≤ G := by rw [hG]; exact grownCap_ge w _ _ _
 have hG63 : G ≤ 9223372036854775807 := by
  have := grownCap_le_maxLen w (n + 1) n 89 (by unfold maxLen; omega)
  rw [← hG] at this
  unfold maxLen at this
  omega
 obtain ⟨ROW, hROW⟩ : ∃ ROW : Array Value, ROW = (olds.take (i * 4)).toArray ++ Builtin.zeroCells z0.cells (n + 1 - i) ++ Builtin.zeroCells z0.cells (G - (n + 1)) := ⟨_, rfl⟩
 have hRs : ROW.size = G * 4 := by
  rw [hROW, Array.size_append, Array.size_append, List.size_toArray, htl]
  simp only [Builtin.zeroCells, Array.size_map, Array.size_range, hzs0]
  omega
 have hRl : ∃ Z, ROW.toList = olds.take (i * 4) ++ Z := ⟨(Builtin.zeroCells z0.cells (n + 1 - i)).toList ++ (Builtin.zeroCells z0.cells (G - (n + 1))).toList, by rw [hROW, Array.toList_append, Array.toList_append, List.append_assoc]⟩
 obtain ⟨Z, hRl⟩ := hRl
 rw [← hG] at hrz
 rw [← hROW] at hrz
 clear hROW hG
 obtain ⟨R', hR1, hR2, hR3⟩ := ins_rows (w := w.drew.drew) (t := 89) (p := i * 4) (V := news) (D := olds.drop (i * 4)) hRl htl (by rw [hnl, hdl, hRs]; omega)
 obtain ⟨W1, hW1⟩ : ∃ W1, W1 = w.drew.alloc (.cells ROW 89) := ⟨_, rfl⟩
 rw [← hW1] at hrz
 have hN : ∀ j, j < (n + 1) * 4 → (W1.cell? ⟨w.heap.size, j, none⟩).isSome = true := fun j hj => by
  rw [hW1, World.cell?_alloc_at (w := w.drew) ROW _ w.heap.size j rfl, Array.getElem?_eq_getElem (by omega)]; rfl
 have hNf : ∀ j, W1.frozen? ⟨w.heap.size, j, none⟩ = false := fun j => by rw [hW1]; exact World.frozen?_alloc_at (w := w.drew) ROW _ w.heap.size j rfl
 have hOb : ∀ j v, w.cell? ⟨g, j, none⟩ = some v → W1.cell? ⟨g, j, none⟩ = some v := fun j v h => by rw [hW1, World.cell?_alloc_past (w := w.drew) _ g j hbw]; exact h
 have hOv : ∀ j v, w.cell? ⟨vb, j, none⟩ = some v → W1.cell? ⟨vb, j, none⟩ = some v := fun j v h => by rw [hW1, World.cell?_alloc_past (w := w.drew) _ vb j hvw]; exact h
 have hvW : ∀ j v, news[j]? = some v → w.cell? ⟨vb, vo + j, none⟩ = some v := fun j v hj => by rw [cell_of hvg]; exact hvs j v hj
 have hcpA : ∀ (W : World), (∀ x, W.cell? x = W1.cell? x) → (∀ x, W.frozen? x = W1.frozen? x) → ∀ t dc, (Builtin.copy_ #[28, 28] t #[.slice (some ⟨w.heap.size, i * 4, none⟩) (n + 1 - i) dc, .slice (some ⟨vb, vo, none⟩) 1 vc]).run Pr W = .ok (goInt (Nat.min 1 (n + 1 - i))) (W.setCells w.heap.size (i * 4) news) := fun W hWc hWf t dc =>
  run_copy_z W _ _ t 89 w.heap.size (i * 4) (n + 1 - i) dc ⟨vb, vo, none⟩ 1 vc 4 news insT hsz1 (by rw [hnl]; simp only [Nat.min_def]; split <;> omega)
   (fun j v hj => by rw [Addr.add_lit, hWc]; exact hOv _ v (hvW j v hj))
   (fun j hj => by rw [hWc]; exact hN _ (by omega)) (fun j hj => by rw [hWf]; exact hNf _) h1n
 have hGi : ¬ (G = i) := by omega
 have hGim : ¬ (G = i + 1) := by omega
 have hci : ¬ (n = i) := by omega
 have hbN : g ≠ w.heap.size := by omega
 have hcpB : ∀ (W : World), (∀ x, W.cell? x = (W1.setCells w.heap.size (i * 4) news).cell? x) → (∀ x, W.frozen? x = (W1.setCells w.heap.size (i * 4) news).frozen? x) → ∀ t dc sc, (Builtin.copy_ #[28, 28] t #[.slice (some ⟨w.heap.size, (i + 1) * 4, none⟩) (n - i) dc, .slice (some ⟨g, o + i * 4, none⟩) (n - i) sc]).run Pr W = .ok (goInt (Nat.min (n - i) (n - i))) (W.setCells w.heap.size ((i + 1) * 4) (olds.drop (i * 4))) := fun W hWc hWf t dc sc =>
  run_copy_z W _ _ t 89 w.heap.size ((i + 1) * 4) (n - i) dc ⟨g, o + i * 4, none⟩ (n - i) sc 4 (olds.drop (i * 4)) insT hsz1 (by rw [hdl]; congr 1; simp only [Nat.min_def]; split <;> omega)
   (fun j v hj => by
     rw [Addr.add_lit, hWc, World.cell?_setCells_out _ _ _ _ _ (fun h _ => absurd h hbN), Nat.add_assoc]
     exact hOb _ v (hoW (i * 4 + j) v (by rwa [List.getElem?_drop] at hj)))
   (fun j hj => by rw [hdl] at hj; rw [hWc]; exact isSome_setCells _ _ _ _ (fun t ht => hN _ (by omega)) _ (hN _ (by omega)))
   (fun j hj => by rw [hWf, World.frozen?_setCells]; exact hNf _) (fun v hv => h1o v (List.mem_of_mem_drop hv))
 subst hW1
 have mixed := hm
 have hE1 : ∀ x, ((w.alloc (.cells ROW 89)).drew).cell? x = (w.drew.alloc (.cells ROW 89)).cell? x := fun x => rfl
 have hE2 : ∀ x, ((w.alloc (.cells ROW 89)).drew).frozen? x = (w.drew.alloc (.cells ROW 89)).frozen? x := fun x => rfl
 have hF1 : ∀ x, (((w.alloc (.cells ROW 89)).drew.setCells w.heap.size (i * 4) news).drew).cell? x = ((w.drew.alloc (.cells ROW 89)).setCells w.heap.size (i * 4) news).cell? x := fun x => rfl
 have hF2 : ∀ x, (((w.alloc (.cells ROW 89)).drew.setCells w.heap.size (i * 4) news).drew).frozen? x = ((w.drew.alloc (.cells ROW 89)).setCells w.heap.size (i * 4) news).frozen? x := fun x => rfl
 have hw1 : IntKind.i64.wrap ((i : Int) + (1 : Int)) = (i : Int) + (1 : Int) := by rw [IntKind.wrap_i64]; omega
 have hb1 : (0 : Int) ≤ (i : Int) + (1 : Int) := by omega
 have hin' : i ≤ n := by omega
 have htn : ((i : Int) + (1 : Int)).toNat = i + 1 := by omega
 have hb3 : (i : Int) ≤ (n : Int) := by omega
 clear hkk hik hold
 go_enter Go.Proofs.Tryz.func74, (show Go.Proofs.Tryz.f74.ntmps = 95 by kernel_rfl)
 go_wp2_with (first
  | (at_builtin; refine Lib.wpList_append_run _ rfl _ _ _ _ rfl _ _ rfl rfl _ _ (hrz _) ?_)
  | (at_builtin; refine wpList_copy_runI _ rfl _ _ 28 28 rfl _ _ rfl rfl (hcpA _ hE1 hE2 _ _) ?_)
  | (at_builtin; refine wpList_copy_runI _ rfl _ _ 28 28 rfl _ _ rfl rfl (hcpB _ (fun _ => rfl) (fun _ => rfl) _ _ _) ?_))
 go_region_law_o (refine step_copy_runI rfl _ _ 28 28 rfl (.slice (some ⟨w.heap.size, (i + 1) * 4, none⟩) (n - i) (G - (i + 1))) (.slice (some ⟨g, o + i * 4, none⟩) (n - i) (n - i)) (by simp [Act.eval, Act.put]) (by simp [Act.eval, Act.put]) (hcpB _ hF1 hF2 3 (G - (i + 1)) (n - i)) ?_)
 go_wp2
 go_ret
 rw [hnl, show i * 4 + 4 = (i + 1) * 4 by omega] at hR1
 refine ⟨G, R', rfl, hGn, ?_, hR2.trans hRs, fun q hq => hR3 q (by rw [hnl, hdl]; omega)⟩
 rw [← hR1]
 first | rfl | (simp only [drew_setCells]; rfl)
theorem w_ins : InsSpec Pr n_slices_Insert_implSessionimplSession 4 := by
 refine ⟨⟨_, Go.Proofs.Tryz.func74, fun h => by
  have e : (Go.Proofs.Tryz.f74.name == "runtime.NumGoroutine") = false := by kernel_rfl
  rw [h] at e
  simp at e, by kernel_rfl⟩, ?_⟩
 intro w A n cap i vb vo vc olds news hnc hin hn6 hvc hol hnl h1o h1n hcell hA hv
 have hdr : Below w.heap.size w w.drew := ⟨rfl, rfl, rfl, Nat.le_refl _, fun _ _ => rfl⟩
 have hrf : Below w.heap.size w w := ⟨rfl, rfl, rfl, Nat.le_refl _, fun _ _ => rfl⟩
 by_cases he : i = n
 ·subst he
  refine (ins_end w A i cap vb vo vc olds news hnc hn6 hol hnl h1n hcell hA hv).mono (fun e w' ⟨u, h1, h2⟩ => ⟨u, w, 89, h1, hrf, rfl, ?_⟩)
  rw [Nat.sub_self, List.take_of_length_le (by omega), List.drop_of_length_le (by omega), List.append_nil]
  exact h2
 ·have hi : i < n := by omega
  obtain ⟨g, o, cells, ty, rfl, hgv, hg, hsz⟩ := hA (by omega)
  have hc' : ∀ j u, olds[j]? = some u → cells[o + j]? = some u := fun j u hj => by
   obtain ⟨ad, h1, h2⟩ := hcell j u hj
   cases h1
   rw [addr_add, cell_of hg] at h2
   exact h2
  have e1 : i + (1 + (n - i)) = n + 1 := by omega
  by_cases hr : n + 1 ≤ cap
  ·refine (ins_shift w g o n cap i vb vo vc olds news hr hi hn6 hol hnl h1o h1n hgv cells ty hg hsz hc' hv).mono (fun e w' ⟨h1, h2⟩ => ⟨_, w.drew, 89, h1, hdr, rfl, ?_⟩)
   have h3 := Grown.room (w := w.drew) (e := 89) (size := 4) (A := some ⟨g, o, none⟩) (n := i) (cap := cap) (m := 1 + (n - i)) (olds := olds.take (i * 4)) (news := news ++ olds.drop (i * 4)) (by omega) (by omega) rfl
   rw [e1, ← h2] at h3
   exact h3
  ·have hcn : cap = n := by omega
   subst hcn
   refine (ins_grow w g o cap i vb vo vc olds news hi hn6 hol hnl h1o h1n hgv cells ty hg hsz hc' hv).mono (fun e w' ⟨G, R, h1, h2, h3, h4, h5⟩ => ⟨_, w.drew, 89, h1, hdr, rfl, ?_⟩)
   have h6 := Grown.grow (w := w.drew) (e := 89) (size := 4) (A := some ⟨g, o, none⟩) (n := i) (cap := cap) (m := 1 + (cap - i)) (olds := olds.take (i * 4)) (news := news ++ olds.drop (i * 4)) (c := G) (cs := R) (by omega) (by omega) (by omega) h4 (fun q hq => h5 q (by rw [e1] at hq; exact hq))
   rw [e1, ← h3] at h6
   exact h6
end
def ckB (c : Int) (b : UInt8) : Int := (257 * c + (b.toNat : Int) + 1) % 9949
def ckS (s : ByteArray) : Int := s.data.toList.foldl ckB 5
theorem ckB_rng {c : Int} {b : UInt8} : 0 ≤ ckB c b ∧ ckB c b < 9949 := by
 unfold ckB
 omega
theorem ck_snoc {l : List UInt8} {i : Nat} {b : UInt8} (h : l[i]? = some b) : (l.take (i + 1)).foldl ckB 5 = ckB ((l.take i).foldl ckB 5) b := by
 rw [List.take_add_one, h, List.foldl_append]
 rfl
theorem ck_rng (l : List UInt8) : 0 ≤ l.foldl ckB 5 ∧ l.foldl ckB 5 < 9949 := by
 rcases List.eq_nil_or_concat l with rfl | ⟨r, b, rfl⟩
 ·exact ⟨by decide, by decide⟩
 ·rw [List.concat_eq_append, List.foldl_append]
  exact ckB_rng
theorem ckS_rng (s : ByteArray) : 0 ≤ ckS s ∧ ckS s < 9949 := ck_rng _
def dgE (d : Int) (e : GEntry) : Int := (31 * d + ckS (logT [e])) % 9973
def dgL (l : List GEntry) : Int := l.foldl dgE 11
def digs (l : List GEntry) : List Int := (List.range (l.length + 1)).map (fun i => dgL (l.take i))
theorem dgL_rng (l : List GEntry) : 0 ≤ dgL l ∧ dgL l < 9973 := by
 rcases List.eq_nil_or_concat l with rfl | ⟨r, b, rfl⟩
 ·exact ⟨by decide, by decide⟩
 ·rw [List.concat_eq_append, dgL, List.foldl_append]
  show 0 ≤ dgE _ b ∧ dgE _ b < 9973
  unfold dgE
  omega
theorem dgL_snoc {l : List GEntry} {i : Nat} {e : GEntry} (h : l[i]? = some e) : dgL (l.take (i + 1)) = dgE (dgL (l.take i)) e := by
 rw [dgL, List.take_add_one, h, List.foldl_append]
 rfl
theorem digs_len (l : List GEntry) : (digs l).length = l.length + 1 := by rw [digs, List.length_map, List.length_range]
theorem digs_at {l : List GEntry} {i : Nat} (h : i ≤ l.length) : (digs l)[i]? = some (dgL (l.take i)) := by
 rw [digs, List.getElem?_map, List.getElem?_range (by omega)]
 rfl
theorem digs_snoc {l : List GEntry} {i : Nat} {e : GEntry} (h : l[i]? = some e) : digs (l.take (i + 1)) = digs (l.take i) ++ [dgE (dgL (l.take i)) e] := by
 have hi : i < l.length := (List.getElem?_eq_some_iff.1 h).1
 have h1 : (l.take (i + 1)).length = i + 1 := by rw [List.length_take]; omega
 have h2 : (l.take i).length = i := by rw [List.length_take]; omega
 rw [digs, digs, h1, h2, List.range_succ, List.map_append, ← dgL_snoc h]
 congr 1
 ·refine List.map_congr_left (fun j hj => ?_)
  have := List.mem_range.1 hj
  rw [List.take_take, List.take_take, Nat.min_eq_left (by omega), Nat.min_eq_left (by omega)]
 ·rw [List.map_singleton, List.take_take, Nat.min_self]
def repO (m : GMachine) (l : List GEntry) : GMachine := l.foldl (fun m e => (aplO m e.Op).1) m
theorem repO_snoc {m : GMachine} {l : List GEntry} {i : Nat} {e : GEntry} (h : l[i]? = some e) : repO m (l.take (i + 1)) = (aplO (repO m (l.take i)) e.Op).1 := by
 rw [repO, List.take_add_one, h, List.foldl_append]
 rfl
theorem repO_len (m : GMachine) (l : List GEntry) : (repO m l).Objects.length = m.Objects.length ∧ (repO m l).Sessions.length ≤ m.Sessions.length + l.length := by
 induction l generalizing m with
 | nil => exact ⟨rfl, Nat.le_refl _⟩
 | cons e r ih =>
   have h1 := aplO_len m e.Op
   have h2 := ih (aplO m e.Op).1
   rw [List.length_cons]
   exact ⟨h2.1.trans h1.1, by have := h2.2; have := h1.2; show (repO (aplO m e.Op).1 r).Sessions.length ≤ _; omega⟩
def zeroMa : GMachine := ⟨[0, 0, 0], []⟩
theorem flatS_GSession (y : GSession) (j : Nat) (hj : j < 4) : flatS (eGSession y j) = true := by
 rcases j with _ | _ | _ | _ | j <;> first | rfl | omega
theorem w_slices_Clone_implSessionimplSession (l : List GSession) (hb : bSessionS l) : Fn Pr n_slices_Clone_implSessionimplSession [.sl 4 eGSession (fun _ => l)] (.sl 4 eGSession (fun _ => l)) := by
 refine k_slices_Clone_implSessionimplSession.fn (by kernel_rfl) ?_
 have h0 : l.length * 32 ≤ 140737488351232 := hb
 conv=>arg 4;cbv
 repeat' first
  | (refine Sat.cmp (fun h => ?_) (fun h => ?_) <;> simp only [Cmp.holds] at h <;> (conv=>arg 4;cbv))
  | (refine Sat.need ⟨fun y _ => flat_GSession y, by exact arA⟩ ?_; conv=>arg 4;cbv)
  | (refine Sat.may (fun h => ?_) ?_ <;> (conv=>arg 4;cbv))
  | (refine Sat.need ndA ?_; conv=>arg 4;cbv)
  | (refine Sat.idxk (by assumption) ?_; conv=>arg 4;cbv) | (refine Sat.idx ndA (fun v_ hv_ => ?_); conv=>arg 4;cbv)
  | (refine Sat.ari64 ndA ndA ?_; conv=>arg 4;cbv)
  | (refine Sat.pop ?_; conv=>arg 4;cbv)
  | refine Sat.done ?_
 all_goals first | exact .nil (by assumption) | exact .sl (by simp)
theorem w_impl_machineCopy (m : GMachine) (hb : bMachine m) : Fn Pr n_impl_machineCopy [aGMachine m] (aGMachine m) := by
 refine k_impl_machineCopy.fn (by kernel_rfl) ?_
 conv=>arg 4;cbv
 repeat' first
  | (refine Sat.cmp (fun h => ?_) (fun h => ?_) <;> simp only [Cmp.holds] at h <;> (conv=>arg 4;cbv))
  | (refine Sat.call (w_slices_Clone_intint m.Objects hb.1) rfl ledA ?_; conv=>arg 4;cbv)
  | (refine Sat.call (w_slices_Clone_implSessionimplSession m.Sessions hb.2) rfl ledA ?_; conv=>arg 4;cbv)
  | (refine Sat.need ndA ?_; conv=>arg 4;cbv)
  | (refine Sat.idxk (by assumption) ?_; conv=>arg 4;cbv) | (refine Sat.idx ndA (fun v_ hv_ => ?_); conv=>arg 4;cbv)
  | (refine Sat.ari64 ndA ndA ?_; conv=>arg 4;cbv)
  | (refine Sat.pop ?_; conv=>arg 4;cbv)
  | refine Sat.done ?_
 all_goals refine .agg rfl ?_
 all_goals (repeat' first | exact led_nil | refine led_cons ?_ ?_ | exact .sl (by simp))
theorem w_impl_NewMachine : Fn Pr n_impl_NewMachine [] (aGMachine ⟨[0, 0, 0], []⟩) := by
 refine k_impl_NewMachine.fn (by kernel_rfl) ?_
 conv=>arg 4;cbv
 refine Sat.need (by decide) ?_
 conv=>arg 4;cbv
 refine Sat.typ (encI .i64) (0 : Int) tcA ?_
 conv=>arg 4;cbv
 refine Sat.done (.agg rfl ?_)
 (repeat' first | exact led_nil | refine led_cons ?_ ?_ | exact .same _ | exact .nil rfl | exact .emp rfl | exact .sl (by simp))
theorem w_impl_SessionOf (m : GMachine) (c : Int) (hb : bMachine m) : Fn Pr n_impl_SessionOf [aGMachine m, .int .i64 (fun _ => c)] (.tup [aGSession (sesF m.Sessions c).1, .bo (sesF m.Sessions c).2]) := by
 have h1 : m.Sessions.length * 32 ≤ 140737488351232 := hb.2
 have h0 : sesF m.Sessions c = sesF (m.Sessions.drop 0) c := rfl
 generalize hr : sesF m.Sessions c = r at h0 ⊢
 obtain ⟨s, b⟩ := r
 refine k_impl_SessionOf.fn (by kernel_rfl) ?_
 conv=>arg 4;cbv
 refine Sat.loopP (ι := Nat) (fun i => [(11, .int .i64 (fun _ => (i : Int)))]) (fun i => []) (fun i => i ≤ m.Sessions.length ∧ sesF m.Sessions c = sesF (m.Sessions.drop i) c) (fun i => m.Sessions.length - i) 0 ?_ ⟨Nat.zero_le _, rfl⟩ (fun i hi => ?_)
 ·exact lesA
 conv=>arg 4;cbv
 refine Sat.cmp (fun h5 => ?_) (fun h5 => ?_) <;> simp only [Cmp.holds] at h5
 ·have hi2 : i < m.Sessions.length := by exact arA
  conv=>arg 4;cbv
  refine Sat.need (by (try dsimp only); exact arA) ?_
  conv=>arg 4;cbv
  refine Sat.idx (by (try dsimp only); exact arA) (fun x hx => ?_)
  have hx : m.Sessions[i]? = some x := by simpa using hx
  conv=>arg 4;cbv
  refine Sat.cmp (fun h6 => ?_) (fun h6 => ?_) <;> simp only [Cmp.holds] at h6
  ·have he := hr.symm.trans (sesF_hit hi.2 hx h6)
   obtain ⟨rfl, rfl⟩ := Prod.mk.inj he
   conv=>arg 4;cbv
   repeat' first
    | (refine Sat.need ndA ?_; conv=>arg 4;cbv)
    | (refine Sat.idxk (by assumption) ?_; conv=>arg 4;cbv) | (refine Sat.idx ndA (fun v_ hv_ => ?_); conv=>arg 4;cbv)
    | (refine Sat.pop ?_; conv=>arg 4;cbv)
    | refine Sat.done ?_
   all_goals exact ledA
  ·conv=>arg 4;cbv
   refine Sat.ari64 (by (try dsimp only); exact arA) (by (try dsimp only); exact arA) ?_
   conv=>arg 4;cbv
   refine Sat.next (i + 1) ?_ ⟨by exact arA, sesF_step hi.2 hx h6⟩ (by (try dsimp only); exact arA)
   exact lesA
 ·have he := hr.symm.trans (hi.2.trans (by rw [show i = m.Sessions.length by (have := hi.1; exact arA), List.drop_length, sesF]))
  obtain ⟨rfl, rfl⟩ := Prod.mk.inj he
  conv=>arg 4;cbv
  refine Sat.pop ?_
  conv=>arg 4;cbv
  refine Sat.done ?_
  exact ledA
theorem apI {l : List GSession} {i : Nat} {z x : GSession} (hi : i ≤ l.length) : List.take (l.length + 1) (List.drop 0 (setAt (List.take (i : Int).toNat (l.take l.length) ++ z :: List.drop (i : Int).toNat (l.take l.length)) (0 + (i : Int).toNat) x)) = l.take i ++ x :: l.drop i := by
 have e : (i : Int).toNat = i := by omega
 rw [e, Nat.zero_add, List.drop_zero, List.take_length, setAt, List.take_of_length_le (by rw [List.length_set, List.length_append, List.length_cons, List.length_take, List.length_drop]; omega)]
 rw [List.set_append_right _ _ (by rw [List.length_take]; omega), List.length_take, Nat.min_eq_left hi, Nat.sub_self]
 rfl
theorem apH {l : List GSession} {i : Nat} {x : GSession} (hi : i < l.length) : List.take l.length (List.drop 0 (setAt l (0 + (i : Int).toNat) x)) = l.take i ++ x :: l.drop (i + 1) := by
 have e : (i : Int).toNat = i := by omega
 rw [e, Nat.zero_add, List.drop_zero, setAt, List.take_of_length_le (by rw [List.length_set]; exact Nat.le_refl _), List.set_eq_take_append_cons_drop, if_pos hi]
set_option maxHeartbeats 4000000 in
theorem w_impl_ApplyOp (m : GMachine) (o : GOp) (hb : bMachine m) : Fn Pr n_impl_ApplyOp [aGMachine m, aGOp o] (.tup [aGMachine (aplO m o).1, aGResult (aplO m o).2.1, .bo (aplO m o).2.2]) := by
 have h0 : m.Objects.length * 8 ≤ 140737488351232 := hb.1
 have h1 : m.Sessions.length * 32 ≤ 140737488351232 := hb.2
 have WS := w_impl_SessionOf m o.Client hb
 generalize hs : sesF m.Sessions o.Client = sb at WS
 obtain ⟨s, had⟩ := sb
 have hsA : (sesF m.Sessions o.Client).1 = s := congrArg Prod.fst hs
 have hsB : (sesF m.Sessions o.Client).2 = had := congrArg Prod.snd hs
 refine k_impl_ApplyOp.fn (by kernel_rfl) ?_
 conv=>arg 4;cbv
 refine Sat.call (w_impl_machineCopy m hb) rfl ledA ?_
 conv=>arg 4;cbv
 obtain ⟨sc, sq, sd, sv⟩ := s
 cases had
 ·refine Sat.call WS rfl ledA ?_
  conv=>arg 4;cbv
  refine Sat.callb (w_impl_IsValidMachine m hb) rfl ledA (fun hA => ?_) (fun hA => ?_)
  rotate_left
  ·have he : aplO m o = (m, ⟨false, 0⟩, false) := by rw [aplO, if_neg (fun e => by rw [hA] at e; exact Bool.false_ne_true e.1)]
   conv=>arg 4;cbv
   repeat' first
    | (refine Sat.may (fun h => ?_) ?_ <;> (conv=>arg 4;cbv))
    | refine Sat.done ?_
   all_goals rw [he]
   all_goals exact .tup rfl (led_cons (led_mch _ _) (led_cons (.same _) (led_cons (.same _) led_nil)))
  conv=>arg 4;cbv
  refine Sat.callb (w_impl_IsValidOp o) rfl ledA (fun hB => ?_) (fun hB => ?_)
  rotate_left
  ·have he : aplO m o = (m, ⟨false, 0⟩, false) := by rw [aplO, if_neg (fun e => by rw [hB] at e; exact Bool.false_ne_true e.2)]
   conv=>arg 4;cbv
   repeat' first
    | (refine Sat.may (fun h => ?_) ?_ <;> (conv=>arg 4;cbv))
    | refine Sat.done ?_
   all_goals rw [he]
   all_goals exact .tup rfl (led_cons (led_mch _ _) (led_cons (.same _) (led_cons (.same _) led_nil)))
  have hv := validM_spec hA
  have ho := okOp_spec hB
  obtain ⟨v, hv2⟩ : ∃ v, m.Objects[o.Object.toNat]? = some v := ⟨_, List.getElem?_eq_getElem (by omega)⟩
  have hgd : m.Objects.getD o.Object.toNat 0 = v := by rw [List.getD_eq_getElem?_getD, hv2]; rfl
  conv=>arg 4;cbv
  have he : aplO m o = (newO m o, resO m o, true) := by rw [aplO, if_pos ⟨hA, hB⟩, hs, if_neg (fun q => Bool.false_ne_true q.1), if_neg (fun q => Bool.false_ne_true q.1)]
  refine Sat.need (by (try dsimp only); exact arA) ?_
  conv=>arg 4;cbv
  refine Sat.idx (by (try dsimp only); exact arA) (fun v2 hv3 => ?_)
  obtain rfl : v = v2 := Option.some.inj (Eq.trans (Eq.symm hv2) (by simpa using hv3))
  conv=>arg 4;cbv
  refine Sat.cmp (fun h7 => ?_) (fun h7 => ?_) <;> simp only [Cmp.holds] at h7
  ·have hres : resO m o = ⟨true, v⟩ := by rw [resO, hgd, h7]; rfl
   conv=>arg 4;cbv
   repeat' first | (refine Sat.need ndA ?_; conv=>arg 4;cbv) | (refine Sat.idxk (by assumption) ?_; conv=>arg 4;cbv) | (refine Sat.idx ndA (fun v_ hv_ => ?_); conv=>arg 4;cbv) | (refine Sat.typed o.Value tcA ?_; conv=>arg 4;cbv)
   refine Sat.loopP (ι := Nat) (fun i => [(12, .int .i64 (fun _ => (i : Int)))]) (fun i => []) (fun i => i ≤ m.Sessions.length ∧ ∀ x ∈ m.Sessions.take i, x.Client < o.Client) (fun i => m.Sessions.length - i) 0 ?_ ⟨Nat.zero_le _, by simp⟩ (fun i hi => ?_)
   ·exact lesA
   conv=>arg 4;cbv
   repeat' first
    | (refine Sat.cmp (fun h => ?_) (fun h => ?_) <;> simp only [Cmp.holds] at h <;> (conv=>arg 4;cbv))
    | (refine Sat.may (fun h => ?_) ?_ <;> (conv=>arg 4;cbv))
    | (refine Sat.need ndA ?_; conv=>arg 4;cbv)
    | (refine Sat.idxk (by assumption) ?_; conv=>arg 4;cbv) | (refine Sat.idx ndA (fun v_ hv_ => ?_); conv=>arg 4;cbv)
    | (refine Sat.ari64 ndA ndA ?_; conv=>arg 4;cbv)
    | (refine Sat.pop ?_; conv=>arg 4;cbv)
    | refine Sat.next (i + 1) ?_ ?_ (by (try dsimp only); exact arA)
   all_goals try rw [hres] at he
   all_goals try first
    | (exact lesA; done)
    | exact ⟨by exact arA, take_lt (i := i) hi.2 (by assumption) (by assumption)⟩
    | exact ⟨by exact arA, take_lt (i := i) hi.2 (get_nat (by assumption)) (by assumption)⟩
   all_goals repeat' first
    | (refine Sat.need ⟨rfl, rfl, rfl, by exact arA, by exact arA, by exact arA, fun y _ => flatS_GSession y⟩ ?_; conv=>arg 4;cbv)
    | (refine Sat.typed zeroSes tcA ?_; conv=>arg 4;cbv)
    | (refine Sat.ins w_ins ?_; conv=>arg 4;cbv)
    | (refine Sat.need (by (try dsimp only); exact arA) ?_; conv=>arg 4;cbv)
    | (refine Sat.idx (by (try dsimp only); (try simp only [List.length_append, List.length_take, List.length_drop, List.length_cons, List.length_nil]); exact arA) (fun y hy => ?_); conv=>arg 4;cbv)
    | (refine Sat.typed (⟨o.Client, o.Seq, ⟨true, v⟩⟩ : GSession) tcA ?_; conv=>arg 4;cbv)
    | (refine Sat.may (fun h => ?_) ?_ <;> (conv=>arg 4;cbv))
    | (refine Sat.need ndA ?_; conv=>arg 4;cbv)
    | (refine Sat.ari64 ndA ndA ?_; conv=>arg 4;cbv)
    | refine Sat.done ?_
   all_goals have hk : kOf m.Sessions o.Client = i := kOf_eq hi.2 (by first | exact .inr ⟨_, get_nat (by assumption), by assumption⟩ | exact .inl (by exact arA))
   all_goals have hS : (newO m o).Sessions = m.Sessions.take i ++ ⟨o.Client, o.Seq, ⟨true, v⟩⟩ :: m.Sessions.drop i := by rw [newO, addS, hk, hsB, hres]; rfl
   all_goals have hO : (newO m o).Objects = m.Objects.set o.Object.toNat o.Value := by rw [newO, hres]; rfl
   all_goals rw [he]
   all_goals refine .tup rfl (led_cons (.agg rfl (led_cons (.sl ?_) (led_cons (.sl ?_) led_nil))) (led_cons (.same _) (led_cons (.same _) led_nil)))
   all_goals first
    | (rw [hO]; simp [setAt]; done)
    | exact (apI hi.1).trans hS.symm
  conv=>arg 4;cbv
  refine Sat.cmp (fun h8 => ?_) (fun h8 => ?_) <;> simp only [Cmp.holds] at h8
  ·have hres : resO m o = ⟨true, v⟩ := by rw [resO, hgd, h8]; simp
   conv=>arg 4;cbv
   repeat' first | (refine Sat.need ndA ?_; conv=>arg 4;cbv) | (refine Sat.idxk (by assumption) ?_; conv=>arg 4;cbv) | (refine Sat.idx ndA (fun v_ hv_ => ?_); conv=>arg 4;cbv) | (refine Sat.typed o.Value tcA ?_; conv=>arg 4;cbv)
   refine Sat.loopP (ι := Nat) (fun i => [(12, .int .i64 (fun _ => (i : Int)))]) (fun i => []) (fun i => i ≤ m.Sessions.length ∧ ∀ x ∈ m.Sessions.take i, x.Client < o.Client) (fun i => m.Sessions.length - i) 0 ?_ ⟨Nat.zero_le _, by simp⟩ (fun i hi => ?_)
   ·exact lesA
   conv=>arg 4;cbv
   repeat' first
    | (refine Sat.cmp (fun h => ?_) (fun h => ?_) <;> simp only [Cmp.holds] at h <;> (conv=>arg 4;cbv))
    | (refine Sat.may (fun h => ?_) ?_ <;> (conv=>arg 4;cbv))
    | (refine Sat.need ndA ?_; conv=>arg 4;cbv)
    | (refine Sat.idxk (by assumption) ?_; conv=>arg 4;cbv) | (refine Sat.idx ndA (fun v_ hv_ => ?_); conv=>arg 4;cbv)
    | (refine Sat.ari64 ndA ndA ?_; conv=>arg 4;cbv)
    | (refine Sat.pop ?_; conv=>arg 4;cbv)
    | refine Sat.next (i + 1) ?_ ?_ (by (try dsimp only); exact arA)
   all_goals try rw [hres] at he
   all_goals try first
    | (exact lesA; done)
    | exact ⟨by exact arA, take_lt (i := i) hi.2 (by assumption) (by assumption)⟩
    | exact ⟨by exact arA, take_lt (i := i) hi.2 (get_nat (by assumption)) (by assumption)⟩
   all_goals repeat' first
    | (refine Sat.need ⟨rfl, rfl, rfl, by exact arA, by exact arA, by exact arA, fun y _ => flatS_GSession y⟩ ?_; conv=>arg 4;cbv)
    | (refine Sat.typed zeroSes tcA ?_; conv=>arg 4;cbv)
    | (refine Sat.ins w_ins ?_; conv=>arg 4;cbv)
    | (refine Sat.need (by (try dsimp only); exact arA) ?_; conv=>arg 4;cbv)
    | (refine Sat.idx (by (try dsimp only); (try simp only [List.length_append, List.length_take, List.length_drop, List.length_cons, List.length_nil]); exact arA) (fun y hy => ?_); conv=>arg 4;cbv)
    | (refine Sat.typed (⟨o.Client, o.Seq, ⟨true, v⟩⟩ : GSession) tcA ?_; conv=>arg 4;cbv)
    | (refine Sat.may (fun h => ?_) ?_ <;> (conv=>arg 4;cbv))
    | (refine Sat.need ndA ?_; conv=>arg 4;cbv)
    | (refine Sat.ari64 ndA ndA ?_; conv=>arg 4;cbv)
    | refine Sat.done ?_
   all_goals have hk : kOf m.Sessions o.Client = i := kOf_eq hi.2 (by first | exact .inr ⟨_, get_nat (by assumption), by assumption⟩ | exact .inl (by exact arA))
   all_goals have hS : (newO m o).Sessions = m.Sessions.take i ++ ⟨o.Client, o.Seq, ⟨true, v⟩⟩ :: m.Sessions.drop i := by rw [newO, addS, hk, hsB, hres]; rfl
   all_goals have hO : (newO m o).Objects = m.Objects.set o.Object.toNat o.Value := by rw [newO, hres]; rfl
   all_goals rw [he]
   all_goals refine .tup rfl (led_cons (.agg rfl (led_cons (.sl ?_) (led_cons (.sl ?_) led_nil))) (led_cons (.same _) (led_cons (.same _) led_nil)))
   all_goals first
    | (rw [hO]; simp [setAt]; done)
    | exact (apI hi.1).trans hS.symm
  ·have hres : resO m o = ⟨false, v⟩ := by rw [resO, hgd, decide_eq_false h7, decide_eq_false h8]; rfl
   conv=>arg 4;cbv
   refine Sat.loopP (ι := Nat) (fun i => [(12, .int .i64 (fun _ => (i : Int)))]) (fun i => []) (fun i => i ≤ m.Sessions.length ∧ ∀ x ∈ m.Sessions.take i, x.Client < o.Client) (fun i => m.Sessions.length - i) 0 ?_ ⟨Nat.zero_le _, by simp⟩ (fun i hi => ?_)
   ·exact lesA
   conv=>arg 4;cbv
   repeat' first
    | (refine Sat.cmp (fun h => ?_) (fun h => ?_) <;> simp only [Cmp.holds] at h <;> (conv=>arg 4;cbv))
    | (refine Sat.may (fun h => ?_) ?_ <;> (conv=>arg 4;cbv))
    | (refine Sat.need ndA ?_; conv=>arg 4;cbv)
    | (refine Sat.idxk (by assumption) ?_; conv=>arg 4;cbv) | (refine Sat.idx ndA (fun v_ hv_ => ?_); conv=>arg 4;cbv)
    | (refine Sat.ari64 ndA ndA ?_; conv=>arg 4;cbv)
    | (refine Sat.pop ?_; conv=>arg 4;cbv)
    | refine Sat.next (i + 1) ?_ ?_ (by (try dsimp only); exact arA)
   all_goals try rw [hres] at he
   all_goals try first
    | (exact lesA; done)
    | exact ⟨by exact arA, take_lt (i := i) hi.2 (by assumption) (by assumption)⟩
    | exact ⟨by exact arA, take_lt (i := i) hi.2 (get_nat (by assumption)) (by assumption)⟩
   all_goals repeat' first
    | (refine Sat.need ⟨rfl, rfl, rfl, by exact arA, by exact arA, by exact arA, fun y _ => flatS_GSession y⟩ ?_; conv=>arg 4;cbv)
    | (refine Sat.typed zeroSes tcA ?_; conv=>arg 4;cbv)
    | (refine Sat.ins w_ins ?_; conv=>arg 4;cbv)
    | (refine Sat.need (by (try dsimp only); exact arA) ?_; conv=>arg 4;cbv)
    | (refine Sat.idx (by (try dsimp only); (try simp only [List.length_append, List.length_take, List.length_drop, List.length_cons, List.length_nil]); exact arA) (fun y hy => ?_); conv=>arg 4;cbv)
    | (refine Sat.typed (⟨o.Client, o.Seq, ⟨false, v⟩⟩ : GSession) tcA ?_; conv=>arg 4;cbv)
    | (refine Sat.may (fun h => ?_) ?_ <;> (conv=>arg 4;cbv))
    | (refine Sat.need ndA ?_; conv=>arg 4;cbv)
    | (refine Sat.ari64 ndA ndA ?_; conv=>arg 4;cbv)
    | refine Sat.done ?_
   all_goals have hk : kOf m.Sessions o.Client = i := kOf_eq hi.2 (by first | exact .inr ⟨_, get_nat (by assumption), by assumption⟩ | exact .inl (by exact arA))
   all_goals have hS : (newO m o).Sessions = m.Sessions.take i ++ ⟨o.Client, o.Seq, ⟨false, v⟩⟩ :: m.Sessions.drop i := by rw [newO, addS, hk, hsB, hres]; rfl
   all_goals have hO : (newO m o).Objects = m.Objects := by rw [newO, hres]; rfl
   all_goals rw [he]
   all_goals refine .tup rfl (led_cons (.agg rfl (led_cons (.sl ?_) (led_cons (.sl ?_) led_nil))) (led_cons (.same _) (led_cons (.same _) led_nil)))
   all_goals first
    | (rw [hO]; simp [setAt]; done)
    | exact (apI hi.1).trans hS.symm
 ·obtain ⟨xs, hxs, hxc, hxe⟩ := sesF_in hsB
  refine Sat.call WS rfl ledA ?_
  conv=>arg 4;cbv
  refine Sat.callb (w_impl_IsValidMachine m hb) rfl ledA (fun hA => ?_) (fun hA => ?_)
  rotate_left
  ·have he : aplO m o = (m, ⟨false, 0⟩, false) := by rw [aplO, if_neg (fun e => by rw [hA] at e; exact Bool.false_ne_true e.1)]
   conv=>arg 4;cbv
   repeat' first
    | (refine Sat.may (fun h => ?_) ?_ <;> (conv=>arg 4;cbv))
    | refine Sat.done ?_
   all_goals rw [he]
   all_goals exact .tup rfl (led_cons (led_mch _ _) (led_cons (.same _) (led_cons (.same _) led_nil)))
  conv=>arg 4;cbv
  refine Sat.callb (w_impl_IsValidOp o) rfl ledA (fun hB => ?_) (fun hB => ?_)
  rotate_left
  ·have he : aplO m o = (m, ⟨false, 0⟩, false) := by rw [aplO, if_neg (fun e => by rw [hB] at e; exact Bool.false_ne_true e.2)]
   conv=>arg 4;cbv
   repeat' first
    | (refine Sat.may (fun h => ?_) ?_ <;> (conv=>arg 4;cbv))
    | refine Sat.done ?_
   all_goals rw [he]
   all_goals exact .tup rfl (led_cons (led_mch _ _) (led_cons (.same _) (led_cons (.same _) led_nil)))
  have hv := validM_spec hA
  have ho := okOp_spec hB
  obtain ⟨v, hv2⟩ : ∃ v, m.Objects[o.Object.toNat]? = some v := ⟨_, List.getElem?_eq_getElem (by omega)⟩
  have hgd : m.Objects.getD o.Object.toNat 0 = v := by rw [List.getD_eq_getElem?_getD, hv2]; rfl
  conv=>arg 4;cbv
  refine Sat.cmp (fun h5 => ?_) (fun h5 => ?_) <;> simp only [Cmp.holds] at h5
  ·have he : aplO m o = (m, ⟨false, 0⟩, false) := by rw [aplO, if_pos ⟨hA, hB⟩, hs, if_neg (fun q => by have := q.2; (try dsimp only at this h5); omega), if_pos ⟨rfl, h5⟩]
   conv=>arg 4;cbv
   repeat' first
    | (refine Sat.may (fun h => ?_) ?_ <;> (conv=>arg 4;cbv))
    | refine Sat.done ?_
   all_goals rw [he]
   all_goals exact .tup rfl (led_cons (led_mch _ _) (led_cons (.same _) (led_cons (.same _) led_nil)))
  conv=>arg 4;cbv
  refine Sat.cmp (fun h6 => ?_) (fun h6 => ?_) <;> simp only [Cmp.holds] at h6
  ·have he : aplO m o = (m, ⟨sd, sv⟩, true) := by rw [aplO, if_pos ⟨hA, hB⟩, hs, if_pos ⟨rfl, h6⟩]
   conv=>arg 4;cbv
   repeat' first
    | (refine Sat.may (fun h => ?_) ?_ <;> (conv=>arg 4;cbv))
    | refine Sat.done ?_
   all_goals rw [he]
   all_goals exact .tup rfl (led_cons (led_mch _ _) (led_cons (.same _) (led_cons (.same _) led_nil)))
  have he : aplO m o = (newO m o, resO m o, true) := by rw [aplO, if_pos ⟨hA, hB⟩, hs, if_neg (fun q => h6 q.2), if_neg (fun q => h5 q.2)]
  conv=>arg 4;cbv
  refine Sat.need (by (try dsimp only); exact arA) ?_
  conv=>arg 4;cbv
  refine Sat.idx (by (try dsimp only); exact arA) (fun v2 hv3 => ?_)
  obtain rfl : v = v2 := Option.some.inj (Eq.trans (Eq.symm hv2) (by simpa using hv3))
  conv=>arg 4;cbv
  refine Sat.cmp (fun h7 => ?_) (fun h7 => ?_) <;> simp only [Cmp.holds] at h7
  ·have hres : resO m o = ⟨true, v⟩ := by rw [resO, hgd, h7]; rfl
   conv=>arg 4;cbv
   repeat' first | (refine Sat.need ndA ?_; conv=>arg 4;cbv) | (refine Sat.idxk (by assumption) ?_; conv=>arg 4;cbv) | (refine Sat.idx ndA (fun v_ hv_ => ?_); conv=>arg 4;cbv) | (refine Sat.typed o.Value tcA ?_; conv=>arg 4;cbv)
   refine Sat.loopP (ι := Nat) (fun i => [(12, .int .i64 (fun _ => (i : Int)))]) (fun i => []) (fun i => i ≤ m.Sessions.length ∧ ∀ x ∈ m.Sessions.take i, x.Client < o.Client) (fun i => m.Sessions.length - i) 0 ?_ ⟨Nat.zero_le _, by simp⟩ (fun i hi => ?_)
   ·exact lesA
   conv=>arg 4;cbv
   repeat' first
    | (refine Sat.cmp (fun h => ?_) (fun h => ?_) <;> simp only [Cmp.holds] at h <;> (conv=>arg 4;cbv))
    | (refine Sat.may (fun h => ?_) ?_ <;> (conv=>arg 4;cbv))
    | (refine Sat.need ndA ?_; conv=>arg 4;cbv)
    | (refine Sat.idxk (by assumption) ?_; conv=>arg 4;cbv) | (refine Sat.idx ndA (fun v_ hv_ => ?_); conv=>arg 4;cbv)
    | (refine Sat.ari64 ndA ndA ?_; conv=>arg 4;cbv)
    | (refine Sat.pop ?_; conv=>arg 4;cbv)
    | refine Sat.next (i + 1) ?_ ?_ (by (try dsimp only); exact arA)
   all_goals try rw [hres] at he
   all_goals try first
    | (exact lesA; done)
    | exact ⟨by exact arA, take_lt (i := i) hi.2 (by assumption) (by assumption)⟩
    | exact ⟨by exact arA, take_lt (i := i) hi.2 (get_nat (by assumption)) (by assumption)⟩
   all_goals have hil : i < m.Sessions.length := had_lt hi.2 hxs hxc
   all_goals repeat' first
    | (refine Sat.need (by (try dsimp only); exact arA) ?_; conv=>arg 4;cbv)
    | (refine Sat.idx (by (try dsimp only); (try simp only [List.length_append, List.length_take, List.length_drop, List.length_cons, List.length_nil]); exact arA) (fun y hy => ?_); conv=>arg 4;cbv)
    | (refine Sat.typed (⟨o.Client, o.Seq, ⟨true, v⟩⟩ : GSession) tcA ?_; conv=>arg 4;cbv)
    | (refine Sat.may (fun h => ?_) ?_ <;> (conv=>arg 4;cbv))
    | (refine Sat.need ndA ?_; conv=>arg 4;cbv)
    | (refine Sat.ari64 ndA ndA ?_; conv=>arg 4;cbv)
    | refine Sat.done ?_
   all_goals have hk : kOf m.Sessions o.Client = i := kOf_eq hi.2 (by first | exact .inr ⟨_, get_nat (by assumption), by assumption⟩ | exact .inl (by exact arA))
   all_goals have hS : (newO m o).Sessions = m.Sessions.take i ++ ⟨o.Client, o.Seq, ⟨true, v⟩⟩ :: m.Sessions.drop (i + 1) := by rw [newO, addS, hk, hsB, hres]; rfl
   all_goals have hO : (newO m o).Objects = m.Objects.set o.Object.toNat o.Value := by rw [newO, hres]; rfl
   all_goals rw [he]
   all_goals refine .tup rfl (led_cons (.agg rfl (led_cons (.sl ?_) (led_cons (.sl ?_) led_nil))) (led_cons (.same _) (led_cons (.same _) led_nil)))
   all_goals first
    | (rw [hO]; simp [setAt]; done)
    | exact (apH hil).trans hS.symm
  conv=>arg 4;cbv
  refine Sat.cmp (fun h8 => ?_) (fun h8 => ?_) <;> simp only [Cmp.holds] at h8
  ·have hres : resO m o = ⟨true, v⟩ := by rw [resO, hgd, h8]; simp
   conv=>arg 4;cbv
   repeat' first | (refine Sat.need ndA ?_; conv=>arg 4;cbv) | (refine Sat.idxk (by assumption) ?_; conv=>arg 4;cbv) | (refine Sat.idx ndA (fun v_ hv_ => ?_); conv=>arg 4;cbv) | (refine Sat.typed o.Value tcA ?_; conv=>arg 4;cbv)
   refine Sat.loopP (ι := Nat) (fun i => [(12, .int .i64 (fun _ => (i : Int)))]) (fun i => []) (fun i => i ≤ m.Sessions.length ∧ ∀ x ∈ m.Sessions.take i, x.Client < o.Client) (fun i => m.Sessions.length - i) 0 ?_ ⟨Nat.zero_le _, by simp⟩ (fun i hi => ?_)
   ·exact lesA
   conv=>arg 4;cbv
   repeat' first
    | (refine Sat.cmp (fun h => ?_) (fun h => ?_) <;> simp only [Cmp.holds] at h <;> (conv=>arg 4;cbv))
    | (refine Sat.may (fun h => ?_) ?_ <;> (conv=>arg 4;cbv))
    | (refine Sat.need ndA ?_; conv=>arg 4;cbv)
    | (refine Sat.idxk (by assumption) ?_; conv=>arg 4;cbv) | (refine Sat.idx ndA (fun v_ hv_ => ?_); conv=>arg 4;cbv)
    | (refine Sat.ari64 ndA ndA ?_; conv=>arg 4;cbv)
    | (refine Sat.pop ?_; conv=>arg 4;cbv)
    | refine Sat.next (i + 1) ?_ ?_ (by (try dsimp only); exact arA)
   all_goals try rw [hres] at he
   all_goals try first
    | (exact lesA; done)
    | exact ⟨by exact arA, take_lt (i := i) hi.2 (by assumption) (by assumption)⟩
    | exact ⟨by exact arA, take_lt (i := i) hi.2 (get_nat (by assumption)) (by assumption)⟩
   all_goals have hil : i < m.Sessions.length := had_lt hi.2 hxs hxc
   all_goals repeat' first
    | (refine Sat.need (by (try dsimp only); exact arA) ?_; conv=>arg 4;cbv)
    | (refine Sat.idx (by (try dsimp only); (try simp only [List.length_append, List.length_take, List.length_drop, List.length_cons, List.length_nil]); exact arA) (fun y hy => ?_); conv=>arg 4;cbv)
    | (refine Sat.typed (⟨o.Client, o.Seq, ⟨true, v⟩⟩ : GSession) tcA ?_; conv=>arg 4;cbv)
    | (refine Sat.may (fun h => ?_) ?_ <;> (conv=>arg 4;cbv))
    | (refine Sat.need ndA ?_; conv=>arg 4;cbv)
    | (refine Sat.ari64 ndA ndA ?_; conv=>arg 4;cbv)
    | refine Sat.done ?_
   all_goals have hk : kOf m.Sessions o.Client = i := kOf_eq hi.2 (by first | exact .inr ⟨_, get_nat (by assumption), by assumption⟩ | exact .inl (by exact arA))
   all_goals have hS : (newO m o).Sessions = m.Sessions.take i ++ ⟨o.Client, o.Seq, ⟨true, v⟩⟩ :: m.Sessions.drop (i + 1) := by rw [newO, addS, hk, hsB, hres]; rfl
   all_goals have hO : (newO m o).Objects = m.Objects.set o.Object.toNat o.Value := by rw [newO, hres]; rfl
   all_goals rw [he]
   all_goals refine .tup rfl (led_cons (.agg rfl (led_cons (.sl ?_) (led_cons (.sl ?_) led_nil))) (led_cons (.same _) (led_cons (.same _) led_nil)))
   all_goals first
    | (rw [hO]; simp [setAt]; done)
    | exact (apH hil).trans hS.symm
  ·have hres : resO m o = ⟨false, v⟩ := by rw [resO, hgd, decide_eq_false h7, decide_eq_false h8]; rfl
   conv=>arg 4;cbv
   refine Sat.loopP (ι := Nat) (fun i => [(12, .int .i64 (fun _ => (i : Int)))]) (fun i => []) (fun i => i ≤ m.Sessions.length ∧ ∀ x ∈ m.Sessions.take i, x.Client < o.Client) (fun i => m.Sessions.length - i) 0 ?_ ⟨Nat.zero_le _, by simp⟩ (fun i hi => ?_)
   ·exact lesA
   conv=>arg 4;cbv
   repeat' first
    | (refine Sat.cmp (fun h => ?_) (fun h => ?_) <;> simp only [Cmp.holds] at h <;> (conv=>arg 4;cbv))
    | (refine Sat.may (fun h => ?_) ?_ <;> (conv=>arg 4;cbv))
    | (refine Sat.need ndA ?_; conv=>arg 4;cbv)
    | (refine Sat.idxk (by assumption) ?_; conv=>arg 4;cbv) | (refine Sat.idx ndA (fun v_ hv_ => ?_); conv=>arg 4;cbv)
    | (refine Sat.ari64 ndA ndA ?_; conv=>arg 4;cbv)
    | (refine Sat.pop ?_; conv=>arg 4;cbv)
    | refine Sat.next (i + 1) ?_ ?_ (by (try dsimp only); exact arA)
   all_goals try rw [hres] at he
   all_goals try first
    | (exact lesA; done)
    | exact ⟨by exact arA, take_lt (i := i) hi.2 (by assumption) (by assumption)⟩
    | exact ⟨by exact arA, take_lt (i := i) hi.2 (get_nat (by assumption)) (by assumption)⟩
   all_goals have hil : i < m.Sessions.length := had_lt hi.2 hxs hxc
   all_goals repeat' first
    | (refine Sat.need (by (try dsimp only); exact arA) ?_; conv=>arg 4;cbv)
    | (refine Sat.idx (by (try dsimp only); (try simp only [List.length_append, List.length_take, List.length_drop, List.length_cons, List.length_nil]); exact arA) (fun y hy => ?_); conv=>arg 4;cbv)
    | (refine Sat.typed (⟨o.Client, o.Seq, ⟨false, v⟩⟩ : GSession) tcA ?_; conv=>arg 4;cbv)
    | (refine Sat.may (fun h => ?_) ?_ <;> (conv=>arg 4;cbv))
    | (refine Sat.need ndA ?_; conv=>arg 4;cbv)
    | (refine Sat.ari64 ndA ndA ?_; conv=>arg 4;cbv)
    | refine Sat.done ?_
   all_goals have hk : kOf m.Sessions o.Client = i := kOf_eq hi.2 (by first | exact .inr ⟨_, get_nat (by assumption), by assumption⟩ | exact .inl (by exact arA))
   all_goals have hS : (newO m o).Sessions = m.Sessions.take i ++ ⟨o.Client, o.Seq, ⟨false, v⟩⟩ :: m.Sessions.drop (i + 1) := by rw [newO, addS, hk, hsB, hres]; rfl
   all_goals have hO : (newO m o).Objects = m.Objects := by rw [newO, hres]; rfl
   all_goals rw [he]
   all_goals refine .tup rfl (led_cons (.agg rfl (led_cons (.sl ?_) (led_cons (.sl ?_) led_nil))) (led_cons (.same _) (led_cons (.same _) led_nil)))
   all_goals first
    | (rw [hO]; simp [setAt]; done)
    | exact (apH hil).trans hS.symm
theorem tm_eq {a b : Int} (h : 0 ≤ a) : a.tmod b = a % b := Int.tmod_eq_emod_of_nonneg h
theorem w_impl_Checksum (s : ByteArray) (hs : s.size ≤ 1048576) : Fn Pr n_impl_Checksum [.str (fun _ => s)] (.int .i64 (fun _ => ckS s)) := by
 refine k_impl_Checksum.fn (by kernel_rfl) ?_
 conv=>arg 4;cbv
 refine Sat.loopP (ι := Nat × Int) (fun p => [(3, .int .i64 (fun _ => p.2)), (7, .int .i64 (fun _ => (p.1 : Int)))]) (fun p => []) (fun p => p.1 ≤ s.size ∧ p.2 = (s.data.toList.take p.1).foldl ckB 5) (fun p => s.size - p.1) (0, 5) ?_ ⟨Nat.zero_le _, rfl⟩ (fun p hp => ?_)
 ·exact lesA
 have hr := ck_rng (s.data.toList.take p.1)
 rw [← hp.2] at hr
 conv=>arg 4;cbv
 refine Sat.cmp (fun h5 => ?_) (fun h5 => ?_) <;> simp only [Cmp.holds] at h5
 ·have hi2 : p.1 < s.size := by exact arA
  have hb : s.data.toList[p.1]? = some (s.get! (Int.toNat (p.1 : Int))) := byte_at hi2
  have hq : (s.get! (Int.toNat (p.1 : Int))).toNat < 256 := UInt8.toNat_lt _
  have hv : (257 * p.2 + ((s.get! (Int.toNat (p.1 : Int))).toNat : Int) + 1).tmod 9949 = (s.data.toList.take (p.1 + 1)).foldl ckB 5 := by
   rw [ck_snoc hb, ← hp.2, tm_eq (by omega), ckB]
   all_goals first | rfl | (congr 1; omega)
  have hr2 := ck_rng (s.data.toList.take (p.1 + 1))
  rw [← hv] at hr2
  conv=>arg 4;cbv
  repeat' first
   | (refine Sat.need ndA ?_; conv=>arg 4;cbv)
   | (refine Sat.ari64 ndA ndA ?_; conv=>arg 4;cbv)
   | refine Sat.next (p.1 + 1, (257 * p.2 + ((s.get! (Int.toNat (p.1 : Int))).toNat : Int) + 1).tmod 9949) ?_ ⟨by exact arA, hv⟩ (by (try dsimp only); exact arA)
  exact lesA
 ·conv=>arg 4;cbv
  (refine Sat.pop ?_; conv=>arg 4;cbv)
  refine Sat.done (.int ?_)
  rw [hp.2, show p.1 = s.size by (have := hp.1; exact arA)]
  show List.foldl ckB 5 (List.take s.data.toList.length s.data.toList) = _
  rw [List.take_length]
  rfl
end Go.V.T
