/- Contracts of the functions that FnSnapshots reaches: what each returns. Conditions: those that each theorem states. -/
import Derived.Test.YtbmbdfkeecifiaaGreatDoorWLSnapshots
import Derived.Handy
import Derived.Laws.Runes
import Derived.Lib.DecodeN
import Derived.Lib.SplitLaws
import Derived.Scope
import Derived.Shelf.RegionOpenPlain
import Derived.Shelf.Small.Utf8
import Derived.Shelf.Strings.Cut
import Derived.Shelf.Strings.IndexAnyAll
import Derived.Shelf.Strings.Split
namespace Go.V.T
open Go Go.V Go.RowKit
set_option maxRecDepth 100000
set_option linter.unusedVariables false
set_option linter.unusedSimpArgs false
--import Derived.Lib.SplitLaws
def pcs (c : UInt8) : List UInt8 → List UInt8 → List (List UInt8)
 | acc, [] => [acc]
 | acc, b :: r => if b = c then acc :: pcs c [] r else pcs c (acc ++ [b]) r
theorem pcs_len (c : UInt8) : ∀ (l acc : List UInt8), (pcs c acc l).length ≤ l.length + 1 ∧ 1 ≤ (pcs c acc l).length
 | [], acc => by simp [pcs]
 | b :: r, acc => by
   rw [pcs]
   split
   ·have := pcs_len c r []
    simp only [List.length_cons]
    omega
   ·have := pcs_len c r (acc ++ [b])
    simp only [List.length_cons]
    omega
theorem pcs_size (c : UInt8) : ∀ (l acc p : List UInt8), p ∈ pcs c acc l → p.length ≤ acc.length + l.length
 | [], acc, p, h => by
   rw [pcs, List.mem_singleton] at h
   subst h
   simp
 | b :: r, acc, p, h => by
   rw [pcs] at h
   split at h
   ·rw [List.mem_cons] at h
    rcases h with rfl | h
    ·omega
    ·have := pcs_size c r [] p h
     simp only [List.length_cons, List.length_nil] at *
     omega
   ·have := pcs_size c r (acc ++ [b]) p h
    simp only [List.length_append, List.length_cons, List.length_nil] at *
    omega
theorem indexByte_acc (c : UInt8) (r : List UInt8) : ∀ acc : List UInt8, (∀ b ∈ acc, b ≠ c) → Lib.indexByte (acc ++ c :: r) c = acc.length
 | [], _ => by simp [Lib.indexByte]
 | b :: acc, h => by
   have h1 := indexByte_acc c r acc (fun x hx => h x (List.mem_cons_of_mem _ hx))
   have h2 : b ≠ c := h b (List.mem_cons_self ..)
   rw [List.cons_append, Lib.indexByte, h1]
   simp [h2]
theorem splitK_pcs (c : UInt8) : ∀ (l acc : List UInt8), (∀ b ∈ acc, b ≠ c) → Lib.splitK [c] 0 (l.count c) (acc ++ l) = pcs c acc l
 | [], acc, _ => by simp [Lib.splitK, pcs]
 | b :: r, acc, h => by
   rw [pcs]
   split
   ·rename_i e
    subst e
    have hi : Lib.index (acc ++ b :: r) [b] = acc.length := by rw [Lib.index_one, indexByte_acc b r acc h]
    rw [List.count_cons_self, Lib.splitK, hi, if_neg (by simp)]
    have e1 : ((acc.length : Nat) : Int).toNat = acc.length := by omega
    rw [e1, Nat.add_zero, List.take_left]
    have e2 : (acc ++ b :: r).drop (acc.length + [b].length) = r := by
     rw [← List.drop_drop, List.drop_left]
     rfl
    rw [e2]
    have := splitK_pcs b r [] (fun x hx => by cases hx)
    rw [List.nil_append] at this
    rw [this]
   ·rename_i e
    rw [List.count_cons_of_ne (by simpa using e)]
    have := splitK_pcs c r (acc ++ [b]) (fun x hx => by
     rw [List.mem_append, List.mem_singleton] at hx
     rcases hx with hx | rfl
     ·exact h x hx
     ·exact e)
    rw [← this]
    simp
def cutB (c : UInt8) (s : ByteArray) : List ByteArray := (pcs c [] s.data.toList).map (fun l => ⟨l.toArray⟩)
theorem cutB_data (c : UInt8) (s : ByteArray) : (cutB c s).map (fun x => x.data.toList) = pcs c [] s.data.toList := by
 rw [cutB, List.map_map]
 exact (List.map_congr_left (fun x _ => by simp)).trans (List.map_id _)
theorem data_inj : ∀ {a b : List ByteArray}, a.map (fun x => x.data.toList) = b.map (fun x => x.data.toList) → a = b
 | [], [], _ => rfl
 | [], b :: bs, h => by simp at h
 | a :: us, [], h => by simp at h
 | a :: us, b :: bs, h => by
   rw [List.map_cons, List.map_cons, List.cons.injEq] at h
   rw [bytes_ext h.1, data_inj h.2]
theorem split_cutB (c : UInt8) (s : ByteArray) : Lib.splitB ⟨#[c]⟩ 0 (Lib.countB s ⟨#[c]⟩) s = cutB c s := by
 refine data_inj ?_
 rw [cutB_data]
 have h := Lib.splitB_data ⟨#[c]⟩ 0 (Lib.countB s ⟨#[c]⟩) s
 rw [h]
 have e : Lib.countB s ⟨#[c]⟩ = s.data.toList.count c := Lib.count_one c _
 rw [e]
 have := splitK_pcs c s.data.toList [] (fun x hx => by cases hx)
 rw [List.nil_append] at this
 exact this
theorem cutB_len (c : UInt8) (s : ByteArray) : (cutB c s).length ≤ s.size + 1 ∧ 1 ≤ (cutB c s).length := by
 rw [cutB, List.length_map]
 exact pcs_len c s.data.toList []
theorem cutB_size {c : UInt8} {s x : ByteArray} (h : x ∈ cutB c s) : x.size ≤ s.size := by
 rw [cutB, List.mem_map] at h
 obtain ⟨p, hp, rfl⟩ := h
 have := pcs_size c _ _ p hp
 simp only [List.length_nil, Nat.zero_add] at this
 exact this
theorem ext_list (s : ByteArray) (a b : Nat) : (s.extract a b).data.toList = (s.data.toList.take b).drop a := by
 rw [ByteArray.data_extract, Array.toList_extract, List.extract_eq_take_drop, List.drop_take]
def CutAt (c : UInt8) (s : ByteArray) (i from_ : Nat) (out : List ByteArray) : Prop := from_ ≤ i ∧ i ≤ s.size ∧ out.length ≤ i ∧ out.map (fun x => x.data.toList) ++ pcs c ((s.data.toList.take i).drop from_) (s.data.toList.drop i) = pcs c [] s.data.toList
theorem CutAt.zero (c : UInt8) (s : ByteArray) : CutAt c s 0 0 [] := ⟨Nat.le_refl _, Nat.zero_le _, Nat.le_refl _, by simp⟩
theorem CutAt.fin {c : UInt8} {s : ByteArray} {from_ : Nat} {out : List ByteArray} (h : CutAt c s s.size from_ out) : out ++ [s.extract from_ s.size] = cutB c s := by
 obtain ⟨h1, h2, h3, h4⟩ := h
 refine data_inj ?_
 have e4 : s.data.toList.length = s.size := rfl
 have e5 : s.data.toList.drop s.size = [] := List.drop_eq_nil_of_le (by omega)
 rw [cutB_data, ← h4, e5, pcs, List.map_append]
 simp only [List.map_cons, List.map_nil, ext_list]
--import Derived.Shelf.Strings.Split
theorem w_strings_SplitC (c : UInt8) (s : ByteArray) (hs : s.size < 4294967281) : Fn Pr n_strings_Split [.str (fun _ => s), .str (fun _ => ⟨#[c]⟩)] (.sl 1 encS (fun _ => cutB c s)) := by
 have := w_strings_Split s ⟨#[c]⟩ hs (Nat.le_refl 1)
 rw [split_cutB] at this
 exact this
theorem tkdr {α : Type} (l : List α) : List.take l.length (List.drop 0 l) = l := by rw [List.drop_zero, List.take_length]
theorem led_one {X Y : AV} (h : LeD X Y) : ∀ (i : Nat) (x y : AV), [X][i]? = some x → [Y][i]? = some y → LeD x y := led_cons h led_nil
def noneT : ByteArray := ⟨#[110, 111, 110, 101]⟩
def sv (s : ByteArray) : List Int := s.data.toList.map (fun b => (b.toNat : Int) - 48)
theorem sv_len (s : ByteArray) : (sv s).length = s.size := by rw [sv, List.length_map]; rfl
theorem sv_snoc {s : ByteArray} {i : Nat} {b : UInt8} (h : s.data.toList[i]? = some b) : (sv s).take (i + 1) = (sv s).take i ++ [(b.toNat : Int) - 48] := by
 rw [List.take_add_one, sv, List.getElem?_map, h]; rfl
def pNum (s : ByteArray) : Int := if (pI s).2 = true then (pI s).1 else -1
def pNum3 (s : ByteArray) : Int := if (pI s).2 = true ∧ ¬ (pI s).1 < 0 then (pI s).1 else -1
theorem pI_no1 {s : ByteArray} {n : Int} (h : pI s = (n, false)) : pNum s = -1 ∧ pNum3 s = -1 := by
 constructor
 ·rw [pNum, h, if_neg (fun e => by cases e)]
 ·rw [pNum3, h, if_neg (fun e => by cases e.1)]
theorem pI_yes1 {s : ByteArray} {n : Int} (h : pI s = (n, true)) : pNum s = n ∧ pNum3 s = if n < 0 then -1 else n := by
 constructor
 ·rw [pNum, h, if_pos rfl]
 ·rw [pNum3, h]
  by_cases h0 : n < 0
  ·rw [if_pos h0, if_neg (fun e => e.2 h0)]
  ·rw [if_neg h0, if_pos ⟨rfl, h0⟩]
theorem w_impl_number (s : ByteArray) (hs : s.size ≤ 4294967280) : Fn Pr n_impl_number [.str (fun _ => s)] (.int .i64 (fun _ => pNum s)) := by
 have W := w_impl_ParseInt s hs
 obtain ⟨n, b, hp⟩ : ∃ n b, pI s = (n, b) := ⟨_, _, rfl⟩
 rw [hp] at W
 cases b with
 | false =>
   rw [(pI_no1 hp).1]
   refine k_impl_number.fn (by kernel_rfl) ?_
   conv=>arg 4;cbv
   refine Sat.call W rfl ledA ?_
   conv=>arg 4;cbv
   exact Sat.done (.same _)
 | true =>
   rw [(pI_yes1 hp).1]
   refine k_impl_number.fn (by kernel_rfl) ?_
   conv=>arg 4;cbv
   refine Sat.call W rfl ledA ?_
   conv=>arg 4;cbv
   exact Sat.done (.same _)
--import Derived.Shelf.Strings.IndexAnyAll
--import Derived.Shelf.Small.Utf8
--import Derived.Lib.DecodeN
--import Derived.Laws.Runes
--import Derived.Scope
--import Derived.Handy
--import Derived.Shelf.RegionOpenPlain
section
open Go.Proofs Go.Shelf Go.Lib
variable {P : Program} {ρ : Go.Shelf.Ren}
set_option maxHeartbeats 2000000 in
set_option maxRecDepth 1000000 in
theorem IndexRune_pm_err (L : Lays.n152 P ρ) (w : World) :
 Calls P (ρ.f 152) #[.string ⟨#[43, 45]⟩, .int .i32 65533] w fun e w' => e = .returned (.int .i64 (-1)) ∧ ∃ pos, w' = w.iter ⟨#[43, 45]⟩ pos := by
 obtain ⟨s, hs⟩ : ∃ s : ByteArray, s = ⟨#[43, 45]⟩ := ⟨_, rfl⟩
 rw [← hs]
 have HA : Aside (∀ (j : Nat) b, s.data.toList[j]? = some b → b.toNat < 128) := by
  intro j b h
  subst hs
  match j, h with
  | 0, h => cases h; decide
  | 1, h => cases h; decide
  | j + 2, h => simp at h
 clear hs
 have t3 := L.t3; have a3 := L.a3; have z3 := L.z3; have v3 := L.v3
 have t4 := L.t4; have a4 := L.a4; have z4 := L.z4; have v4 := L.v4
 have t5 := L.t5; have a5 := L.a5; have z5 := L.z5; have v5 := L.v5
 have t9 := L.t9; have a9 := L.a9; have z9 := L.z9; have v9 := L.v9
 have t21 := L.t21; have a21 := L.a21; have z21 := L.z21; have v21 := L.v21
 go_enter L.f152, Body.n152_ntmps ρ
 go_wp2
 go_loopg [5, 6] s.size (fun g _ _ wx => ∃ i : Nat, i + g = s.size ∧ wx = w.iter s i)
 case atStart => exact ⟨0, by omega, rfl⟩
 case round =>
  obtain ⟨i, hig, rfl⟩ := hrel
  cases gk with
  | zero =>
    obtain rfl : i = s.size := by omega
    have hnx := run_next_end (P := P) w s s.size
    go_wp2
    go_ret
    exact ⟨rfl, _, rfl⟩
  | succ g =>
    have hi : i < s.size := by omega
    obtain ⟨x, hx⟩ : ∃ x : UInt8, s[i]'hi = x := ⟨_, rfl⟩
    have hxl : s.data.toList[i]? = some x := by rw [← hx]; exact Lib.data_getElem? s i hi
    have hx128 : x.toNat < 128 := HA.out i x hxl
    have hnx := fun ty => run_next_ascii (P := P) w s i ty hi (by rw [hx]; exact hx128)
    rw [hx] at hnx
    clear hxl hx
    have hne : ((x.toNat : Int) == 65533) = false := beq_eq_false_iff_ne.2 (by omega)
    go_wp2
    go_roundg g
    case measure => omega
    case rel => exact ⟨i + 1, by omega, rfl⟩
set_option maxHeartbeats 2000000 in
set_option maxRecDepth 1000000 in
theorem IndexRune_pm_big (L : Lays.n152 P ρ) (r : Int) (w : World) (h0 : 128 ≤ r) (h1 : r ≠ 65533) (hv : Lib.validRune r = true) (hE : (∃ x y : UInt8, Utf8.encode r = ⟨#[x, y]⟩ ∧ y ≠ 45) ∨ (∃ x y z : UInt8, Utf8.encode r = ⟨#[x, y, z]⟩) ∨ (∃ x y z u : UInt8, Utf8.encode r = ⟨#[x, y, z, u]⟩)) :
 Calls P (ρ.f 152) #[.string ⟨#[43, 45]⟩, .int .i32 r] w fun e w' => e = .returned (.int .i64 (-1)) ∧ Below w.heap.size w w' := by
 have hlt : ¬ r < 128 := by omega
 have hne : (r == 65533) = false := beq_eq_false_iff_ne.2 h1
 have t3 := L.t3; have a3 := L.a3; have z3 := L.z3; have v3 := L.v3
 have t4 := L.t4; have a4 := L.a4; have z4 := L.z4; have v4 := L.v4
 have t5 := L.t5; have a5 := L.a5; have z5 := L.z5; have v5 := L.v5
 have t9 := L.t9; have a9 := L.a9; have z9 := L.z9; have v9 := L.v9
 have t21 := L.t21; have a21 := L.a21; have z21 := L.z21; have v21 := L.v21
 have e119 : ∀ args w, (callFunc (ρ.f 119) args).run P w = .ok (.enter (ρ.f 119) args) w := enters_of L.f119 (by kernel_rfl) rfl
 have e137 : ∀ args w, (callFunc (ρ.f 137) args).run P w = .ok (.enter (ρ.f 137) args) w := enters_of L.f137 (by kernel_rfl) rfl
 go_enter L.f152, Body.n152_ntmps ρ
 go_wp2_with (go_at_fn (ρ.f 119); refine (Any.utf8_ValidRune { L with } _ _).mono ?_; rintro e w' ⟨rfl, hw⟩; rw [hw, hv])
 have hcv := fun w => run_convert_int_string (P := P) w (ρ.t 21) (ρ.t 9) .i32 r (by rw [t21]; rfl) t9
 have hcase : (∃ x y : UInt8, Utf8.encode r = ⟨#[x, y]⟩ ∧ y ≠ 45) ∨ (∃ x y z : UInt8, Utf8.encode r = ⟨#[x, y, z]⟩) ∨ (∃ x y z u : UInt8, Utf8.encode r = ⟨#[x, y, z, u]⟩) := hE
 rcases hcase with ⟨x, y, he, hy⟩ | ⟨x, y, z, he⟩ | ⟨x, y, z, u, he⟩
 ·rw [he] at hcv
  clear he
  refine wp_scope_straight ?_
  go_wp2
  go_rounds 1
  have mixed := L.mixed
  have hyn : ((((⟨#[43, 45]⟩ : ByteArray)[1]'(by decide)).toNat : Int) != (((⟨#[x, y]⟩ : ByteArray)[1]'(show 1 < 2 by decide)).toNat : Int)) = true := by
   show ((45 : Int) != (y.toNat : Int)) = true
   exact bne_iff_ne.2 (fun e => hy (UInt8.toNat_inj.1 (by show y.toNat = 45; omega)))
  refine wp_scope_straight ?_
  go_wp2
  go_region_o
  all_goals go_wp2
  all_goals try (exfalso; have hc : _ = false := by assumption; rw [hyn] at hc; cases hc)
  all_goals try (go_region_with_o (refine (Any.strings_IndexByte { L with } _ _ _).mono ?_; rintro e w2 ⟨rfl, rfl⟩))
  all_goals try go_wp2
  all_goals try (exfalso; simp_all; done)
  all_goals simp only [Exit.noGoto]
  all_goals exact ⟨rfl, _, results_tmp rfl _ _ _, rfl, by go_grown⟩
 ·rw [he] at hcv
  clear he
  refine wp_scope_straight ?_
  go_wp2
  go_rounds 1
  simp only [Exit.noGoto]
  go_ret
  exact ⟨rfl, Below.refl _ _⟩
 ·rw [he] at hcv
  clear he
  refine wp_scope_straight ?_
  go_wp2
  go_rounds 1
  simp only [Exit.noGoto]
  go_ret
  exact ⟨rfl, Below.refl _ _⟩
theorem get_pos {s : ByteArray} {i : Nat} (h : i < s.size) : s.get! i = s[i]'h := by
 simp [ByteArray.get!, getElem!_pos, h]
 rfl
theorem decode_high (s : ByteArray) (i : Nat) (hi : i < s.size) (h : 128 ≤ (s.get! i).toNat) :
 128 ≤ (Utf8.decode s i).1 ∧ ((Utf8.decode s i).1 = 65533 ∨ Lib.validRune (Utf8.decode s i).1 = true) ∧ 1 ≤ (Utf8.decode s i).2 ∧ i + (Utf8.decode s i).2 ≤ s.size ∧ ∀ j, i ≤ j → j < i + (Utf8.decode s i).2 → 128 ≤ (s.get! j).toNat := by
 rw [Lib.decode_at]
 have one : ∀ j, i ≤ j → j < i + 1 → 128 ≤ (s.get! j).toNat := fun j h1 h2 => by
  obtain rfl : j = i := by omega
  exact h
 unfold Lib.decodeN
 rw [if_neg (by omega)]
 split
 ·rename_i hc
  split
  ·rename_i hv
   refine ⟨by omega, .inr ?_, by omega, by omega, fun j h1 h2 => ?_⟩
   ·simp [Lib.validRune]; omega
   ·obtain rfl | rfl : j = i ∨ j = i + 1 := by omega
    ·exact h
    ·omega
  ·exact ⟨by omega, .inl rfl, by omega, by omega, one⟩
 ·split
  ·rename_i hc
   split
   ·rename_i hv
    refine ⟨by omega, .inr ?_, by omega, by omega, fun j h1 h2 => ?_⟩
    ·simp [Lib.validRune]; omega
    ·obtain rfl | rfl | rfl : j = i ∨ j = i + 1 ∨ j = i + 2 := by omega
     ·exact h
     ·omega
     ·omega
   ·exact ⟨by omega, .inl rfl, by omega, by omega, one⟩
  ·split
   ·rename_i hc
    split
    ·rename_i hv
     refine ⟨by omega, .inr ?_, by omega, by omega, fun j h1 h2 => ?_⟩
     ·simp [Lib.validRune]; omega
     ·obtain rfl | rfl | rfl | rfl : j = i ∨ j = i + 1 ∨ j = i + 2 ∨ j = i + 3 := by omega
      ·exact h
      ·omega
      ·omega
      ·omega
    ·exact ⟨by omega, .inl rfl, by omega, by omega, one⟩
   ·exact ⟨by omega, .inl rfl, by omega, by omega, one⟩
theorem encode_high (r : Int) (h : 128 ≤ r) (hv : Lib.validRune r = true) : (∃ x y : UInt8, Utf8.encode r = ⟨#[x, y]⟩ ∧ y ≠ 45) ∨ (∃ x y z : UInt8, Utf8.encode r = ⟨#[x, y, z]⟩) ∨ (∃ x y z u : UInt8, Utf8.encode r = ⟨#[x, y, z, u]⟩) := by
 have hval : Utf8.valid r = true := by
  simp [Lib.validRune] at hv
  simp [Utf8.valid]
  omega
 unfold Utf8.encode
 simp only [hval, if_true]
 rw [if_neg (by omega)]
 split
 ·refine .inl ⟨_, _, rfl, fun e => ?_⟩
  have := congrArg UInt8.toNat e
  simp at this
  omega
 ·split
  ·exact .inr (.inl ⟨_, _, _, rfl⟩)
  ·exact .inr (.inr ⟨_, _, _, _, rfl⟩)
theorem run_next_any (g : Nat) (wx : World) (s : ByteArray) (pos : Nat) (ty : TypeId) (hh : wx.heap[g]? = some (.stringIter s pos)) (h : pos < s.size) :
 (Instr.next (.pointer (some ⟨g, 0, none⟩)) true ty).run P wx = .ok (.tuple #[.bool true, .int .i64 pos, .int .i32 ((Utf8.decode s pos).1 : Nat)]) { wx with heap := wx.heap.setIfInBounds g (.stringIter s (pos + (Utf8.decode s pos).2)) } := by
 simp only [Instr.next, getObj, setObj, Sem.run_bind, Sem.run, hh, Result.andThen, h, if_true]
 simp [goInt]
theorem run_next_any_end (g : Nat) (wx : World) (s : ByteArray) (pos : Nat) (ty : TypeId) (hh : wx.heap[g]? = some (.stringIter s pos)) (h : ¬ pos < s.size) :
 (Instr.next (.pointer (some ⟨g, 0, none⟩)) true ty).run P wx = .ok (.tuple #[.bool false]) wx := by
 simp [Instr.next, getObj, Sem.run, hh, h]
theorem IndexRune_pm (L : Lays.n152 P ρ) (r : Int) (w : World) (h0 : 0 ≤ r) (hr : r < 128 ∨ r = 65533 ∨ (128 ≤ r ∧ Lib.validRune r = true)) :
 Calls P (ρ.f 152) #[.string ⟨#[43, 45]⟩, .int .i32 r] w fun e w' => e = .returned (.int .i64 (if r < 128 then Lib.indexByte [43, 45] r.toNat.toUInt8 else -1)) ∧ Below w.heap.size w w' := by
 by_cases h1 : r < 128
 ·refine (Any.strings_IndexRune_ascii L _ r w h0 h1).mono ?_
  rintro e w' ⟨rfl, rfl⟩
  rw [if_pos h1]
  exact ⟨rfl, Below.refl _ _⟩
 ·rw [if_neg h1]
  by_cases h2 : r = 65533
  ·subst h2
   refine (IndexRune_pm_err L w).mono ?_
   rintro e w' ⟨rfl, pos, rfl⟩
   exact ⟨rfl, Below.alloc (Below.refl _ _) (Nat.le_refl _) _⟩
  ·obtain h3 | h3 | h3 := hr
   ·exact absurd h3 h1
   ·exact absurd h3 h2
   ·exact IndexRune_pm_big L r w h3.1 h2 h3.2 (encode_high r h3.1 h3.2)
theorem pm_high {b : UInt8} (h : 128 ≤ b.toNat) : ([43, 45] : List UInt8).contains b = false := by
 have h1 : b ≠ 43 := fun e => by rw [e] at h; exact absurd h (by decide)
 have h2 : b ≠ 45 := fun e => by rw [e] at h; exact absurd h (by decide)
 simp [h1, h2]
theorem asd {p : Prop} (h : p) : Aside p := h
theorem below_low {B C : Nat} {a b : World} (h : Below B a b) (hc : C ≤ B) : Below C a b := ⟨h.os, h.tape, h.output, h.size, fun k hk => h.block k (by omega)⟩
def IxAt (w wx : World) (s : ByteArray) (i : Nat) : Prop := wx.heap[w.heap.size]? = some (.stringIter s i) ∧ Below w.heap.size w wx ∧ i ≤ s.size ∧ Lib.NoAny s.data.toList [43, 45] i
theorem IxAt.step {w wx w2 : World} {s : ByteArray} {i : Nat} (h : IxAt w wx s i) (hno : ∀ j, i ≤ j → j < i + (Utf8.decode s i).2 → ([43, 45] : List UInt8).contains (s.get! j) = false) (hk : i + (Utf8.decode s i).2 ≤ s.size)
 (hb : Below ({ wx with heap := wx.heap.setIfInBounds w.heap.size (.stringIter s (i + (Utf8.decode s i).2)) } : World).heap.size { wx with heap := wx.heap.setIfInBounds w.heap.size (.stringIter s (i + (Utf8.decode s i).2)) } w2) : IxAt w w2 s (i + (Utf8.decode s i).2) := by
 obtain ⟨h1, h2, h3, h4⟩ := h
 have hlt : w.heap.size < wx.heap.size := (Array.getElem?_eq_some_iff.1 h1).1
 refine ⟨?_, ?_, hk, fun j b hj hb' => ?_⟩
 ·rw [hb.block _ (by simpa using hlt)]
  simp [hlt]
 ·refine ⟨hb.os.trans h2.os, hb.tape.trans h2.tape, hb.output.trans h2.output, ?_, fun k hk => ?_⟩
  ·have := hb.size
   simp at this
   omega
  ·rw [hb.block k (by simp; omega)]
   show (wx.heap.setIfInBounds w.heap.size _)[k]? = _
   rw [Array.getElem?_setIfInBounds_ne (by omega)]
   exact h2.block k hk
 ·by_cases hji : j < i
  ·exact h4 j b hji hb'
  ·have := hno j (by omega) hj
   have hjs : j < s.size := by omega
   rw [get_pos hjs] at this
   have e := Lib.data_getElem? s j hjs
   rw [e] at hb'
   cases hb'
   exact this
set_option maxHeartbeats 4000000 in
set_option maxRecDepth 1000000 in
theorem IndexAny_pm_short (L : Lays.n153 P ρ) (s : ByteArray) (w : World) (h8 : s.size ≤ 8) :
 Calls P (ρ.f 153) #[.string s, .string ⟨#[43, 45]⟩] w fun e w' => e = .returned (.int .i64 (Lib.indexAny s.data.toList [43, 45])) ∧ Below w.heap.size w w' := by
 obtain ⟨chars, hch⟩ : ∃ c : ByteArray, c = ⟨#[43, 45]⟩ := ⟨_, rfl⟩
 have hemp : chars.toList.isEmpty = false := by rw [hch, Lib.toList_data]; rfl
 have h2 : 2 ≤ chars.size := by rw [hch]; decide
 have hn1 : ((chars.size : Int) == 1) = false := beq_eq_false_iff_ne.2 (by omega)
 have h8z : decide ((8 : Int) < (s.size : Int)) = false := decide_eq_false (by omega)
 have HC : Aside (chars = ⟨#[43, 45]⟩) := hch
 rw [← hch]
 clear hch h2
 have t3 := L.t3; have a3 := L.a3; have z3 := L.z3; have v3 := L.v3
 have t4 := L.t4; have a4 := L.a4; have z4 := L.z4; have v4 := L.v4
 have t5 := L.t5; have a5 := L.a5; have z5 := L.z5; have v5 := L.v5
 have t9 := L.t9; have a9 := L.a9; have z9 := L.z9; have v9 := L.v9
 have t21 := L.t21; have a21 := L.a21; have z21 := L.z21; have v21 := L.v21
 have e152 : ∀ args w, (callFunc (ρ.f 152) args).run P w = .ok (.enter (ρ.f 152) args) w := enters_of L.f152 (by kernel_rfl) rfl
 have e226 : ∀ args w, (callFunc (ρ.f 226) args).run P w = .ok (.enter (ρ.f 226) args) w := enters_of L.f226 (by kernel_rfl) rfl
 go_enter L.f153, Body.n153_ntmps ρ
 go_wp2_with (go_at_fn (ρ.f 226); refine (Any.strings_shouldUseASCIISet { L with } _ _).mono ?_; rintro e w' ⟨rfl, hw⟩; rw [hw, h8z])
 go_loopg [9, 10] s.size (fun g _ _ wx => ∃ i : Nat, i + g = s.size ∧ IxAt w wx s i)
 case atStart => exact ⟨0, by omega, World.iter_heap _ _ _, Below.alloc (Below.refl _ _) (Nat.le_refl _) _, Nat.zero_le _, Lib.NoAny.zero _ _⟩
 case round =>
  obtain ⟨i, hig, hat⟩ := hrel
  have HN : Aside (IxAt w _ s i) := hat
  have hhp := hat.1
  clear hat
  cases gk with
  | zero =>
    obtain rfl : i = s.size := by omega
    have hnx := fun ty => run_next_any_end (P := P) w.heap.size _ s s.size ty hhp (by omega)
    go_wp2
    go_ret
    exact ⟨by rw [Lib.indexAny_none (by rw [← Lib.size_eq]; exact HN.out.2.2.2)]; rfl, HN.out.2.1⟩
  | succ g =>
    have hi : i < s.size := by omega
    have hnx := fun ty => run_next_any (P := P) w.heap.size _ s i ty hhp hi
    have hstep : ∀ w2, (∀ j, i ≤ j → j < i + (Utf8.decode s i).2 → ([43, 45] : List UInt8).contains (s.get! j) = false) → i + (Utf8.decode s i).2 ≤ s.size → Below ({ wr with heap := wr.heap.setIfInBounds w.heap.size (.stringIter s (i + (Utf8.decode s i).2)) } : World).heap.size { wr with heap := wr.heap.setIfInBounds w.heap.size (.stringIter s (i + (Utf8.decode s i).2)) } w2 → IxAt w w2 s (i + (Utf8.decode s i).2) := fun w2 h1 h2 h3 => HN.out.step h1 h2 h3
    have hbw : Below w.heap.size w { wr with heap := wr.heap.setIfInBounds w.heap.size (.stringIter s (i + (Utf8.decode s i).2)) } := by
     refine ⟨HN.out.2.1.os, HN.out.2.1.tape, HN.out.2.1.output, by have := HN.out.2.1.size; simpa using this, fun k hk => ?_⟩
     show (wr.heap.setIfInBounds w.heap.size _)[k]? = _
     rw [Array.getElem?_setIfInBounds_ne (by omega)]
     exact HN.out.2.1.block k hk
    have Hs := asd hstep
    clear hstep
    by_cases hx : (s[i]'hi).toNat < 128
    ·have hdec := decode_ascii s i hi hx
     have hstep := Hs.out
     clear Hs
     rw [hdec] at hstep hnx hbw
     have hgx := get_pos hi
     have hxl := Lib.data_getElem? s i hi
     generalize s[i]'hi = x at *
     have Hx : Aside (s.data.toList[i]? = some x) := hxl
     have Hgx : Aside (s.get! i = x) := hgx
     have HR : ∀ w1, Calls P (ρ.f 152) #[.string chars, .int .i32 (x.toNat : Nat)] w1 fun e w' => e = .returned (.int .i64 (Lib.indexByte [43, 45] x)) ∧ Below w1.heap.size w1 w' := fun w1 => by
      rw [HC.out]
      refine (IndexRune_pm { L with } _ w1 (by omega) (.inl (by omega))).mono ?_
      rintro e w' ⟨rfl, hb⟩
      rw [if_pos (by omega)]
      have hback : ((x.toNat : Int)).toNat.toUInt8 = x := by simp
      rw [hback]
      exact ⟨rfl, hb⟩
     have hcon := Lib.contains_iff_indexByte [43, 45] x
     have Hs := asd hstep
     have Hbw := asd hbw
     clear hstep hdec hgx hxl hbw hx
     simp only at hnx
     generalize hwn : ({ heap := wr.heap.setIfInBounds w.heap.size (.stringIter s (i + 1)), tape := wr.tape, drawn := wr.drawn, os := wr.os, output := wr.output } : World) = wn at *
     clear hwn
     cases hin : ([43, 45] : List UInt8).contains x
     ·rw [hin] at hcon
      have hlt : ¬ ((0 : Int) ≤ Lib.indexByte [43, 45] x) := of_decide_eq_false hcon.symm
      clear hcon
      have Hin := asd hin
      clear hin
      generalize Lib.indexByte [43, 45] x = q at *
      go_wp2_with (go_at_fn (ρ.f 152); refine (HR _).mono ?_; rintro e w2 ⟨rfl, hbel⟩)
      go_roundg g
      case measure => omega
      case rel =>
       have h1 := Hs.out
       refine ⟨i + 1, by omega, h1 w2 (fun j h3 h4 => ?_) (by omega) ?_⟩
       ·obtain rfl : j = i := by omega
        rw [Hgx.out]
        exact Hin.out
       ·exact hbel
     ·rw [hin] at hcon
      have hge : (0 : Int) ≤ Lib.indexByte [43, 45] x := of_decide_eq_true hcon.symm
      clear hcon
      have Hin := asd hin
      clear hin
      generalize Lib.indexByte [43, 45] x = q at *
      go_wp2_with (go_at_fn (ρ.f 152); refine (HR _).mono ?_; rintro e w2 ⟨rfl, hbel⟩)
      go_ret
      have h2 := Hbw.out
      exact ⟨by rw [Lib.indexAny_hit HN.out.2.2.2 Hx.out Hin.out]; rfl, h2.trans (below_low hbel h2.size)⟩
    ·have hge : 128 ≤ (s.get! i).toNat := by rw [get_pos hi]; omega
     obtain ⟨d1, d2, d3, d4, d5⟩ := decode_high s i hi hge
     have HR : ∀ w1, Calls P (ρ.f 152) #[.string chars, .int .i32 ((Utf8.decode s i).1 : Nat)] w1 fun e w' => e = .returned (.int .i64 (-1)) ∧ Below w1.heap.size w1 w' := fun w1 => by
      rw [HC.out]
      refine (IndexRune_pm { L with } _ w1 (by omega) (d2.elim (fun h => .inr (.inl (by rw [h]; rfl))) (fun h => .inr (.inr ⟨by omega, h⟩)))).mono ?_
      rintro e w' ⟨rfl, hb⟩
      rw [if_neg (by omega)]
      exact ⟨rfl, hb⟩
     have hno : ∀ j, i ≤ j → j < i + (Utf8.decode s i).2 → ([43, 45] : List UInt8).contains (s.get! j) = false := fun j h1 h2 => pm_high (d5 j h1 h2)
     have Hno := asd hno
     clear hno d5 d2 d1 hx hge
     generalize Utf8.decode s i = ck at *
     obtain ⟨c, k⟩ := ck
     simp only at hnx HR d3 d4 hbw
     generalize ({ heap := wr.heap.setIfInBounds w.heap.size (.stringIter s (i + k)), tape := wr.tape, drawn := wr.drawn, os := wr.os, output := wr.output } : World) = wn at *
     go_wp2_with (go_at_fn (ρ.f 152); refine (HR _).mono ?_; rintro e w2 ⟨rfl, hbel⟩)
     go_roundg (s.size - (i + k))
     case measure => omega
     case rel => exact ⟨i + k, by omega, Hs.out w2 Hno.out d4 hbel⟩
theorem IndexAny_pm (L : Lays.n153 P ρ) (hv116 : ∀ w, (zeroValue (ρ.t 116)).run P w = .ok (.agg (Array.replicate 256 (.bool false))) w) (hi116 : (P.info? (ρ.t 116)).map (·.size) = some 256) (s : ByteArray) (w : World) (hs : s.size < 4294967281) :
 Calls P (ρ.f 153) #[.string s, .string ⟨#[43, 45]⟩] w fun e w' => e = .returned (.int .i64 (Lib.indexAny s.data.toList [43, 45])) ∧ Below w.heap.size w w' := by
 by_cases h8 : s.size ≤ 8
 ·exact IndexAny_pm_short L s w h8
 ·refine (Any.strings_IndexAny_long L hv116 hi116 s ⟨#[43, 45]⟩ w (by decide) (by omega) hs (by decide) (fun j b h => ?_)).mono ?_
  ·match j, h with
   | 0, h => cases h; decide
   | 1, h => cases h; decide
   | j + 2, h => simp at h
  ·rintro e w' ⟨rfl, rfl⟩
   exact ⟨rfl, Below.alloc (Below.alloc (Below.refl _ _) (Nat.le_refl _) _) (by show w.heap.size ≤ (w.heap.push _).size; rw [Array.size_push]; omega) _⟩
end
def okSes (p : Int) (x : GSession) : Bool := decide ((0 ≤ x.Client ∧ x.Client ≤ 2) ∧ p < x.Client ∧ (1 ≤ x.Seq ∧ x.Seq ≤ 99) ∧ (0 ≤ x.Result.Value ∧ x.Result.Value ≤ 9))
def sesGo (p : Int) : List GSession → Bool
 | [] => true
 | x :: r => okSes p x && sesGo x.Client r
def objOk (v : Int) : Bool := decide (0 ≤ v ∧ v ≤ 9)
def validM (m : GMachine) : Bool := decide (m.Objects.length = 3) && m.Objects.all objOk && sesGo (-1) m.Sessions
def prevC (l : List GSession) : Nat → Int
 | 0 => -1
 | i + 1 => match l[i]? with | some e => e.Client | none => 0
theorem prevC_get {l : List GSession} {i : Nat} {e : GSession} (h : l[i]? = some e) : prevC l (i + 1) = e.Client := by simp [prevC, h]
theorem prevC_zero {l : List GSession} {i : Nat} (h : i = 0) : prevC l i = -1 := by subst h; rfl
theorem prevC_pos {l : List GSession} {i j : Nat} {e : GSession} (h : l[j]? = some e) (hj : i = j + 1) : prevC l i = e.Client := by subst hj; exact prevC_get h
theorem sesGo_step {l : List GSession} {i : Nat} {e : GSession} {b : Bool} (hb : b = sesGo (prevC l i) (l.drop i)) (h : l[i]? = some e) (h1 : (0 ≤ e.Client ∧ e.Client ≤ 2) ∧ prevC l i < e.Client ∧ (1 ≤ e.Seq ∧ e.Seq ≤ 99) ∧ (0 ≤ e.Result.Value ∧ e.Result.Value ≤ 9)) : b = sesGo (prevC l (i + 1)) (l.drop (i + 1)) := by
 rw [hb, drop_get h, sesGo, prevC_get h, okSes, decide_eq_true h1]
 rfl
theorem sesGo_bad {l : List GSession} {i : Nat} {e : GSession} {b : Bool} (hb : b = sesGo (prevC l i) (l.drop i)) (h : l[i]? = some e) (hn : ¬ ((0 ≤ e.Client ∧ e.Client ≤ 2) ∧ prevC l i < e.Client ∧ (1 ≤ e.Seq ∧ e.Seq ≤ 99) ∧ (0 ≤ e.Result.Value ∧ e.Result.Value ≤ 9))) : b = false := by
 rw [hb, drop_get h, sesGo, okSes, decide_eq_false hn]
 rfl
theorem sesGo_end {l : List GSession} {i : Nat} {b : Bool} (hb : b = sesGo (prevC l i) (l.drop i)) (h : i = l.length) : b = true := by
 rw [hb, h, List.drop_length, sesGo]
theorem sesGo_spec : ∀ {l : List GSession} {p : Int}, sesGo p l = true → p ≤ 2 → ((l.length : Int) ≤ 2 - p) ∧ ∀ x ∈ l, okSes p x = true
 | [], p, _, hp => ⟨by simp; omega, by simp⟩
 | x :: r, p, h, hp => by
   rw [sesGo, Bool.and_eq_true] at h
   have h1 := of_decide_eq_true h.1
   obtain ⟨h2, h3⟩ := sesGo_spec h.2 h1.1.2
   refine ⟨by simp only [List.length_cons]; omega, fun y hy => ?_⟩
   rcases List.mem_cons.1 hy with rfl | hy
   ·exact h.1
   ·have h4 := of_decide_eq_true (h3 y hy)
    exact decide_eq_true ⟨h4.1, by omega, h4.2.2⟩
theorem w_slices_IndexFunc_intint0 (l : List Int) (f : Nat) (p : Int → Bool) (hf : ∀ x, Fn Pr f [.int .i64 (fun _ => x)] (.bo (p x))) (hb : bIntS l) : Fn Pr n_slices_IndexFunc_intint [.sl 1 (encI .i64) (fun _ => l), .clo f []] (.int .i64 (fun _ => idxF p l)) := by
 refine k_slices_IndexFunc_intint.fn (by kernel_rfl) ?_
 have h0 : l.length * 8 ≤ 140737488351232 := hb
 conv=>arg 4;cbv
 refine Sat.loopP (ι := Nat) (fun i => [(8, .int .i64 (fun _ => (i : Int)))]) (fun i => []) (fun i => i ≤ l.length ∧ idxF p l = if idxF p (l.drop i) < 0 then -1 else idxF p (l.drop i) + i) (fun i => l.length - i) 0 ?_ ⟨by omega, by have := (idxF_any (p := p) (l := l)).2; simp; omega⟩ (fun i hi => ?_)
 ·exact lesA
 conv=>arg 4;cbv
 repeat' first
  | (refine Sat.cmp (fun h => ?_) (fun h => ?_) <;> simp only [Cmp.holds] at h <;> (conv=>arg 4;cbv))
  | (refine Sat.need ndA ?_; conv=>arg 4;cbv)
  | (refine Sat.idxk (by assumption) ?_; conv=>arg 4;cbv) | (refine Sat.idx ndA (fun v_ hv_ => ?_); conv=>arg 4;cbv)
  | (refine Sat.callb (hf _) rfl ledA (fun h => ?_) (fun h => ?_) <;> (conv=>arg 4;cbv))
  | (refine Sat.ari64 ndA ndA ?_; conv=>arg 4;cbv)
  | (refine Sat.pop ?_; conv=>arg 4;cbv)
  | refine Sat.next (i + 1) ?_ ?_ (by (try dsimp only); exact arA)
  | refine Sat.done ?_
 ·refine .int ?_
  exact idxF_hit (by assumption) hi.2 h
 ·exact lesA
 ·exact ⟨by exact arA, idxF_step (by assumption) hi.2 h⟩
 ·refine .int ?_
  have e1 : i = l.length := by exact arA
  rw [hi.2, e1, List.drop_length, idxF]
  simp
theorem w_slices_ContainsFunc_intint0 (l : List Int) (f : Nat) (p : Int → Bool) (hf : ∀ x, Fn Pr f [.int .i64 (fun _ => x)] (.bo (p x))) (hb : bIntS l) : Fn Pr n_slices_ContainsFunc_intint [.sl 1 (encI .i64) (fun _ => l), .clo f []] (.bo (l.any p)) := by
 refine k_slices_ContainsFunc_intint.fn (by kernel_rfl) ?_
 conv=>arg 4;cbv
 repeat' first
  | (refine Sat.cmp (fun h => ?_) (fun h => ?_) <;> simp only [Cmp.holds] at h <;> (conv=>arg 4;cbv))
  | (refine Sat.call (w_slices_IndexFunc_intint0 l f p hf hb) rfl ledA ?_; conv=>arg 4;cbv)
  | (refine Sat.need ndA ?_; conv=>arg 4;cbv)
  | (refine Sat.idxk (by assumption) ?_; conv=>arg 4;cbv) | (refine Sat.idx ndA (fun v_ hv_ => ?_); conv=>arg 4;cbv)
  | (refine Sat.ari64 ndA ndA ?_; conv=>arg 4;cbv)
  | (refine Sat.pop ?_; conv=>arg 4;cbv)
  | refine Sat.done ?_
 all_goals refine led_bo ?_
 all_goals have := (idxF_any (p := p) (l := l)).1
 ·exact (this.1 h).symm
 ·cases e : l.any p with
  | false => rfl
  | true => exact absurd (this.2 e) h
theorem w_impl_IsValidMachine_c1 (x : Int) : Fn Pr n_impl_IsValidMachine_c1 [.int .i64 (fun _ => x)] (.bo (!objOk x)) := by
 refine k_impl_IsValidMachine_c1.fn (by kernel_rfl) ?_
 conv=>arg 4;cbv
 repeat' first
  | (refine Sat.cmp (fun h => ?_) (fun h => ?_) <;> simp only [Cmp.holds] at h <;> (conv=>arg 4;cbv))
  | (refine Sat.callb (w_impl_within _ _ _) rfl ledA (fun h => ?_) (fun h => ?_) <;> (try simp only [decide_eq_true_eq, decide_eq_false_iff_not] at h) <;> (conv=>arg 4;cbv))
  | (refine Sat.need ndA ?_; conv=>arg 4;cbv)
  | (refine Sat.idxk (by assumption) ?_; conv=>arg 4;cbv) | (refine Sat.idx ndA (fun v_ hv_ => ?_); conv=>arg 4;cbv)
  | (refine Sat.ari64 ndA ndA ?_; conv=>arg 4;cbv)
  | (refine Sat.pop ?_; conv=>arg 4;cbv)
  | refine Sat.done ?_
 all_goals refine led_bo ?_ <;> simp [objOk] <;> omega
theorem not_any_all (l : List Int) : l.all objOk = !(l.any (fun x => !objOk x)) := by
 induction l with
 | nil => rfl
 | cons x r ih => rw [List.all_cons, List.any_cons, ih]; cases objOk x <;> simp
set_option maxHeartbeats 2000000 in
theorem w_impl_IsValidMachine (m : GMachine) (hb : bMachine m) : Fn Pr n_impl_IsValidMachine [aGMachine m] (.bo (validM m)) := by
 have hb1 : bIntS m.Objects := hb.1
 have hb2 : m.Sessions.length * 32 ≤ 140737488351232 := hb.2
 have HC := w_slices_ContainsFunc_intint0 m.Objects n_impl_IsValidMachine_c1 _ w_impl_IsValidMachine_c1 hb1
 refine k_impl_IsValidMachine.fn (by kernel_rfl) ?_
 conv=>arg 4;cbv
 refine Sat.cmp (fun h => ?_) (fun h => ?_) <;> simp only [Cmp.holds] at h
 rotate_left
 ·conv=>arg 4;cbv
  refine Sat.done (led_bo ?_)
  rw [validM, decide_eq_false (fun e => h (by exact arA))]
  rfl
 have h3 : m.Objects.length = 3 := by exact arA
 conv=>arg 4;cbv
 refine Sat.callb HC rfl ledA (fun hA => ?_) (fun hA => ?_)
 ·conv=>arg 4;cbv
  refine Sat.done (led_bo ?_)
  rw [validM, not_any_all, hA]
  simp
 have hall : m.Objects.all objOk = true := by rw [not_any_all, hA]; rfl
 have hv : validM m = sesGo (-1) m.Sessions := by rw [validM, hall, decide_eq_true h3]; rfl
 rw [hv]
 conv=>arg 4;cbv
 refine Sat.loopP (ι := Nat) (fun i => [(17, .int .i64 (fun _ => (i : Int)))]) (fun i => []) (fun i => i ≤ m.Sessions.length ∧ sesGo (-1) m.Sessions = sesGo (prevC m.Sessions i) (m.Sessions.drop i)) (fun i => m.Sessions.length - i) 0 ?_ ⟨by omega, by simp [prevC]⟩ (fun i hi => ?_)
 ·exact lesA
 conv=>arg 4;cbv
 repeat' first
  | (refine Sat.cmp (fun h => ?_) (fun h => ?_) <;> simp only [Cmp.holds] at h <;> (conv=>arg 4;cbv))
  | (refine Sat.need ndA ?_; conv=>arg 4;cbv)
  | (refine Sat.idxk (by assumption) ?_; conv=>arg 4;cbv) | (refine Sat.idx ndA (fun v_ hv_ => ?_); conv=>arg 4;cbv)
  | (refine Sat.callb (w_impl_within _ _ _) rfl ledA (fun h => ?_) (fun h => ?_) <;> (try simp only [decide_eq_true_eq, decide_eq_false_iff_not] at h) <;> (conv=>arg 4;cbv))
  | (refine Sat.ari64 ndA ndA ?_; conv=>arg 4;cbv)
  | (refine Sat.pop ?_; conv=>arg 4;cbv)
  | refine Sat.next (i + 1) ?_ ?_ (by (try dsimp only); exact arA)
  | refine Sat.done ?_
 all_goals have hz := @prevC_zero m.Sessions i
 all_goals try have hp := prevC_pos (l := m.Sessions) (i := i) hv_ (by exact arA)
 all_goals first
  | (refine led_bo ?_; rw [sesGo_bad (i := i) hi.2 (by assumption) (fun q => by (try simp only [ncast] at *); omega)]; done)
  | (exact lesA; done)
  | (refine ⟨by exact arA, sesGo_step hi.2 (by assumption) ⟨by assumption, ?_, by assumption, by assumption⟩⟩; (try simp only [ncast] at *); omega)
  | (refine led_bo ?_; rw [sesGo_end hi.2 (by exact arA)]; done)
  | trace_state
set_option maxHeartbeats 2000000 in
theorem w_spec_IsValidMachine (m : GMachine) (hb : bMachine m) : Fn Pr n_spec_IsValidMachine [aGMachine m] (.bo (validM m)) := by
 have hb1 : m.Objects.length * 8 ≤ 140737488351232 := hb.1
 have hb2 : m.Sessions.length * 32 ≤ 140737488351232 := hb.2
 refine k_spec_IsValidMachine.fn (by kernel_rfl) ?_
 conv=>arg 4;cbv
 refine Sat.loopP (ι := Nat) (fun i => [(3, .int .i64 (fun _ => (i : Int)))]) (fun i => []) (fun i => i ≤ m.Objects.length ∧ m.Objects.all objOk = (m.Objects.drop i).all objOk) (fun i => m.Objects.length - i) 0 ?_ ⟨by omega, by simp⟩ (fun i hi => ?_)
 ·exact lesA
 conv=>arg 4;cbv
 refine Sat.cmp (fun h => ?_) (fun h => ?_) <;> simp only [Cmp.holds] at h
 ·conv=>arg 4;cbv
  refine Sat.need (by (try dsimp only); exact arA) ?_
  conv=>arg 4;cbv
  refine Sat.idx (by (try dsimp only); exact arA) (fun v hv => ?_)
  have hv : m.Objects[i]? = some v := by simpa using hv
  conv=>arg 4;cbv
  refine Sat.callb (w_spec_l1In _ _ _) rfl ledA (fun hA => ?_) (fun hA => ?_)
  ·have hA := of_decide_eq_true hA
   conv=>arg 4;cbv
   refine Sat.ari64 (by (try dsimp only); exact arA) (by (try dsimp only); exact arA) ?_
   conv=>arg 4;cbv
   refine Sat.next (i + 1) ?_ ⟨by exact arA, ?_⟩ (by (try dsimp only); exact arA)
   ·exact lesA
   ·rw [hi.2, drop_get hv, List.all_cons, objOk, decide_eq_true hA]
    rfl
  ·have hA := of_decide_eq_false hA
   conv=>arg 4;cbv
   refine Sat.pop ?_
   conv=>arg 4;cbv
   refine Sat.done (led_bo ?_)
   rw [validM, hi.2, drop_get hv, List.all_cons, objOk, decide_eq_false hA]
   simp
 have hie : i = m.Objects.length := by exact arA
 have hall : m.Objects.all objOk = true := by rw [hi.2, hie, List.drop_length]; rfl
 have hv : validM m = (decide (m.Objects.length = 3) && sesGo (-1) m.Sessions) := by rw [validM, hall, Bool.and_true]
 rw [hv]
 conv=>arg 4;cbv
 refine Sat.pop ?_
 conv=>arg 4;cbv
 clear hi hie h
 refine Sat.loopP (ι := Nat) (fun i => [(4, .int .i64 (fun _ => (i : Int)))]) (fun i => []) (fun i => i ≤ m.Sessions.length ∧ sesGo (-1) m.Sessions = sesGo (prevC m.Sessions i) (m.Sessions.drop i)) (fun i => m.Sessions.length - i) 0 ?_ ⟨by omega, by simp [prevC]⟩ (fun i hi => ?_)
 ·exact lesA
 conv=>arg 4;cbv
 repeat' first
  | (refine Sat.cmp (fun h => ?_) (fun h => ?_) <;> simp only [Cmp.holds] at h <;> (conv=>arg 4;cbv))
  | (refine Sat.need ndA ?_; conv=>arg 4;cbv)
  | (refine Sat.idxk (by assumption) ?_; conv=>arg 4;cbv) | (refine Sat.idx ndA (fun v_ hv_ => ?_); conv=>arg 4;cbv)
  | (refine Sat.callb (w_spec_l1In _ _ _) rfl ledA (fun h => ?_) (fun h => ?_) <;> (try simp only [decide_eq_true_eq, decide_eq_false_iff_not] at h) <;> (conv=>arg 4;cbv))
  | (refine Sat.ari64 ndA ndA ?_; conv=>arg 4;cbv)
  | (refine Sat.pop ?_; conv=>arg 4;cbv)
  | refine Sat.next (i + 1) ?_ ?_ (by (try dsimp only); exact arA)
  | refine Sat.done ?_
 all_goals have hz := @prevC_zero m.Sessions i
 all_goals try have hp := prevC_pos (l := m.Sessions) (i := i) hv_ (by exact arA)
 all_goals first
  | (refine led_bo ?_; rw [sesGo_bad (i := i) hi.2 (by assumption) (fun q => by (try simp only [ncast] at *); omega), Bool.and_false]; done)
  | (exact lesA; done)
  | (refine ⟨by exact arA, sesGo_step hi.2 (by assumption) ⟨by assumption, ?_, by assumption, by assumption⟩⟩; (try simp only [ncast] at *); omega)
  | (refine led_bo ?_; rw [sesGo_end hi.2 (by exact arA), Bool.and_true]; first | exact (decide_eq_true (by (try simp only [ncast] at *); omega)).symm | exact (decide_eq_false (by (try simp only [ncast] at *); omega)).symm)
  | trace_state
def sgT (b : Bool) : ByteArray := if b = true then ⟨#[43]⟩ else ⟨#[45]⟩
def sesT (x : GSession) : ByteArray := ⟨#[32]⟩ ++ sI x.Client ++ ⟨#[46]⟩ ++ sI x.Seq ++ sgT x.Result.Done ++ sI x.Result.Value
def sesL (l : List GSession) : List UInt8 := l.flatMap (fun x => (sesT x).data.toList)
def mchT (m : GMachine) : ByteArray := if validM m = true then ⟨((fS m.Objects).data.toList ++ sesL m.Sessions).toArray⟩ else ⟨#[]⟩
theorem validM_spec {m : GMachine} (h : validM m = true) : m.Objects.length = 3 ∧ (∀ v ∈ m.Objects, 0 ≤ v ∧ v ≤ 9) ∧ m.Sessions.length ≤ 3 ∧ (∀ x ∈ m.Sessions, (0 ≤ x.Client ∧ x.Client ≤ 2) ∧ (1 ≤ x.Seq ∧ x.Seq ≤ 99) ∧ (0 ≤ x.Result.Value ∧ x.Result.Value ≤ 9)) ∧ sesGo (-1) m.Sessions = true := by
 rw [validM, Bool.and_eq_true, Bool.and_eq_true] at h
 obtain ⟨⟨h1, h2⟩, h3⟩ := h
 have h4 := sesGo_spec h3 (by omega)
 refine ⟨of_decide_eq_true h1, fun v hv => of_decide_eq_true (List.all_eq_true.1 h2 v hv), by have := h4.1; omega, fun x hx => ?_, h3⟩
 have h5 := of_decide_eq_true (h4.2 x hx)
 exact ⟨h5.1, h5.2.2.1, h5.2.2.2⟩
theorem sesT_size {x : GSession} (h : (0 ≤ x.Client ∧ x.Client ≤ 2) ∧ (1 ≤ x.Seq ∧ x.Seq ≤ 99) ∧ (0 ≤ x.Result.Value ∧ x.Result.Value ≤ 9)) : (sI x.Client).size ≤ 2 ∧ (sI x.Seq).size ≤ 2 ∧ (sI x.Result.Value).size ≤ 2 ∧ (sgT x.Result.Done).size = 1 := by
 refine ⟨(sI_size (by omega) (by omega)).2, (sI_size (by omega) (by omega)).2, (sI_size (by omega) (by omega)).2, ?_⟩
 unfold sgT
 split <;> rfl
theorem sesL_snoc {l : List GSession} {i : Nat} {x : GSession} (hx : l[i]? = some x) : sesL (l.take (i + 1)) = sesL (l.take i) ++ (sesT x).data.toList := by
 rw [sesL, List.take_add_one, hx, List.flatMap_append]
 simp [sesL]
theorem sesT_impl (u : ByteArray) (c q v : Int) (d : Bool) : u ++ sesT ⟨c, q, ⟨d, v⟩⟩ = u ++ (⟨#[32]⟩ ++ sI c ++ ⟨#[46]⟩ ++ sI q ++ (if d = true then ⟨#[43]⟩ else ⟨#[45]⟩) ++ sI v) := rfl
theorem sesT_spec (u : ByteArray) (c q v : Int) (d : Bool) : u ++ sesT ⟨c, q, ⟨d, v⟩⟩ = u ++ ⟨#[32]⟩ ++ sI c ++ ⟨#[46]⟩ ++ sI q ++ (if d = true then ⟨#[43]⟩ else ⟨#[45]⟩) ++ sI v := by
 refine bytes_ext ?_
 simp [sesT, sgT]
theorem size_lit {b : UInt8} : (⟨#[b]⟩ : ByteArray).size = 1 := rfl
set_option maxHeartbeats 2000000 in
theorem w_impl_FormatMachine (m : GMachine) (hb : bMachine m) : Fn Pr n_impl_FormatMachine [aGMachine m] (.str (fun _ => mchT m)) := by
 refine k_impl_FormatMachine.fn (by kernel_rfl) ?_
 conv=>arg 4;cbv
 refine Sat.callb (w_impl_IsValidMachine m hb) rfl ledA (fun hV => ?_) (fun hV => ?_)
 rotate_left
 ·conv=>arg 4;cbv
  refine Sat.done (.str ?_)
  rw [mchT, if_neg (by rw [hV]; exact Bool.false_ne_true)]
 obtain ⟨h3, hv, hl3, hs, _⟩ := validM_spec hV
 conv=>arg 4;cbv
 refine Sat.loopP (ι := Nat × ByteArray) (fun i => [(15, .int .i64 (fun _ => (i.1 : Int))), (3, .str (fun _ => i.2))]) (fun i => []) (fun i => i.1 ≤ m.Objects.length ∧ i.2 = fS (m.Objects.take i.1) ∧ i.2.size ≤ 2 * i.1) (fun i => m.Objects.length - i.1) (0, ⟨#[]⟩) ?_ ⟨by simp only; omega, rfl, Nat.le_refl _⟩ (fun y hy => ?_)
 ·exact lesA
 obtain ⟨i, s⟩ := y
 obtain ⟨hi, hs1, hs2⟩ := hy
 simp only at hi hs1 hs2
 conv=>arg 4;cbv
 refine Sat.cmp (fun h => ?_) (fun h => ?_) <;> simp only [Cmp.holds] at h
 ·conv=>arg 4;cbv
  refine Sat.need (by (try dsimp only); exact arA) ?_
  conv=>arg 4;cbv
  refine Sat.idx (by (try dsimp only); exact arA) (fun v hv1 => ?_)
  have hv1 : m.Objects[i]? = some v := by simpa using hv1
  have hr := hv v (List.mem_of_getElem? hv1)
  have hz := (sI_size (n := v) (by omega) (by omega)).2
  conv=>arg 4;cbv
  refine Sat.call (w_impl_FormatIntG v (by omega) (by omega)) rfl ledA ?_
  conv=>arg 4;cbv
  refine Sat.need (by (try dsimp only); omega) ?_
  conv=>arg 4;cbv
  refine Sat.ari64 (by (try dsimp only); exact arA) (by (try dsimp only); exact arA) ?_
  conv=>arg 4;cbv
  refine Sat.next (i + 1, s ++ sI v) ?_ ⟨by exact arA, fS_snoc hs1 hv1, by (try dsimp only); rw [ByteArray.size_append]; omega⟩ (by (try dsimp only); exact arA)
  exact lesA
 have hie : i = m.Objects.length := by exact arA
 conv=>arg 4;cbv
 refine Sat.pop ?_
 have hs3 : s = fS m.Objects := by rw [hs1, hie, List.take_length]
 have hs6 : s.size ≤ 6 := by omega
 clear hs1 hs2 h hi
 conv=>arg 4;cbv
 refine Sat.loopP (ι := Nat × ByteArray) (fun i => [(27, .int .i64 (fun _ => (i.1 : Int))), (3, .str (fun _ => i.2))]) (fun i => []) (fun i => i.1 ≤ m.Sessions.length ∧ i.2.data.toList = (fS m.Objects).data.toList ++ sesL (m.Sessions.take i.1) ∧ i.2.size ≤ 6 + 20 * i.1) (fun i => m.Sessions.length - i.1) (0, s) ?_ ⟨by simp only; omega, by simp [sesL, hs3], hs6⟩ (fun y hy => ?_)
 ·exact lesA
 obtain ⟨j, u⟩ := y
 obtain ⟨hj, hu1, hu2⟩ := hy
 simp only at hj hu1 hu2
 conv=>arg 4;cbv
 refine Sat.cmp (fun h => ?_) (fun h => ?_) <;> simp only [Cmp.holds] at h
 ·conv=>arg 4;cbv
  refine Sat.need (by (try dsimp only); exact arA) ?_
  conv=>arg 4;cbv
  refine Sat.idx (by (try dsimp only); exact arA) (fun x hx => ?_)
  have hx : m.Sessions[j]? = some x := by simpa using hx
  have hr := hs x (List.mem_of_getElem? hx)
  have hsn := sesL_snoc hx
  obtain ⟨z1, z2, z3, z4⟩ := sesT_size hr
  have hux : (u ++ sesT x).data.toList = (fS m.Objects).data.toList ++ sesL (m.Sessions.take (j + 1)) := by
   rw [hsn, ← List.append_assoc, ← hu1]; simp
  have huz : (u ++ sesT x).size ≤ 6 + 20 * (j + 1) := by
   simp only [sesT, ByteArray.size_append, size_lit, z4]
   omega
  obtain ⟨xc, xq, xd, xv⟩ := x
  dsimp only at z1 z2 z3 z4 hr
  have e1 := sesT_impl u xc xq xv
  cases xd
  all_goals conv=>arg 4;cbv
  all_goals repeat' first
   | (refine Sat.call (w_impl_FormatIntG xc (by omega) (by omega)) rfl ledA ?_; conv=>arg 4;cbv)
   | (refine Sat.call (w_impl_FormatIntG xq (by omega) (by omega)) rfl ledA ?_; conv=>arg 4;cbv)
   | (refine Sat.call (w_impl_FormatIntG xv (by omega) (by omega)) rfl ledA ?_; conv=>arg 4;cbv)
   | (refine Sat.need (by (try dsimp only); simp only [ByteArray.size_append, size_lit]; omega) ?_; conv=>arg 4;cbv)
   | (refine Sat.ari64 (by (try dsimp only); exact arA) (by (try dsimp only); exact arA) ?_; conv=>arg 4;cbv)
   | refine Sat.next (j + 1, u ++ sesT ⟨xc, xq, ⟨_, xv⟩⟩) ?_ ⟨by exact arA, hux, huz⟩ (by (try dsimp only); exact arA)
  ·rw [(e1 false).trans (by rfl)]
   exact lesA
  ·rw [(e1 true).trans (by rfl)]
   exact lesA
 ·conv=>arg 4;cbv
  refine Sat.pop ?_
  conv=>arg 4;cbv
  refine Sat.done (.str ?_)
  have hje : j = m.Sessions.length := by exact arA
  refine bytes_ext ?_
  rw [mchT, if_pos hV]
  show u.data.toList = _
  rw [hu1, hje, List.take_length]
set_option maxHeartbeats 2000000 in
theorem w_spec_FormatMachine (m : GMachine) (hb : bMachine m) : Fn Pr n_spec_FormatMachine [aGMachine m] (.str (fun _ => mchT m)) := by
 refine k_spec_FormatMachine.fn (by kernel_rfl) ?_
 conv=>arg 4;cbv
 refine Sat.callb (w_spec_IsValidMachine m hb) rfl ledA (fun hV => ?_) (fun hV => ?_)
 rotate_left
 ·conv=>arg 4;cbv
  refine Sat.done (.str ?_)
  rw [mchT, if_neg (by rw [hV]; exact Bool.false_ne_true)]
 obtain ⟨h3, hv, hl3, hs, _⟩ := validM_spec hV
 conv=>arg 4;cbv
 refine Sat.loopP (ι := Nat × ByteArray) (fun i => [(4, .int .i64 (fun _ => (i.1 : Int))), (3, .str (fun _ => i.2))]) (fun i => []) (fun i => i.1 ≤ m.Objects.length ∧ i.2 = fS (m.Objects.take i.1) ∧ i.2.size ≤ 2 * i.1) (fun i => m.Objects.length - i.1) (0, ⟨#[]⟩) ?_ ⟨by simp only; omega, rfl, Nat.le_refl _⟩ (fun y hy => ?_)
 ·exact lesA
 obtain ⟨i, s⟩ := y
 obtain ⟨hi, hs1, hs2⟩ := hy
 simp only at hi hs1 hs2
 conv=>arg 4;cbv
 refine Sat.cmp (fun h => ?_) (fun h => ?_) <;> simp only [Cmp.holds] at h
 ·conv=>arg 4;cbv
  refine Sat.need (by (try dsimp only); exact arA) ?_
  conv=>arg 4;cbv
  refine Sat.idx (by (try dsimp only); exact arA) (fun v hv1 => ?_)
  have hv1 : m.Objects[i]? = some v := by simpa using hv1
  have hr := hv v (List.mem_of_getElem? hv1)
  have hz := (sI_size (n := v) (by omega) (by omega)).2
  conv=>arg 4;cbv
  refine Sat.call (w_spec_FormatIntG v (by omega) (by omega)) rfl ledA ?_
  conv=>arg 4;cbv
  refine Sat.need (by (try dsimp only); omega) ?_
  conv=>arg 4;cbv
  refine Sat.ari64 (by (try dsimp only); exact arA) (by (try dsimp only); exact arA) ?_
  conv=>arg 4;cbv
  refine Sat.next (i + 1, s ++ sI v) ?_ ⟨by exact arA, fS_snoc hs1 hv1, by (try dsimp only); rw [ByteArray.size_append]; omega⟩ (by (try dsimp only); exact arA)
  exact lesA
 have hie : i = m.Objects.length := by exact arA
 conv=>arg 4;cbv
 refine Sat.pop ?_
 have hs3 : s = fS m.Objects := by rw [hs1, hie, List.take_length]
 have hs6 : s.size ≤ 6 := by omega
 clear hs1 hs2 h hi
 conv=>arg 4;cbv
 refine Sat.loopP (ι := Nat × ByteArray) (fun i => [(5, .int .i64 (fun _ => (i.1 : Int))), (3, .str (fun _ => i.2))]) (fun i => []) (fun i => i.1 ≤ m.Sessions.length ∧ i.2.data.toList = (fS m.Objects).data.toList ++ sesL (m.Sessions.take i.1) ∧ i.2.size ≤ 6 + 20 * i.1) (fun i => m.Sessions.length - i.1) (0, s) ?_ ⟨by simp only; omega, by simp [sesL, hs3], hs6⟩ (fun y hy => ?_)
 ·exact lesA
 obtain ⟨j, u⟩ := y
 obtain ⟨hj, hu1, hu2⟩ := hy
 simp only at hj hu1 hu2
 conv=>arg 4;cbv
 refine Sat.cmp (fun h => ?_) (fun h => ?_) <;> simp only [Cmp.holds] at h
 ·conv=>arg 4;cbv
  refine Sat.need (by (try dsimp only); exact arA) ?_
  conv=>arg 4;cbv
  refine Sat.idx (by (try dsimp only); exact arA) (fun x hx => ?_)
  have hx : m.Sessions[j]? = some x := by simpa using hx
  have hr := hs x (List.mem_of_getElem? hx)
  have hsn := sesL_snoc hx
  obtain ⟨z1, z2, z3, z4⟩ := sesT_size hr
  have hux : (u ++ sesT x).data.toList = (fS m.Objects).data.toList ++ sesL (m.Sessions.take (j + 1)) := by
   rw [hsn, ← List.append_assoc, ← hu1]; simp
  have huz : (u ++ sesT x).size ≤ 6 + 20 * (j + 1) := by
   simp only [sesT, ByteArray.size_append, size_lit, z4]
   omega
  obtain ⟨xc, xq, xd, xv⟩ := x
  dsimp only at z1 z2 z3 z4 hr
  have e1 := sesT_spec u xc xq xv
  cases xd
  all_goals conv=>arg 4;cbv
  all_goals repeat' first
   | (refine Sat.call (w_spec_FormatIntG xc (by omega) (by omega)) rfl ledA ?_; conv=>arg 4;cbv)
   | (refine Sat.call (w_spec_FormatIntG xq (by omega) (by omega)) rfl ledA ?_; conv=>arg 4;cbv)
   | (refine Sat.call (w_spec_FormatIntG xv (by omega) (by omega)) rfl ledA ?_; conv=>arg 4;cbv)
   | (refine Sat.need (by (try dsimp only); simp only [ByteArray.size_append, size_lit]; omega) ?_; conv=>arg 4;cbv)
   | (refine Sat.ari64 (by (try dsimp only); exact arA) (by (try dsimp only); exact arA) ?_; conv=>arg 4;cbv)
   | refine Sat.next (j + 1, u ++ sesT ⟨xc, xq, ⟨_, xv⟩⟩) ?_ ⟨by exact arA, hux, huz⟩ (by (try dsimp only); exact arA)
  ·rw [(e1 false).trans (by rfl)]
   exact lesA
  ·rw [(e1 true).trans (by rfl)]
   exact lesA
 ·conv=>arg 4;cbv
  refine Sat.pop ?_
  conv=>arg 4;cbv
  refine Sat.done (.str ?_)
  have hje : j = m.Sessions.length := by exact arA
  refine bytes_ext ?_
  rw [mchT, if_pos hV]
  show u.data.toList = _
  rw [hu1, hje, List.take_length]
--import Derived.Shelf.Strings.Cut
theorem below_drew {w : World} {n : Nat} : Below w.heap.size w (w.drewN n) := ⟨rfl, rfl, rfl, Nat.le_refl _, fun _ _ => rfl⟩
theorem str_of {w : World} {s : ByteArray} {v : Value} {f : List Nat} (h : Deep w (.str (fun _ => s)) v f) : v = .string s := by cases h; rfl
theorem vs2 {vs : Array Value} (hsz : vs.size = 2) {a b : Value} (ha : vs.getD 0 Go.undef = a) (hb : vs.getD 1 Go.undef = b) : vs = #[a, b] := by
 rw [← ha, ← hb]
 apply Array.ext_getElem?
 intro i
 cases i with
 | zero => rw [Array.getD_eq_getD_getElem?, Array.getElem?_eq_getElem (by omega)]; rfl
 | succ i =>
   cases i with
   | zero => rw [Array.getD_eq_getD_getElem? (i := 1), Array.getElem?_eq_getElem (by omega)]; rfl
   | succ i => rw [Array.getElem?_eq_none (by omega), Array.getElem?_eq_none (by simp)]
theorem vs3 {vs : Array Value} (hsz : vs.size = 3) {a b c : Value} (ha : vs.getD 0 Go.undef = a) (hb : vs.getD 1 Go.undef = b) (hc : vs.getD 2 Go.undef = c) : vs = #[a, b, c] := by
 rw [← ha, ← hb, ← hc]
 apply Array.ext_getElem?
 intro i
 match i with
 | 0 => rw [Array.getD_eq_getD_getElem?, Array.getElem?_eq_getElem (by omega)]; rfl
 | 1 => rw [Array.getD_eq_getD_getElem? (i := 1), Array.getElem?_eq_getElem (by omega)]; rfl
 | 2 => rw [Array.getD_eq_getD_getElem? (i := 2), Array.getElem?_eq_getElem (by omega)]; rfl
 | i + 3 => rw [Array.getElem?_eq_none (by omega), Array.getElem?_eq_none (by simp)]
def ctA (c : UInt8) (s : ByteArray) : ByteArray := ⟨(Lib.cut s.data.toList [c]).1.toArray⟩
def ctZ (c : UInt8) (s : ByteArray) : ByteArray := ⟨(Lib.cut s.data.toList [c]).2.1.toArray⟩
def ctF (c : UInt8) (s : ByteArray) : Bool := (Lib.cut s.data.toList [c]).2.2
theorem cut_len (c : UInt8) (l : List UInt8) : (Lib.cut l [c]).1.length ≤ l.length ∧ (Lib.cut l [c]).2.1.length ≤ l.length := by
 unfold Lib.cut
 split
 ·simp only [List.length_take, List.length_drop]
  omega
 ·simp only [List.length_nil]
  omega
theorem ct_size (c : UInt8) (s : ByteArray) : (ctA c s).size ≤ s.size ∧ (ctZ c s).size ≤ s.size := cut_len c s.data.toList
--import Derived.Shelf.Strings.Cut
theorem w_strings_Cut (c : UInt8) (s : ByteArray) (hs : s.size < 4294967281) : Fn Pr n_strings_Cut [.str (fun _ => s), .str (fun _ => ⟨#[c]⟩)] (.tup [.str (fun _ => ctA c s), .str (fun _ => ctZ c s), .bo (ctF c s)]) := by
 refine ⟨cl_strings_Cut, fun w vs F htb hsz hargs => ?_⟩
 rw [vs2 hsz (str_of (hargs 0 _ rfl)) (str_of (hargs 1 _ rfl))]
 obtain ⟨m, hm⟩ := htb.2 _ len_here
 refine (Go.Proofs.Any.strings_Cut layCut s ⟨#[c]⟩ m w hs hm).mono ?_
 rintro e w' ⟨rfl, n, rfl⟩
 refine ⟨_, [], rfl, ?_, List.nodup_nil, fun g hg => (by cases hg), below_drew⟩
 refine Deep.tup (fun _ => []) rfl (fun i x hx => ?_)
 match i, hx with
 | 0, hx => cases hx; exact .str _
 | 1, hx => cases hx; exact .str _
 | 2, hx => cases hx; exact .bo _
 | i + 3, hx => simp at hx
--import Derived.Shelf.Strings.IndexAnyAll
theorem w_strings_IndexAny (s : ByteArray) (hs : s.size < 4294967281) : Fn Pr n_strings_IndexAny [.str (fun _ => s), .str (fun _ => ⟨#[43, 45]⟩)] (.int .i64 (fun _ => Lib.indexAny s.data.toList [43, 45])) := by
 refine ⟨cl_strings_IndexAny, fun w vs F htb hsz hargs => ?_⟩
 rw [vs2 hsz (str_of (hargs 0 _ rfl)) (str_of (hargs 1 _ rfl))]
 have h116 : (Pr.info? (layIdxRen.t 116)).map (fun i => (i.zero, i.size)) = some (some (.agg (Array.replicate 256 (.bool false))), 256) := by kernel_rfl
 refine (IndexAny_pm layIdx (Go.zero_of_info h116).1 (Go.zero_of_info h116).2 s w hs).mono ?_
 rintro e w' ⟨rfl, hb⟩
 exact ⟨_, [], rfl, .int _ _, List.nodup_nil, fun g hg => (by cases hg), hb⟩
--import Derived.Shelf.Strings.Split
theorem w_strings_SplitN (c : UInt8) (n : Nat) (s : ByteArray) (hs : s.size < 4294967281) (hn : 1 ≤ n) (hn2 : n ≤ 1000) : Fn Pr n_strings_SplitN [.str (fun _ => s), .str (fun _ => ⟨#[c]⟩), .int .i64 (fun _ => (n : Int))] (.sl 1 encS (fun _ => Lib.splitB ⟨#[c]⟩ 0 (min n (s.size + 1) - 1) s)) := by
 refine ⟨cl_strings_SplitN, fun w vs F htb hsz hargs => ?_⟩
 have h2 : vs.getD 2 Go.undef = .int .i64 n := by
  have h := hargs 2 _ rfl
  generalize vs.getD 2 Go.undef = v at h
  generalize F 2 = f at h
  cases h
  rfl
 rw [vs3 hsz (str_of (hargs 0 _ rfl)) (str_of (hargs 1 _ rfl)) h2]
 obtain ⟨m, hm⟩ := htb.2 _ len_here
 refine (Go.Proofs.Any.strings_SplitN laySplitN (by kernel_rfl) s ⟨#[c]⟩ n m w hs hm (Nat.le_refl 1) hn (by omega)).mono ?_
 have hle := Lib.splitB_length_le ⟨#[c]⟩ 0 (min n (s.size + 1) - 1) s
 have hN : (Lib.splitB ⟨#[c]⟩ 0 (min n (s.size + 1) - 1) s).length ≤ min n (s.size + 1) := by omega
 generalize Lib.splitB ⟨#[c]⟩ 0 (min n (s.size + 1) - 1) s = l at hN
 generalize min n (s.size + 1) = N at hN
 rintro e w' ⟨rfl, rfl⟩
 generalize laySplitNRen.t 9 = ty
 have hg : (w.alloc (.cells (Lib.cellsOf l N) ty)).heap[w.heap.size]? = some (.cells (Lib.cellsOf l N) ty (0, 0)) := Array.getElem?_push_size
 have hd : Deep (w.alloc (.cells (Lib.cellsOf l N) ty)) (.sl 1 encS (fun _ => l)) (.slice (some ⟨w.heap.size, 0, none⟩) l.length N) (w.heap.size :: (List.range l.length).flatMap fun i => (List.range 1).flatMap (fun _ => [])) := by
  refine Deep.sl (xs := fun _ => l) (fun i _ => .string (l.getD i ByteArray.empty)) (fun _ _ => []) hN hg (by rw [Lib.cellsOf_size hN]; omega) (fun i x hx j hj => ?_) (fun i x hx j hj => ?_)
  ·have hx : l[i]? = some x := hx
   have : j = 0 := by omega
   subst this
   have hil : i < l.length := (List.getElem?_eq_some_iff.1 hx).1
   rw [Lib.cellsOf]
   simp only [Nat.zero_add, Nat.mul_one, Nat.add_zero, List.getElem?_toArray]
   rw [List.getElem?_append_left (by rw [List.length_map]; exact hil), List.getElem?_map, hx]
   simp [hx]
  ·have hx : l[i]? = some x := hx
   have e : l.getD i ByteArray.empty = x := by simp [hx]
   show Deep _ (.str (fun _ => x)) (.string (l.getD i ByteArray.empty)) []
   rw [e]
   exact .str _
 have hfp : (w.heap.size :: (List.range l.length).flatMap fun i => (List.range 1).flatMap (fun _ => ([] : List Nat))) = [w.heap.size] := by
  congr 1
  exact List.flatMap_eq_nil_iff.2 (fun i _ => rfl)
 rw [hfp] at hd
 refine ⟨_, _, rfl, hd, by simp, fun g hgm => ?_, Below.alloc (Below.refl _ _) (Nat.le_refl _) _⟩
 rw [List.mem_singleton] at hgm
 subst hgm
 exact ⟨Nat.le_refl _, _, _, hg⟩
--import Derived.Shelf.Strings.IndexAnyAll
def wAt (w : ByteArray) : Int := Lib.indexAny (ctZ 46 w).data.toList [43, 45]
def wS (w : ByteArray) : Option GSession := if wAt w < 0 then none else some ⟨pNum (ctA 46 w), pNum ((ctZ 46 w).extract 0 (wAt w).toNat), ⟨decide ((ctZ 46 w).get! (wAt w).toNat = 43), pNum ((ctZ 46 w).extract (wAt w + 1).toNat (ctZ 46 w).size)⟩⟩
def allW : List ByteArray → Option (List GSession)
 | [] => some []
 | w :: r => match wS w, allW r with
   | some x, some l => some (x :: l)
   | _, _ => none
def zeroM : GMachine := ⟨[], []⟩
def pMf (s v : ByteArray) : Option (List GSession) → GMachine × Bool
 | none => (zeroM, false)
 | some l => if s = ⟨#[]⟩ ∨ mchT ⟨sv v, l⟩ ≠ s then (zeroM, false) else (⟨sv v, l⟩, true)
def pMg (s : ByteArray) : List ByteArray → GMachine × Bool
 | [] => (zeroM, false)
 | v :: r => pMf s v (allW r)
def pM (s : ByteArray) : GMachine × Bool := pMg s (cutB 32 s)
theorem allW_zero (ws : List ByteArray) : allW ws = (allW (ws.drop 0)).map (([] : List GSession) ++ ·) := by
 rw [List.drop_zero]
 cases allW ws <;> rfl
theorem allW_step {ws : List ByteArray} {i : Nat} {w : ByteArray} {x : GSession} {acc : List GSession} (h : allW ws = (allW (ws.drop i)).map (acc ++ ·)) (hw : ws[i]? = some w) (hx : wS w = some x) : allW ws = (allW (ws.drop (i + 1))).map ((acc ++ [x]) ++ ·) := by
 rw [h, drop_get hw, allW, hx]
 cases allW (ws.drop (i + 1)) with
 | none => rfl
 | some l => simp
theorem allW_none {ws : List ByteArray} {i : Nat} {w : ByteArray} {acc : List GSession} (h : allW ws = (allW (ws.drop i)).map (acc ++ ·)) (hw : ws[i]? = some w) (hx : wS w = none) : allW ws = none := by
 rw [h, drop_get hw, allW, hx]
 rfl
theorem allW_end {ws : List ByteArray} {i : Nat} {acc : List GSession} (h : allW ws = (allW (ws.drop i)).map (acc ++ ·)) (hi : i = ws.length) : allW ws = some acc := by
 rw [h, hi, List.drop_length, allW]
 simp
theorem pM_none {s v : ByteArray} {r : List ByteArray} (hc : cutB 32 s = v :: r) (h : allW r = none) : pM s = (zeroM, false) := by rw [pM, hc, pMg, h, pMf]
theorem pM_bad {s v : ByteArray} {r : List ByteArray} {l : List GSession} (hc : cutB 32 s = v :: r) (h : allW r = some l) (hb : s = ⟨#[]⟩ ∨ mchT ⟨sv v, l⟩ ≠ s) : pM s = (zeroM, false) := by
 rw [pM, hc, pMg, h, pMf, if_pos hb]
theorem pM_ok {s v : ByteArray} {r : List ByteArray} {l : List GSession} (hc : cutB 32 s = v :: r) (h : allW r = some l) (h1 : s ≠ ⟨#[]⟩) (h2 : mchT ⟨sv v, l⟩ = s) : pM s = (⟨sv v, l⟩, true) := by
 rw [pM, hc, pMg, h, pMf, if_neg (fun hb => hb.elim h1 (fun hc => hc h2))]
theorem wAt_rng (w : ByteArray) : -1 ≤ wAt w ∧ wAt w < (ctZ 46 w).size := by
 refine ⟨Lib.indexAny_ge _ _, ?_⟩
 have : ∀ l : List UInt8, Lib.indexAny l [43, 45] < l.length := by
  intro l
  induction l with
  | nil => simp [Lib.indexAny]
  | cons b r ih =>
    rw [Lib.indexAny]
    simp only [List.length_cons]
    split
    ·omega
    ·split <;> omega
 exact this _
theorem cons_of_len {α : Type} {l : List α} (h : 1 ≤ l.length) : ∃ a r, l = a :: r := by
 cases l with
 | nil => simp at h
 | cons a r => exact ⟨a, r, rfl⟩
theorem byte_43 {b : UInt8} (h : (b.toNat : Int) = 43) : b = 43 := by
 apply UInt8.toNat_inj.1
 show b.toNat = 43
 omega
theorem byte_n43 {b : UInt8} (h : ¬ (b.toNat : Int) = 43) : b ≠ 43 := fun e => h (by rw [e]; rfl)
theorem led_zeroM : LeD (.agg [.nil, .nil]) (aGMachine zeroM) := .agg rfl (led_cons (.nil rfl) (led_cons (.nil rfl) led_nil))
theorem led_mch (o : List Int) (l : List GSession) : LeD (.agg [.sl 1 (encI .i64) (fun _ => List.take o.length (List.drop 0 o)), .sl 4 eGSession (fun _ => List.take l.length (List.drop 0 l))]) (aGMachine ⟨o, l⟩) := .agg rfl (led_cons (.sl (tkdr _)) (led_cons (.sl (tkdr _)) led_nil))
theorem flat_GSession (y : GSession) (j : Nat) (hj : j < 4) : flat (eGSession y j) = true := by
 match j, hj with
 | 0, _ | 1, _ | 2, _ | 3, _ => rfl
 | j + 4, h => omega
theorem ext_size (s : ByteArray) (a b : Nat) : (s.extract a b).size ≤ s.size := by
 rw [ByteArray.size_extract]
 omega
set_option maxHeartbeats 2000000 in
theorem w_impl_ParseMachine (s : ByteArray) (hs : s.size ≤ 1048576) : Fn Pr n_impl_ParseMachine [.str (fun _ => s)] (.tup [aGMachine (pM s).1, .bo (pM s).2]) := by
 have hcl := cutB_len 32 s
 obtain ⟨v0, ws, hc⟩ := cons_of_len hcl.2
 have hv0 := cutB_size (c := 32) (s := s) (x := v0) (by rw [hc]; simp)
 have hws : ∀ w ∈ ws, w.size ≤ s.size := fun w hw => cutB_size (c := 32) (s := s) (x := w) (by rw [hc]; simp [hw])
 have hwl : ws.length ≤ s.size := by rw [hc] at hcl; simp only [List.length_cons] at hcl; omega
 have hsvl := sv_len v0
 have HSP := w_strings_SplitC 32 s (by omega)
 rw [hc] at HSP
 refine k_impl_ParseMachine.fn (by kernel_rfl) ?_
 conv=>arg 4;cbv
 refine Sat.call HSP rfl ledA ?_
 conv=>arg 4;cbv
 refine Sat.need (by (try dsimp only); exact arA) ?_
 conv=>arg 4;cbv
 refine Sat.idx (by (try dsimp only); exact arA) (fun v hv => ?_)
 obtain rfl : v = v0 := (Option.some.inj hv).symm
 conv=>arg 4;cbv
 refine Sat.loopP (ι := Nat) (fun i => [(20, .int .i64 (fun _ => (i : Int)))]) (fun i => [(80, .lit 0 [.ref 96 (fun _ => 0) (fun _ => ((sv v).take i).length), .nil]), (96, .row 1 (encI .i64) (fun _ => (sv v).take i) false)]) (fun i => i ≤ v.size) (fun i => v.size - i) 0 ?_ (Nat.zero_le _) (fun i hi => ?_)
 ·refine les_of ?_ ?_ rfl
  iterate 2 (focus repeat' (first | exact trivial | refine And.intro ?_ ?_ | exact levA | refine lev_cons ?_ ?_ | refine LeV.agg rfl ?_ | exact Nat.le_of_ble_eq_true rfl | exact Or.inl ⟨_, rfl, .row rfl⟩ | refine Or.inl ⟨_, rfl, .row ?_⟩ | refine Or.inl ⟨_, rfl, .lit rfl ?_⟩ | exact Or.inr ⟨rfl, rfl⟩ | (first | exact .nilref (fun h => nomatch h) rfl rfl rfl | rfl)))
 have htl : ((sv v).take i).length = i := by rw [List.length_take]; omega
 conv=>arg 4;cbv
 refine Sat.cmp (fun h5 => ?_) (fun h5 => ?_) <;> simp only [Cmp.holds] at h5
 ·have hi2 : i < v.size := by exact arA
  have hb : v.data.toList[i]? = some (v.get! (Int.toNat (i : Int))) := byte_at hi2
  have h256 : (v.get! (Int.toNat (i : Int))).toNat < 256 := UInt8.toNat_lt _
  have hsn := sv_snoc hb
  conv=>arg 4;cbv
  refine Sat.need (by (try dsimp only); exact arA) ?_
  conv=>arg 4;cbv
  refine Sat.idx (by (try dsimp only); exact arA) (fun v2 hv2 => ?_)
  obtain rfl : v2 = v := (Option.some.inj hv2).symm
  conv=>arg 4;cbv
  refine Sat.need (by (try dsimp only); exact arA) ?_
  conv=>arg 4;cbv
  refine Sat.ari64 (by (try dsimp only); exact arA) (by (try dsimp only); exact arA) ?_
  conv=>arg 4;cbv
  refine Sat.ari64 (by (try dsimp only); exact arA) (by (try dsimp only); exact arA) ?_
  conv=>arg 4;cbv
  refine Sat.need ⟨rfl, fun y _ j _ => rfl, (by (try dsimp only); exact arA)⟩ ?_
  conv=>arg 4;cbv
  refine Sat.same ?_
  conv=>arg 4;cbv
  refine Sat.ari64 (by (try dsimp only); exact arA) (by (try dsimp only); exact arA) ?_
  conv=>arg 4;cbv
  refine Sat.next (i + 1) ?_ (by exact arA) (by (try dsimp only); exact arA)
  have e7 : (sv v2).take (i + 1) = List.take ((sv v2).take i).length ((sv v2).take i) ++ List.take 1 (List.drop 0 [((v2.get! (Int.toNat (i : Int))).toNat : Int) - 48]) := by
   rw [List.take_length, hsn]; rfl
  refine les_of ?_ ?_ rfl
  iterate 2 (focus repeat' (first | exact trivial | refine And.intro ?_ ?_ | exact levA | refine lev_cons ?_ ?_ | refine LeV.agg rfl ?_ | exact Nat.le_of_ble_eq_true rfl | exact Or.inl ⟨_, rfl, .row rfl⟩ | refine Or.inl ⟨_, rfl, .row ?_⟩ | refine Or.inl ⟨_, rfl, .lit rfl ?_⟩ | exact Or.inr ⟨rfl, rfl⟩ | (first | exact .ref (fun h => nomatch h) (fun h => nomatch h) rfl (by (try dsimp only); rw [hsn]; simp) | exact e7.symm)))
 have hie : i = v.size := by exact arA
 have hta : (sv v).take i = sv v := by rw [hie, ← hsvl]; exact List.take_length
 conv=>arg 4;cbv
 refine Sat.pop ?_
 rw [hta]
 clear hta hie h5 htl hi
 conv=>arg 4;cbv
 refine Sat.need (by (try dsimp only); exact arA) ?_
 conv=>arg 4;cbv
 refine Sat.loopP (ι := Nat × List GSession) (fun x => [(39, .int .i64 (fun _ => (x.1 : Int)))]) (fun x => [(80, .lit 0 [.ref 96 (fun _ => 0) (fun _ => (sv v).length), .ref 112 (fun _ => 0) (fun _ => x.2.length)]), (112, .row 4 eGSession (fun _ => x.2) false)]) (fun x => x.1 ≤ ws.length ∧ x.2.length = x.1 ∧ allW ws = (allW (ws.drop x.1)).map (x.2 ++ ·)) (fun x => ws.length - x.1) (0, []) ?_ ⟨Nat.zero_le _, rfl, allW_zero ws⟩ (fun x hx => ?_)
 ·refine les_of ?_ ?_ rfl
  iterate 2 (focus repeat' (first | exact trivial | refine And.intro ?_ ?_ | exact levA | refine lev_cons ?_ ?_ | refine LeV.agg rfl ?_ | exact Nat.le_of_ble_eq_true rfl | exact Or.inl ⟨_, rfl, .row rfl⟩ | refine Or.inl ⟨_, rfl, .row ?_⟩ | refine Or.inl ⟨_, rfl, .lit rfl ?_⟩ | exact Or.inr ⟨rfl, rfl⟩ | (first | exact .nilref (fun h => nomatch h) rfl rfl rfl | rfl)))
 obtain ⟨j, acc⟩ := x
 obtain ⟨hj, hal, haw⟩ := hx
 simp only at hj hal haw
 have hwl1 : (v :: ws).length = ws.length + 1 := rfl
 conv=>arg 4;cbv
 refine Sat.cmp (fun h5 => ?_) (fun h5 => ?_) <;> simp only [Cmp.holds] at h5
 ·have hj2 : j < ws.length := by exact arA
  conv=>arg 4;cbv
  refine Sat.need (by (try dsimp only); exact arA) ?_
  conv=>arg 4;cbv
  refine Sat.idx (by (try dsimp only); exact arA) (fun w hw => ?_)
  have hw : ws[j]? = some w := by
   have e : (1 + Int.toNat (j : Int)) = j + 1 := by omega
   have hw' : (v :: ws)[1 + Int.toNat (j : Int)]? = some w := hw
   rw [e] at hw'
   exact hw'
  have hwz := hws w (List.mem_of_getElem? hw)
  have hct := ct_size 46 w
  have hat := wAt_rng w
  have WC := w_strings_Cut 46 w (by omega)
  generalize ctF 46 w = bf at WC
  conv=>arg 4;cbv
  refine Sat.call WC rfl ledA ?_
  conv=>arg 4;cbv
  refine Sat.call (w_strings_IndexAny (ctZ 46 w) (by omega)) rfl ledA ?_
  conv=>arg 4;cbv
  refine Sat.cmp (fun h6 => ?_) (fun h6 => ?_) <;> simp only [Cmp.holds] at h6
  ·have h6 : wAt w < 0 := h6
   conv=>arg 4;cbv
   refine Sat.pop ?_
   conv=>arg 4;cbv
   refine Sat.done ?_
   rw [pM_none hc (allW_none haw hw (by rw [wS, if_pos h6]))]
   exact .tup rfl (led_cons led_zeroM (led_cons (.same _) led_nil))
  have h6 : ¬ wAt w < 0 := h6
  conv=>arg 4;cbv
  refine Sat.call (w_impl_number (ctA 46 w) (by omega)) rfl ledA ?_
  conv=>arg 4;cbv
  refine Sat.need (by show 0 ≤ wAt w ∧ wAt w ≤ ((ctZ 46 w).size : Int); omega) ?_
  conv=>arg 4;cbv
  have hes1 := ext_size (ctZ 46 w) 0 (wAt w).toNat
  have hes2 := ext_size (ctZ 46 w) (wAt w + 1).toNat (ctZ 46 w).size
  refine Sat.call (w_impl_number ((ctZ 46 w).extract 0 (wAt w).toNat) (by omega)) rfl ledA ?_
  conv=>arg 4;cbv
  refine Sat.need (by show 0 ≤ wAt w ∧ wAt w < ((ctZ 46 w).size : Int); omega) ?_
  conv=>arg 4;cbv
  refine Sat.cmp (fun h7 => ?_) (fun h7 => ?_) <;> simp only [Cmp.holds] at h7
  ·have hb7 : (ctZ 46 w).get! (wAt w).toNat = 43 := byte_43 h7
   have hx : wS w = some ⟨pNum (ctA 46 w), pNum ((ctZ 46 w).extract 0 (wAt w).toNat), ⟨true, pNum ((ctZ 46 w).extract (wAt w + 1).toNat (ctZ 46 w).size)⟩⟩ := by
    rw [wS, if_neg h6, decide_eq_true hb7]
   have hbl : bSessionS (acc ++ [⟨pNum (ctA 46 w), pNum ((ctZ 46 w).extract 0 (wAt w).toNat), ⟨true, pNum ((ctZ 46 w).extract (wAt w + 1).toNat (ctZ 46 w).size)⟩⟩]) := by
    show (acc ++ [_]).length * 32 ≤ 140737488351232
    rw [List.length_append, List.length_singleton]
    omega
   conv=>arg 4;cbv
   refine Sat.ari64 (by show -9223372036854775808 ≤ wAt w + 1; omega) (by show wAt w + 1 ≤ 9223372036854775807; omega) ?_
   conv=>arg 4;cbv
   refine Sat.need (by show 0 ≤ wAt w + 1 ∧ wAt w + 1 ≤ ((ctZ 46 w).size : Int); omega) ?_
   conv=>arg 4;cbv
   refine Sat.call (w_impl_number ((ctZ 46 w).extract (wAt w + 1).toNat (ctZ 46 w).size) (by omega)) rfl ledA ?_
   conv=>arg 4;cbv
   refine Sat.need ⟨rfl, rfl, rfl, (by (try dsimp only); exact arA)⟩ ?_
   conv=>arg 4;cbv
   refine Sat.typed (⟨pNum (ctA 46 w), pNum ((ctZ 46 w).extract 0 (wAt w).toNat), ⟨true, pNum ((ctZ 46 w).extract (wAt w + 1).toNat (ctZ 46 w).size)⟩⟩ : GSession) tcA ?_
   conv=>arg 4;cbv
   refine Sat.ari64 (by (try dsimp only); exact arA) (by (try dsimp only); exact arA) ?_
   conv=>arg 4;cbv
   generalize (⟨pNum (ctA 46 w), pNum ((ctZ 46 w).extract 0 (wAt w).toNat), ⟨true, pNum ((ctZ 46 w).extract (wAt w + 1).toNat (ctZ 46 w).size)⟩⟩ : GSession) = x at *
   refine Sat.next (j + 1, acc ++ [x]) ?_ ⟨by exact arA, by (try dsimp only); rw [List.length_append, List.length_singleton]; omega, allW_step haw hw hx⟩ (by (try dsimp only); exact arA)
   have e7 : acc ++ [x] = List.take acc.length acc ++ List.take 1 (List.drop 0 [x]) := by rw [List.take_length]; rfl
   refine les_of ?_ ?_ rfl
   iterate 2 (focus repeat' (first | exact trivial | refine And.intro ?_ ?_ | exact levA | refine lev_cons ?_ ?_ | refine LeV.agg rfl ?_ | exact Nat.le_of_ble_eq_true rfl | exact Or.inl ⟨_, rfl, .row rfl⟩ | refine Or.inl ⟨_, rfl, .row ?_⟩ | refine Or.inl ⟨_, rfl, .lit rfl ?_⟩ | exact Or.inr ⟨rfl, rfl⟩ | (first | exact .ref (fun h => nomatch h) (fun h => nomatch h) rfl (by simp) | exact e7.symm)))
  ·have hb7 : (ctZ 46 w).get! (wAt w).toNat ≠ 43 := byte_n43 h7
   have hx : wS w = some ⟨pNum (ctA 46 w), pNum ((ctZ 46 w).extract 0 (wAt w).toNat), ⟨false, pNum ((ctZ 46 w).extract (wAt w + 1).toNat (ctZ 46 w).size)⟩⟩ := by
    rw [wS, if_neg h6, decide_eq_false hb7]
   have hbl : bSessionS (acc ++ [⟨pNum (ctA 46 w), pNum ((ctZ 46 w).extract 0 (wAt w).toNat), ⟨false, pNum ((ctZ 46 w).extract (wAt w + 1).toNat (ctZ 46 w).size)⟩⟩]) := by
    show (acc ++ [_]).length * 32 ≤ 140737488351232
    rw [List.length_append, List.length_singleton]
    omega
   conv=>arg 4;cbv
   refine Sat.ari64 (by show -9223372036854775808 ≤ wAt w + 1; omega) (by show wAt w + 1 ≤ 9223372036854775807; omega) ?_
   conv=>arg 4;cbv
   refine Sat.need (by show 0 ≤ wAt w + 1 ∧ wAt w + 1 ≤ ((ctZ 46 w).size : Int); omega) ?_
   conv=>arg 4;cbv
   refine Sat.call (w_impl_number ((ctZ 46 w).extract (wAt w + 1).toNat (ctZ 46 w).size) (by omega)) rfl ledA ?_
   conv=>arg 4;cbv
   refine Sat.need ⟨rfl, rfl, rfl, (by (try dsimp only); exact arA)⟩ ?_
   conv=>arg 4;cbv
   refine Sat.typed (⟨pNum (ctA 46 w), pNum ((ctZ 46 w).extract 0 (wAt w).toNat), ⟨false, pNum ((ctZ 46 w).extract (wAt w + 1).toNat (ctZ 46 w).size)⟩⟩ : GSession) tcA ?_
   conv=>arg 4;cbv
   refine Sat.ari64 (by (try dsimp only); exact arA) (by (try dsimp only); exact arA) ?_
   conv=>arg 4;cbv
   generalize (⟨pNum (ctA 46 w), pNum ((ctZ 46 w).extract 0 (wAt w).toNat), ⟨false, pNum ((ctZ 46 w).extract (wAt w + 1).toNat (ctZ 46 w).size)⟩⟩ : GSession) = x at *
   refine Sat.next (j + 1, acc ++ [x]) ?_ ⟨by exact arA, by (try dsimp only); rw [List.length_append, List.length_singleton]; omega, allW_step haw hw hx⟩ (by (try dsimp only); exact arA)
   have e7 : acc ++ [x] = List.take acc.length acc ++ List.take 1 (List.drop 0 [x]) := by rw [List.take_length]; rfl
   refine les_of ?_ ?_ rfl
   iterate 2 (focus repeat' (first | exact trivial | refine And.intro ?_ ?_ | exact levA | refine lev_cons ?_ ?_ | refine LeV.agg rfl ?_ | exact Nat.le_of_ble_eq_true rfl | exact Or.inl ⟨_, rfl, .row rfl⟩ | refine Or.inl ⟨_, rfl, .row ?_⟩ | refine Or.inl ⟨_, rfl, .lit rfl ?_⟩ | exact Or.inr ⟨rfl, rfl⟩ | (first | exact .ref (fun h => nomatch h) (fun h => nomatch h) rfl (by simp) | exact e7.symm)))
 have hje : j = ws.length := by exact arA
 have hae := allW_end haw hje
 have hbm : bMachine ⟨sv v, acc⟩ := ⟨by show (sv v).length * 8 ≤ 140737488351232; omega, by show acc.length * 32 ≤ 140737488351232; omega⟩
 conv=>arg 4;cbv
 refine Sat.pop ?_
 conv=>arg 4;cbv
 refine Sat.test (fun h => ?_) (fun h => ?_)
 ·have h := of_decide_eq_true h
  conv=>arg 4;cbv
  refine Sat.done ?_
  rw [pM_bad hc hae (.inl h)]
  exact .tup rfl (led_cons led_zeroM (led_cons (.same _) led_nil))
 have hne : s ≠ ⟨#[]⟩ := of_decide_eq_false h
 conv=>arg 4;cbv
 refine Sat.call (w_impl_FormatMachine ⟨sv v, acc⟩ hbm) rfl (led_one (led_mch (sv v) acc)) ?_
 conv=>arg 4;cbv
 refine Sat.test (fun h => ?_) (fun h => ?_)
 ·have h : mchT ⟨sv v, acc⟩ = s := of_decide_eq_true h
  conv=>arg 4;cbv
  refine Sat.done ?_
  rw [pM_ok hc hae hne h]
  exact .tup rfl (led_cons (led_mch (sv v) acc) (led_cons (.same _) led_nil))
 ·have h : ¬ mchT ⟨sv v, acc⟩ = s := of_decide_eq_false h
  conv=>arg 4;cbv
  refine Sat.done ?_
  rw [pM_bad hc hae (.inr h)]
  exact .tup rfl (led_cons led_zeroM (led_cons (.same _) led_nil))
theorem pNum_sI {n : Int} (h0 : 0 ≤ n) (h1 : n < 100) : pNum (sI n) = n ∧ pNum3 (sI n) = n := by
 obtain ⟨f1, _, f3⟩ := sI_form (s := sI n) rfl
 have hS : pS (sI n) = 1 := if_neg (f3 h0)
 have hV : pV (sI n) = n := by
  rw [pV, hS, f1, dv_dec]
  omega
 have hl := sI_size h0 h1
 have hz : (pT (sI n)).length = (sI n).size := by
  rw [f1, Lib.decDigits_length]
  have e : (sI n).data.toList.length = (sI n).size := rfl
  rw [← e, sI_list, Lib.itoa, if_neg (by omega), Lib.decDigits_length]
  congr 1
  omega
 have hy : pI (sI n) = (n, true) := by
  rw [pI_yes ⟨by omega, by omega, ?_, by rw [hV]⟩, hV]
  exact List.all_eq_true.2 (fun b hb => dec_isD _ b (by rw [← f1]; exact hb))
 have hn := pI_yes1 hy
 exact ⟨hn.1, by rw [hn.2, if_neg (by omega)]⟩
--import Derived.Shelf.Strings.IndexAnyAll
def dg (n : Int) : UInt8 := UInt8.ofNat (48 + n.toNat)
theorem dg_nat {n : Int} (h : 0 ≤ n ∧ n ≤ 9) : (dg n).toNat = 48 + n.toNat := dig_nat (by omega)
theorem dg_back {n : Int} (h : 0 ≤ n ∧ n ≤ 9) : ((dg n).toNat : Int) - 48 = n := by rw [dg_nat h]; omega
theorem sI_dg {n : Int} (h : 0 ≤ n ∧ n ≤ 9) : (sI n).data.toList = [dg n] := by rw [sI_list, Lib.itoa, if_neg (by omega), Lib.decDigits_one (by omega)]; rfl
theorem dg_ne {n : Int} (h : 0 ≤ n ∧ n ≤ 9) {b : UInt8} (hb : b.toNat < 48) : dg n ≠ b := fun e => by
 have := dg_nat h
 rw [e] at this
 omega
def sesD (x : GSession) : List UInt8 := dg x.Client :: 46 :: ((sI x.Seq).data.toList ++ [(if x.Result.Done = true then 43 else 45), dg x.Result.Value])
theorem sesT_list {x : GSession} (h : (0 ≤ x.Client ∧ x.Client ≤ 2) ∧ (1 ≤ x.Seq ∧ x.Seq ≤ 99) ∧ (0 ≤ x.Result.Value ∧ x.Result.Value ≤ 9)) : (sesT x).data.toList = 32 :: sesD x := by
 have h1 := sI_dg (n := x.Client) (by omega)
 have h2 := sI_dg (n := x.Result.Value) h.2.2
 have h3 : (sgT x.Result.Done).data.toList = [if x.Result.Done = true then 43 else 45] := by
  unfold sgT
  split <;> rfl
 simp only [sesT, ByteArray.data_append, Array.toList_append, h1, h2, h3, sesD]
 simp
theorem sI_digs {n : Int} (h : 0 ≤ n) : ∀ b ∈ (sI n).data.toList, 48 ≤ b.toNat ∧ b.toNat ≤ 57 := fun b hb => by
 rw [sI_list, Lib.itoa, if_neg (by omega)] at hb
 exact isD_iff.1 (dec_isD _ b hb)
theorem sesD_no {x : GSession} (h : (0 ≤ x.Client ∧ x.Client ≤ 2) ∧ (1 ≤ x.Seq ∧ x.Seq ≤ 99) ∧ (0 ≤ x.Result.Value ∧ x.Result.Value ≤ 9)) : ∀ b ∈ sesD x, b ≠ 32 ∧ b ≠ 44 := fun b hb => by
 rw [sesD, List.mem_cons, List.mem_cons, List.mem_append] at hb
 have key : ∀ c : UInt8, 48 ≤ c.toNat → c ≠ 32 ∧ c ≠ 44 := fun c hc => ⟨fun e => by rw [e] at hc; exact absurd hc (by decide), fun e => by rw [e] at hc; exact absurd hc (by decide)⟩
 rcases hb with rfl | rfl | hb | hb
 ·exact key _ (by rw [dg_nat (by omega)]; omega)
 ·decide
 ·exact key _ (sI_digs (by omega) b hb).1
 ·rw [List.mem_cons, List.mem_singleton] at hb
  rcases hb with rfl | rfl
  ·split <;> decide
  ·exact key _ (by rw [dg_nat h.2.2]; omega)
theorem pcs_none (c : UInt8) : ∀ (l acc : List UInt8), (∀ b ∈ l, b ≠ c) → pcs c acc l = [acc ++ l]
 | [], acc, _ => by simp [pcs]
 | b :: r, acc, h => by
   rw [pcs, if_neg (h b (List.mem_cons_self ..)), pcs_none c r (acc ++ [b]) (fun x hx => h x (List.mem_cons_of_mem _ hx))]
   simp
theorem pcs_cons (c : UInt8) (r : List UInt8) : ∀ (l acc : List UInt8), (∀ b ∈ l, b ≠ c) → pcs c acc (l ++ c :: r) = (acc ++ l) :: pcs c [] r
 | [], acc, _ => by simp [pcs]
 | b :: l, acc, h => by
   rw [List.cons_append, pcs, if_neg (h b (List.mem_cons_self ..)), pcs_cons c r l (acc ++ [b]) (fun x hx => h x (List.mem_cons_of_mem _ hx))]
   simp
theorem pcs_join (c : UInt8) : ∀ (ws : List (List UInt8)) (a : List UInt8), (∀ b ∈ a, b ≠ c) → (∀ w ∈ ws, ∀ b ∈ w, b ≠ c) → pcs c [] (a ++ ws.flatMap (fun w => c :: w)) = a :: ws
 | [], a, h, _ => by
   rw [List.flatMap_nil, List.append_nil, pcs_none c a [] h]
   rfl
 | w :: ws, a, h, hw => by
   rw [List.flatMap_cons, List.cons_append, pcs_cons c _ a [] h, pcs_join c ws w (hw w (List.mem_cons_self ..)) (fun x hx => hw x (List.mem_cons_of_mem _ hx))]
   rfl
def mkB (l : List UInt8) : ByteArray := ⟨l.toArray⟩
theorem mkB_list (l : List UInt8) : (mkB l).data.toList = l := by simp [mkB]
theorem mkB_back (s : ByteArray) : mkB s.data.toList = s := bytes_ext (mkB_list _)
theorem fS_digs : ∀ {l : List Int}, (∀ v ∈ l, 0 ≤ v ∧ v ≤ 9) → (fS l).data.toList = l.map dg
 | [], _ => rfl
 | v :: r, h => by
   have h1 := fS_digs (l := r) (fun x hx => h x (List.mem_cons_of_mem _ hx))
   have h2 := sI_dg (h v (List.mem_cons_self ..))
   rw [sI_list] at h2
   simp only [fS, List.flatMap_cons, h2, List.map_cons] at h1 ⊢
   simpa using h1
theorem sv_fS {l : List Int} (h : ∀ v ∈ l, 0 ≤ v ∧ v ≤ 9) : sv (fS l) = l := by
 rw [sv, fS_digs h, List.map_map]
 exact (List.map_congr_left (fun v hv => dg_back (h v hv))).trans (List.map_id _)
theorem fm_congr {α β : Type} {f g : α → List β} : ∀ {l : List α}, (∀ x ∈ l, f x = g x) → l.flatMap f = l.flatMap g
 | [], _ => rfl
 | x :: r, h => by rw [List.flatMap_cons, List.flatMap_cons, h x (List.mem_cons_self ..), fm_congr (fun y hy => h y (List.mem_cons_of_mem _ hy))]
theorem cut_mch {m : GMachine} (h : validM m = true) : cutB 32 (mchT m) = fS m.Objects :: m.Sessions.map (fun x => mkB (sesD x)) := by
 obtain ⟨h1, h2, h3, h4, h5⟩ := validM_spec h
 rw [mchT, if_pos h, cutB]
 have e : sesL m.Sessions = (m.Sessions.map sesD).flatMap (fun w => 32 :: w) := by
  rw [sesL, List.flatMap_map]
  exact fm_congr (fun x hx => sesT_list (h4 x hx))
 have e2 : (⟨((fS m.Objects).data.toList ++ sesL m.Sessions).toArray⟩ : ByteArray).data.toList = (fS m.Objects).data.toList ++ sesL m.Sessions := by simp
 rw [e2, e, pcs_join 32 _ _ (fun b hb => ?_) (fun w hw b hb => ?_)]
 ·rw [List.map_cons, List.map_map]
  have e3 := mkB_back (fS m.Objects)
  unfold mkB at e3
  rw [e3]
  rfl
 ·rw [fS_digs h2, List.mem_map] at hb
  obtain ⟨v, hv, rfl⟩ := hb
  exact dg_ne (h2 v hv) (by decide)
 ·rw [List.mem_map] at hw
  obtain ⟨x, hx, rfl⟩ := hw
  exact (sesD_no (h4 x hx) b hb).1
--import Derived.Shelf.Strings.IndexAnyAll
theorem cut_dot {a : UInt8} {r : List UInt8} (h : a ≠ 46) : Lib.cut (a :: 46 :: r) [46] = ([a], r, true) := by
 have hi : Lib.index (a :: 46 :: r) [46] = 1 := by
  rw [Lib.index_one]
  simp [Lib.indexByte, h]
 rw [Lib.cut, if_pos (by rw [hi]; decide), hi]
 rfl
theorem idx_sign : ∀ (l : List UInt8) {g : UInt8} {r : List UInt8}, (∀ b ∈ l, 48 ≤ b.toNat) → (g = 43 ∨ g = 45) → Lib.indexAny (l ++ g :: r) [43, 45] = l.length
 | [], g, r, _, hg => by
   rw [List.nil_append, Lib.indexAny, if_pos (by rcases hg with rfl | rfl <;> decide)]
   rfl
 | b :: l, g, r, h, hg => by
   have hb := h b (List.mem_cons_self ..)
   have h1 : b ≠ 43 := fun e => by rw [e] at hb; exact absurd hb (by decide)
   have h2 : b ≠ 45 := fun e => by rw [e] at hb; exact absurd hb (by decide)
   rw [List.cons_append, Lib.indexAny, if_neg (by simp [h1, h2]), idx_sign l (fun x hx => h x (List.mem_cons_of_mem _ hx)) hg, if_neg (by simp)]
   simp
theorem get_list {s : ByteArray} {i : Nat} {b : UInt8} (h : s.data.toList[i]? = some b) : s.get! i = b := by
 have hi : i < s.size := (List.getElem?_eq_some_iff.1 h).1
 have := byte_at hi
 rw [h] at this
 exact (Option.some.inj this).symm
theorem wS_back {x : GSession} (h : (0 ≤ x.Client ∧ x.Client ≤ 2) ∧ (1 ≤ x.Seq ∧ x.Seq ≤ 99) ∧ (0 ≤ x.Result.Value ∧ x.Result.Value ≤ 9)) : wS (mkB (sesD x)) = some x := by
 have hc := cut_dot (a := dg x.Client) (r := (sI x.Seq).data.toList ++ [(if x.Result.Done = true then 43 else 45), dg x.Result.Value]) (dg_ne (by omega) (by decide))
 have hA : ctA 46 (mkB (sesD x)) = sI x.Client := by
  rw [ctA, mkB_list, sesD, hc]
  exact bytes_ext (by rw [sI_dg (n := x.Client) (by omega)])
 have hZ : (ctZ 46 (mkB (sesD x))).data.toList = (sI x.Seq).data.toList ++ [(if x.Result.Done = true then 43 else 45), dg x.Result.Value] := by
  rw [ctZ, mkB_list, sesD, hc]
 have hlen : (sI x.Seq).data.toList.length = (sI x.Seq).size := rfl
 have hat : wAt (mkB (sesD x)) = ((sI x.Seq).size : Int) := by
  rw [wAt, hZ, idx_sign _ (fun b hb => (sI_digs (by omega) b hb).1) (by split <;> simp), hlen]
 have hzs : (ctZ 46 (mkB (sesD x))).size = (sI x.Seq).size + 2 := by
  have e : (ctZ 46 (mkB (sesD x))).data.toList.length = (ctZ 46 (mkB (sesD x))).size := rfl
  rw [← e, hZ, List.length_append, hlen]
  rfl
 have e1 : (ctZ 46 (mkB (sesD x))).extract 0 (sI x.Seq).size = sI x.Seq := bytes_ext (by
  rw [ext_list, hZ, List.drop_zero, ← hlen, List.take_left])
 have e2 : (ctZ 46 (mkB (sesD x))).extract ((sI x.Seq).size + 1) ((sI x.Seq).size + 2) = sI x.Result.Value := bytes_ext (by
  rw [ext_list, hZ, sI_dg h.2.2, List.take_of_length_le (by rw [List.length_append, hlen]; simp), ← hlen, ← List.drop_drop, List.drop_left]
  rfl)
 have e3 : (ctZ 46 (mkB (sesD x))).get! (sI x.Seq).size = if x.Result.Done = true then 43 else 45 := get_list (by
  rw [hZ, ← hlen, List.getElem?_append_right (Nat.le_refl _), Nat.sub_self]
  rfl)
 rw [wS, hat, if_neg (by omega)]
 have t1 : ((sI x.Seq).size : Int).toNat = (sI x.Seq).size := by omega
 have t2 : (((sI x.Seq).size : Int) + 1).toNat = (sI x.Seq).size + 1 := by omega
 rw [t1, t2, hzs, e1, e2, e3, hA, (pNum_sI (n := x.Client) (by omega) (by omega)).1, (pNum_sI (n := x.Seq) (by omega) (by omega)).1, (pNum_sI (n := x.Result.Value) (by omega) (by omega)).1]
 obtain ⟨c, q, d, v⟩ := x
 cases d <;> simp
theorem allW_back : ∀ {l : List GSession}, (∀ x ∈ l, (0 ≤ x.Client ∧ x.Client ≤ 2) ∧ (1 ≤ x.Seq ∧ x.Seq ≤ 99) ∧ (0 ≤ x.Result.Value ∧ x.Result.Value ≤ 9)) → allW (l.map (fun x => mkB (sesD x))) = some l
 | [], _ => rfl
 | x :: r, h => by
   rw [List.map_cons, allW, wS_back (h x (List.mem_cons_self ..)), allW_back (fun y hy => h y (List.mem_cons_of_mem _ hy))]
theorem mchT_pos {m : GMachine} {s : ByteArray} (h : mchT m = s) (hs : s ≠ ⟨#[]⟩) : validM m = true := by
 unfold mchT at h
 split at h
 ·assumption
 ·exact absurd h.symm hs
theorem mchT_ne {m : GMachine} (h : validM m = true) : mchT m ≠ ⟨#[]⟩ := fun e => by
 obtain ⟨h1, h2, _⟩ := validM_spec h
 have := congrArg (fun t => t.data.toList.length) e
 rw [mchT, if_pos h] at this
 simp only [List.length_append, fS_digs h2, List.length_map, h1] at this
 simp at this
theorem pM_back {m : GMachine} (h : validM m = true) : pM (mchT m) = (m, true) := by
 obtain ⟨h1, h2, h3, h4, h5⟩ := validM_spec h
 have := pM_ok (cut_mch h) (allW_back h4) (mchT_ne h) (by rw [sv_fS h2])
 rw [sv_fS h2] at this
 exact this
--import Derived.Shelf.Strings.IndexAnyAll
def badS : GSession := ⟨-1, 0, ⟨false, 0⟩⟩
def l4S (s : ByteArray) : GSession := if s.size < 5 ∨ s.get! 1 ≠ 46 then badS else ⟨((s.get! 0).toNat : Int) - 48, pNum3 (s.extract 2 (s.size - 2)), ⟨decide (s.get! (s.size - 2) = 43), ((s.get! (s.size - 1)).toNat : Int) - 48⟩⟩
def m2 (v : ByteArray) (ws : List ByteArray) : GMachine := ⟨(sv v).take 9, (ws.take 8).map l4S⟩
def snOk (x : GSnapshot) : Bool := decide (0 ≤ x.Count ∧ x.Count ≤ 16) && decide (0 ≤ x.Digest ∧ x.Digest ≤ 9972) && validM x.Machine
def snT (x : GSnapshot) : ByteArray := if snOk x = true then sI x.Count ++ ⟨#[44]⟩ ++ sI x.Digest ++ ⟨#[44]⟩ ++ mchT x.Machine else ⟨#[]⟩
theorem snOk_spec {x : GSnapshot} (h : snOk x = true) : (0 ≤ x.Count ∧ x.Count ≤ 16) ∧ (0 ≤ x.Digest ∧ x.Digest ≤ 9972) ∧ validM x.Machine = true := by
 rw [snOk, Bool.and_eq_true, Bool.and_eq_true] at h
 exact ⟨of_decide_eq_true h.1.1, of_decide_eq_true h.1.2, h.2⟩
theorem nDig_lt : ∀ (k u : Nat), u < 10 ^ k → Lib.nDigits u ≤ k + 1
 | 0, u, h => by
   rw [Lib.nDigits_small (by omega)]
   omega
 | k + 1, u, h => by
   by_cases h0 : u < 10
   ·rw [Lib.nDigits_small h0]; omega
   ·rw [Lib.nDigits_big h0]
    have := nDig_lt k (u / 10) (by rw [Nat.pow_succ] at h; omega)
    omega
theorem sI_size9 {n : Int} (h0 : 0 ≤ n) (h1 : n < 100000) : (sI n).size ≤ 6 := by
 have e : (sI n).data.toList.length = (sI n).size := rfl
 rw [← e, sI_list, Lib.itoa, if_neg (by omega), Lib.decDigits_length]
 exact nDig_lt 5 n.toNat (by omega)
theorem mchT_size {m : GMachine} (h : validM m = true) : (mchT m).size ≤ 200 := by
 obtain ⟨h1, h2, h3, h4, h5⟩ := validM_spec h
 have e : (mchT m).data.toList.length = (mchT m).size := rfl
 have e2 : ∀ l : List GSession, (∀ x ∈ l, (0 ≤ x.Client ∧ x.Client ≤ 2) ∧ (1 ≤ x.Seq ∧ x.Seq ≤ 99) ∧ (0 ≤ x.Result.Value ∧ x.Result.Value ≤ 9)) → (sesL l).length ≤ 20 * l.length := by
  intro l
  induction l with
  | nil => intro _; exact Nat.le_refl _
  | cons x r ih =>
    intro hx
    have h6 := ih (fun y hy => hx y (List.mem_cons_of_mem _ hy))
    obtain ⟨z1, z2, z3, z4⟩ := sesT_size (hx x (List.mem_cons_self ..))
    have e3 : (sesT x).data.toList.length = (sesT x).size := rfl
    have e4 : (sesT x).size ≤ 20 := by
     simp only [sesT, ByteArray.size_append, size_lit, z4]
     omega
    rw [sesL] at h6 ⊢
    rw [List.flatMap_cons, List.length_append, e3, List.length_cons]
    omega
 have h7 := e2 m.Sessions h4
 rw [← e, mchT, if_pos h]
 simp only [List.length_append, fS_digs h2, List.length_map, h1]
 omega
theorem w_spec_l7Good (x : GSnapshot) (hb : bSnapshot x) : Fn Pr n_spec_l7Good [aGSnapshot x] (.bo (snOk x)) := by
 have HV := w_spec_IsValidMachine x.Machine hb
 generalize hv : validM x.Machine = vm at HV
 refine k_spec_l7Good.fn (by kernel_rfl) ?_
 conv=>arg 4;cbv
 repeat' first
  | (refine Sat.cmp (fun h => ?_) (fun h => ?_) <;> simp only [Cmp.holds] at h <;> (conv=>arg 4;cbv))
  | (refine Sat.callb (w_spec_l1In _ _ _) rfl ledA (fun h => ?_) (fun h => ?_) <;> (try simp only [decide_eq_true_eq, decide_eq_false_iff_not] at h) <;> (conv=>arg 4;cbv))
  | (refine Sat.callb (HV) rfl ledA (fun h => ?_) (fun h => ?_) <;> (try simp only [decide_eq_true_eq, decide_eq_false_iff_not] at h) <;> (conv=>arg 4;cbv))
  | (refine Sat.call (HV) rfl ledA ?_; conv=>arg 4;cbv)
  | (refine Sat.need ndA ?_; conv=>arg 4;cbv)
  | (refine Sat.idxk (by assumption) ?_; conv=>arg 4;cbv) | (refine Sat.idx ndA (fun v_ hv_ => ?_); conv=>arg 4;cbv)
  | (refine Sat.ari64 ndA ndA ?_; conv=>arg 4;cbv)
  | (refine Sat.pop ?_; conv=>arg 4;cbv)
  | refine Sat.done ?_
 all_goals refine led_bo ?_
 all_goals simp_all [snOk]
 all_goals (intros; exfalso; omega)
theorem w_spec_SnapshotText (x : GSnapshot) (hb : bSnapshot x) : Fn Pr n_spec_SnapshotText [aGSnapshot x] (.str (fun _ => snT x)) := by
 have HV := w_spec_l7Good x hb
 refine k_spec_SnapshotText.fn (by kernel_rfl) ?_
 conv=>arg 4;cbv
 refine Sat.callb HV rfl ledA (fun hA => ?_) (fun hA => ?_) <;> (conv=>arg 4;cbv)
 rotate_left
 ·refine Sat.done (.str ?_)
  rw [snT, if_neg (by rw [hA]; exact Bool.false_ne_true)]
 obtain ⟨h1, h2, h3⟩ := snOk_spec hA
 have z1 := sI_size9 (n := x.Count) (by omega) (by omega)
 have z2 := sI_size9 (n := x.Digest) (by omega) (by omega)
 have z3 := mchT_size h3
 repeat' first
  | (refine Sat.call (w_spec_FormatIntG x.Count (by omega) (by omega)) rfl ledA ?_; conv=>arg 4;cbv)
  | (refine Sat.call (w_spec_FormatIntG x.Digest (by omega) (by omega)) rfl ledA ?_; conv=>arg 4;cbv)
  | (refine Sat.call (w_spec_FormatMachine x.Machine hb) rfl ledA ?_; conv=>arg 4;cbv)
  | (refine Sat.need (by (try dsimp only); simp only [ByteArray.size_append, size_lit]; omega) ?_; conv=>arg 4;cbv)
  | refine Sat.done ?_
 refine .str ?_
 rw [snT, if_pos hA]
theorem w_impl_SnapshotText (x : GSnapshot) (hb : bSnapshot x) : Fn Pr n_impl_SnapshotText [aGSnapshot x] (.str (fun _ => snT x)) := by
 have HV := w_impl_IsValidMachine x.Machine hb
 refine k_impl_SnapshotText.fn (by kernel_rfl) ?_
 conv=>arg 4;cbv
 have bad : ¬ snOk x = true → LeD (.str (fun _ => ⟨#[]⟩)) (.str (fun _ => snT x)) := fun h => .str (by rw [snT, if_neg h])
 refine Sat.callb (w_impl_within x.Count 0 16) rfl ledA (fun hA => ?_) (fun hA => ?_) <;> (conv=>arg 4;cbv)
 rotate_left
 ·exact Sat.done (bad (fun h => of_decide_eq_false hA (snOk_spec h).1))
 refine Sat.callb (w_impl_within x.Digest 0 9972) rfl ledA (fun hB => ?_) (fun hB => ?_) <;> (conv=>arg 4;cbv)
 rotate_left
 ·exact Sat.done (bad (fun h => of_decide_eq_false hB (snOk_spec h).2.1))
 refine Sat.callb HV rfl ledA (fun hC => ?_) (fun hC => ?_) <;> (conv=>arg 4;cbv)
 rotate_left
 ·exact Sat.done (bad (fun h => by rw [(snOk_spec h).2.2] at hC; cases hC))
 have h1 := of_decide_eq_true hA
 have h2 := of_decide_eq_true hB
 have z1 := sI_size9 (n := x.Count) (by omega) (by omega)
 have z2 := sI_size9 (n := x.Digest) (by omega) (by omega)
 have z3 := mchT_size hC
 repeat' first
  | (refine Sat.call (w_impl_FormatIntG x.Count (by omega) (by omega)) rfl ledA ?_; conv=>arg 4;cbv)
  | (refine Sat.call (w_impl_FormatIntG x.Digest (by omega) (by omega)) rfl ledA ?_; conv=>arg 4;cbv)
  | (refine Sat.call (w_impl_FormatMachine x.Machine hb) rfl ledA ?_; conv=>arg 4;cbv)
  | (refine Sat.need (by (try dsimp only); simp only [ByteArray.size_append, size_lit]; omega) ?_; conv=>arg 4;cbv)
  | refine Sat.done ?_
 refine .str ?_
 rw [snT, if_pos (by rw [snOk, decide_eq_true h1, decide_eq_true h2, hC]; rfl)]
--import Derived.Lib.SplitLaws
theorem indexByte_no (c : UInt8) : ∀ l : List UInt8, (∀ b ∈ l, b ≠ c) → Lib.indexByte l c = -1
 | [], _ => rfl
 | b :: r, h => by
   have h1 : b ≠ c := h b (List.mem_cons_self ..)
   rw [Lib.indexByte, indexByte_no c r (fun x hx => h x (List.mem_cons_of_mem _ hx))]
   simp [h1]
theorem splitK_few (c : UInt8) : ∀ (l acc : List UInt8) (k : Nat), (∀ b ∈ acc, b ≠ c) → (pcs c acc l).length ≤ k + 1 → Lib.splitK [c] 0 k (acc ++ l) = pcs c acc l
 | [], acc, 0, _, _ => by simp [Lib.splitK, pcs]
 | [], acc, k + 1, h, _ => by
   rw [List.append_nil, Lib.splitK, Lib.index_one, indexByte_no c acc h, pcs]
   rfl
 | b :: r, acc, k, h, hk => by
   rw [pcs] at hk ⊢
   split at hk
   ·rename_i e
    subst e
    rw [if_pos rfl]
    have h1 := (pcs_len b r []).2
    rw [List.length_cons] at hk
    obtain ⟨k', rfl⟩ : ∃ k', k = k' + 1 := ⟨k - 1, by omega⟩
    have hi : Lib.index (acc ++ b :: r) [b] = acc.length := by rw [Lib.index_one, indexByte_acc b r acc h]
    rw [Lib.splitK, hi, if_neg (by simp)]
    have e1 : ((acc.length : Nat) : Int).toNat = acc.length := by omega
    rw [e1, Nat.add_zero, List.take_left]
    have e2 : (acc ++ b :: r).drop (acc.length + [b].length) = r := by
     rw [← List.drop_drop, List.drop_left]
     rfl
    rw [e2]
    have := splitK_few b r [] k' (fun x hx => by cases hx) (by omega)
    rw [List.nil_append] at this
    rw [this]
   ·rename_i e
    rw [if_neg e]
    have := splitK_few c r (acc ++ [b]) k (fun x hx => by
     rw [List.mem_append, List.mem_singleton] at hx
     rcases hx with hx | rfl
     ·exact h x hx
     ·exact e) hk
    rw [← this]
    simp
def cut3 (s : ByteArray) : List ByteArray := Lib.splitB ⟨#[44]⟩ 0 (min 3 (s.size + 1) - 1) s
theorem cut3_len (s : ByteArray) : (cut3 s).length ≤ 3 := by
 have := Lib.splitB_length_le ⟨#[44]⟩ 0 (min 3 (s.size + 1) - 1) s
 unfold cut3
 omega
theorem cut3_eq {s : ByteArray} (h : (cutB 44 s).length = 3) : cut3 s = cutB 44 s := by
 refine data_inj ?_
 have hl := (cutB_len 44 s).1
 have hk : min 3 (s.size + 1) - 1 = 2 := by omega
 have e := Lib.splitB_data ⟨#[44]⟩ 0 2 s
 rw [cut3, hk, cutB_data, e]
 have e2 : (pcs 44 [] s.data.toList).length = 3 := by rw [← cutB_data, List.length_map]; exact h
 exact splitK_few 44 s.data.toList [] 2 (fun x hx => by cases hx) (by omega)
theorem splitB_mem (sep : ByteArray) : ∀ (k : Nat) (s x : ByteArray), x ∈ Lib.splitB sep 0 k s → x.size ≤ s.size
 | 0, s, x, h => by
   rw [Lib.splitB_zero, List.mem_singleton] at h
   rw [h]
   exact Nat.le_refl _
 | k + 1, s, x, h => by
   rw [Lib.splitB] at h
   split at h
   ·rw [List.mem_singleton] at h
    rw [h]
    exact Nat.le_refl _
   ·rw [List.mem_cons] at h
    rcases h with rfl | h
    ·exact ext_size _ _ _
    ·exact Nat.le_trans (splitB_mem sep k _ x h) (ext_size _ _ _)
--import Derived.Lib.SplitLaws
def zeroSn : GSnapshot := ⟨0, 0, zeroM⟩
def sn3 (num : ByteArray → Int) (a b c : ByteArray) : GSnapshot := ⟨num a, num b, (pM c).1⟩
def pSnL (num : ByteArray → Int) (s : ByteArray) : List ByteArray → GSnapshot × Bool
 | [a, b, c] => if snT (sn3 num a b c) = s then (sn3 num a b c, true) else (zeroSn, false)
 | _ => (zeroSn, false)
def pSn (s : ByteArray) : GSnapshot × Bool := pSnL pNum s (cutB 44 s)
theorem three {α : Type} {l : List α} (h : l.length = 3) : ∃ a b c, l = [a, b, c] := by
 match l, h with
 | [a, b, c], _ => exact ⟨a, b, c, rfl⟩
theorem pSnL_no {num : ByteArray → Int} {s : ByteArray} {l : List ByteArray} (h : l.length ≠ 3) : pSnL num s l = (zeroSn, false) := by
 unfold pSnL
 split
 ·exact absurd rfl h
 ·rfl
theorem snT_pos {x : GSnapshot} {s : ByteArray} (h : snT x = s) (hs : 1 ≤ s.size) : snOk x = true := by
 unfold snT at h
 split at h
 ·assumption
 ·rw [← h] at hs
  exact absurd hs (by decide)
theorem cut_snT {x : GSnapshot} (h : snOk x = true) : (cutB 44 (snT x)).length = 3 := by
 obtain ⟨h1, h2, h3⟩ := snOk_spec h
 obtain ⟨g1, g2, g3, g4, g5⟩ := validM_spec h3
 have no : ∀ n : Int, 0 ≤ n → ∀ b ∈ (sI n).data.toList, b ≠ 44 := fun n hn b hb e => by
  have := (sI_digs hn b hb).1
  rw [e] at this
  exact absurd this (by decide)
 have nm : ∀ b ∈ (mchT x.Machine).data.toList, b ≠ 44 := fun b hb e => by
  rw [mchT, if_pos h3] at hb
  have hb : b ∈ (fS x.Machine.Objects).data.toList ++ sesL x.Machine.Sessions := by simpa using hb
  rw [List.mem_append, fS_digs g2, List.mem_map, sesL, List.mem_flatMap] at hb
  rcases hb with ⟨v, hv, rfl⟩ | ⟨y, hy, hb⟩
  ·exact dg_ne (g2 v hv) (b := 44) (by decide) e
  ·rw [sesT_list (g4 y hy), List.mem_cons] at hb
   rcases hb with rfl | hb
   ·exact absurd e (by decide)
   ·exact (sesD_no (g4 y hy) b hb).2 e
 have e : (snT x).data.toList = (sI x.Count).data.toList ++ 44 :: ((sI x.Digest).data.toList ++ 44 :: (mchT x.Machine).data.toList) := by
  rw [snT, if_pos h]
  simp
 rw [cutB, List.length_map, e, pcs_cons 44 _ _ [] (no _ h1.1), pcs_cons 44 _ _ [] (no _ h2.1), pcs_none 44 _ [] nm]
 rfl
theorem pSn_impl (s : ByteArray) : pSnL pNum s (cut3 s) = pSn s := by
 by_cases h : (cutB 44 s).length = 3
 ·rw [cut3_eq h, pSn]
 ·rw [pSn, pSnL_no h]
  by_cases h3 : (cut3 s).length = 3
  ·obtain ⟨a, b, c, e⟩ := three h3
   rw [e, pSnL, if_neg]
   intro e2
   have hs : 1 ≤ s.size := by
    have := Lib.splitB_length_le ⟨#[44]⟩ 0 (min 3 (s.size + 1) - 1) s
    unfold cut3 at h3
    omega
   have := cut_snT (snT_pos e2 hs)
   rw [e2] at this
   exact h this
  ·exact pSnL_no h3
theorem pM_b (c : ByteArray) : bMachine (pM c).1 := by
 have hz : bMachine zeroM := ⟨(by decide : 0 * 8 ≤ 140737488351232), (by decide : 0 * 32 ≤ 140737488351232)⟩
 unfold pM pMg
 split
 ·exact hz
 ·rename_i v r e
  cases h : allW r with
  | none => exact hz
  | some l =>
    rw [pMf]
    by_cases hb : c = ⟨#[]⟩ ∨ mchT ⟨sv v, l⟩ ≠ c
    ·rw [if_pos hb]
     exact hz
    ·rw [if_neg hb]
     have hv := mchT_pos (m := ⟨sv v, l⟩) (s := c) (Classical.byContradiction (fun e => hb (.inr e))) (fun e => hb (.inl e))
     obtain ⟨h1, _, h3, _⟩ := validM_spec hv
     exact ⟨by show (sv v).length * 8 ≤ 140737488351232; have h1 : (sv v).length = 3 := h1; omega, by show l.length * 32 ≤ 140737488351232; have h3 : l.length ≤ 3 := h3; omega⟩
theorem led_zeroSn : LeD (.agg [.int .i64 (fun _ => 0), .int .i64 (fun _ => 0), .nil, .nil]) (aGSnapshot zeroSn) :=
 .agg rfl (led_cons (.same _) (led_cons (.same _) (led_cons (.nil rfl) (led_cons (.nil rfl) led_nil))))
theorem led_sn (p q : Int) (m : GMachine) : LeD (.agg [.int .i64 (fun _ => p), .int .i64 (fun _ => q), .sl 1 (encI .i64) (fun _ => List.take m.Objects.length (List.drop 0 m.Objects)), .sl 4 eGSession (fun _ => List.take m.Sessions.length (List.drop 0 m.Sessions))]) (aGSnapshot ⟨p, q, m⟩) :=
 .agg rfl (led_cons (.same _) (led_cons (.same _) (led_cons (.sl (tkdr _)) (led_cons (.sl (tkdr _)) led_nil))))
theorem w_impl_ParseSnapshot (s : ByteArray) (hs : s.size ≤ 1048576) : Fn Pr n_impl_ParseSnapshot [.str (fun _ => s)] (.tup [aGSnapshot (pSn s).1, .bo (pSn s).2]) := by
 have HSP := w_strings_SplitN 44 3 s (by omega) (by omega) (by omega)
 change Fn Pr n_strings_SplitN _ (.sl 1 encS (fun _ => cut3 s)) at HSP
 have hmem := fun x (hx : x ∈ cut3 s) => splitB_mem _ _ s x hx
 have hl3 := cut3_len s
 rw [← pSn_impl]
 generalize cut3 s = L at HSP hmem hl3
 refine k_impl_ParseSnapshot.fn (by kernel_rfl) ?_
 conv=>arg 4;cbv
 refine Sat.call HSP rfl ledA ?_
 conv=>arg 4;cbv
 refine Sat.cmp (fun h => ?_) (fun h => ?_) <;> simp only [Cmp.holds] at h
 ·have h4 : L.length ≠ 3 := by exact arA
  conv=>arg 4;cbv
  refine Sat.done ?_
  rw [pSnL_no h4]
  exact .tup rfl (led_cons led_zeroSn (led_cons (.same _) led_nil))
 have h3 : L.length = 3 := by exact arA
 obtain ⟨a, b, c, rfl⟩ := three h3
 have ha := hmem a (by simp)
 have hb := hmem b (by simp)
 have hc := hmem c (by simp)
 have hcb : bSnapshot (sn3 pNum a b c) := pM_b c
 have WM := w_impl_ParseMachine c (by omega)
 rw [pSnL]
 have esn : sn3 pNum a b c = ⟨pNum a, pNum b, (pM c).1⟩ := rfl
 rw [esn] at hcb ⊢
 generalize pM c = q at *
 obtain ⟨mm, ok⟩ := q
 dsimp only at WM hcb ⊢
 conv=>arg 4;cbv
 refine Sat.need (by (try dsimp only); exact arA) ?_
 conv=>arg 4;cbv
 refine Sat.idx (by (try dsimp only); exact arA) (fun v hv => ?_)
 obtain rfl : v = c := (Option.some.inj hv).symm
 conv=>arg 4;cbv
 refine Sat.call WM rfl ledA ?_
 conv=>arg 4;cbv
 refine Sat.need (by (try dsimp only); exact arA) ?_
 conv=>arg 4;cbv
 refine Sat.idx (by (try dsimp only); exact arA) (fun v2 hv2 => ?_)
 obtain rfl : v2 = a := (Option.some.inj hv2).symm
 conv=>arg 4;cbv
 refine Sat.call (w_impl_number v2 (by omega)) rfl ledA ?_
 conv=>arg 4;cbv
 refine Sat.need (by (try dsimp only); exact arA) ?_
 conv=>arg 4;cbv
 refine Sat.idx (by (try dsimp only); exact arA) (fun v3 hv3 => ?_)
 obtain rfl : v3 = b := (Option.some.inj hv3).symm
 conv=>arg 4;cbv
 refine Sat.call (w_impl_number v3 (by omega)) rfl ledA ?_
 conv=>arg 4;cbv
 refine Sat.call (w_impl_SnapshotText ⟨pNum v2, pNum v3, mm⟩ hcb) rfl (led_one (led_sn _ _ mm)) ?_
 conv=>arg 4;cbv
 refine Sat.test (fun h => ?_) (fun h => ?_)
 ·have h : snT ⟨pNum v2, pNum v3, mm⟩ = s := of_decide_eq_true h
  conv=>arg 4;cbv
  refine Sat.done ?_
  rw [if_pos h]
  exact .tup rfl (led_cons (led_sn _ _ mm) (led_cons (.same _) led_nil))
 ·have h : ¬ snT ⟨pNum v2, pNum v3, mm⟩ = s := of_decide_eq_false h
  conv=>arg 4;cbv
  refine Sat.done ?_
  rw [if_neg h]
  exact .tup rfl (led_cons led_zeroSn (led_cons (.same _) led_nil))
def swT : ByteArray := ⟨#[32, 115, 119, 97, 112, 32]⟩
def wrT : ByteArray := ⟨#[32, 119, 114, 105, 116, 101, 32]⟩
def kT (o : GOp) : ByteArray := if o.Kind = 2 then swT ++ sI o.Object ++ ⟨#[32]⟩ ++ sI o.Old ++ ⟨#[32]⟩ ++ sI o.Value else wrT ++ sI o.Object ++ ⟨#[32]⟩ ++ sI o.Value
def opT (o : GOp) : ByteArray := if okOp o = true then sI o.Client ++ ⟨#[46]⟩ ++ sI o.Seq ++ kT o else ⟨#[]⟩
theorem okOp_spec {o : GOp} (h : okOp o = true) : (0 ≤ o.Client ∧ o.Client ≤ 2) ∧ (1 ≤ o.Seq ∧ o.Seq ≤ 99) ∧ (0 ≤ o.Object ∧ o.Object ≤ 2) ∧ (0 ≤ o.Value ∧ o.Value ≤ 9) ∧ ((o.Kind = 1 ∧ o.Old = 0) ∨ (o.Kind = 2 ∧ 0 ≤ o.Old ∧ o.Old ≤ 9)) := of_decide_eq_true h
theorem swT_size : swT.size = 6 := rfl
theorem wrT_size : wrT.size = 7 := rfl
theorem opT_sizes {o : GOp} (h : okOp o = true) : (sI o.Client).size ≤ 2 ∧ (sI o.Seq).size ≤ 2 ∧ (sI o.Object).size ≤ 2 ∧ (sI o.Value).size ≤ 2 ∧ (sI o.Old).size ≤ 2 := by
 have h := okOp_spec h
 exact ⟨(sI_size (by omega) (by omega)).2, (sI_size (by omega) (by omega)).2, (sI_size (by omega) (by omega)).2, (sI_size (by omega) (by omega)).2, (sI_size (by omega) (by omega)).2⟩
theorem opT_size (o : GOp) : (opT o).size ≤ 30 := by
 unfold opT
 split
 ·rename_i h
  obtain ⟨z1, z2, z3, z4, z5⟩ := opT_sizes h
  unfold kT
  split <;> simp only [ByteArray.size_append, size_lit, swT_size, wrT_size] <;> omega
 ·exact Nat.zero_le _
theorem opT_sw (o : GOp) (h : okOp o = true) (hk : o.Kind = 2) : opT o = sI o.Client ++ ⟨#[46]⟩ ++ sI o.Seq ++ swT ++ sI o.Object ++ ⟨#[32]⟩ ++ sI o.Old ++ ⟨#[32]⟩ ++ sI o.Value := by
 rw [opT, if_pos h, kT, if_pos hk]
 refine bytes_ext ?_
 simp
theorem opT_wr (o : GOp) (h : okOp o = true) (hk : ¬ o.Kind = 2) : opT o = sI o.Client ++ ⟨#[46]⟩ ++ sI o.Seq ++ wrT ++ sI o.Object ++ ⟨#[32]⟩ ++ sI o.Value := by
 rw [opT, if_pos h, kT, if_neg hk]
 refine bytes_ext ?_
 simp
theorem lit5 {a b c d e : UInt8} : (⟨#[a, b, c, d, e]⟩ : ByteArray).size = 5 := rfl
theorem lit6 {a b c d e f : UInt8} : (⟨#[a, b, c, d, e, f]⟩ : ByteArray).size = 6 := rfl
theorem lit7 {a b c d e f g : UInt8} : (⟨#[a, b, c, d, e, f, g]⟩ : ByteArray).size = 7 := rfl
theorem w_impl_FormatOp (o : GOp) : Fn Pr n_impl_FormatOp [aGOp o] (.str (fun _ => opT o)) := by
 refine k_impl_FormatOp.fn (by kernel_rfl) ?_
 conv=>arg 4;cbv
 refine Sat.callb (w_impl_IsValidOp o) rfl ledA (fun hA => ?_) (fun hA => ?_) <;> (conv=>arg 4;cbv)
 rotate_left
 ·refine Sat.done (.str ?_)
  rw [opT, if_neg (by rw [hA]; exact Bool.false_ne_true)]
 have hr := okOp_spec hA
 obtain ⟨z1, z2, z3, z4, z5⟩ := opT_sizes hA
 repeat' first
  | (refine Sat.cmp (fun h => ?_) (fun h => ?_) <;> simp only [Cmp.holds] at h <;> (conv=>arg 4;cbv))
  | (refine Sat.call (w_impl_FormatIntG o.Client (by omega) (by omega)) rfl ledA ?_; conv=>arg 4;cbv)
  | (refine Sat.call (w_impl_FormatIntG o.Seq (by omega) (by omega)) rfl ledA ?_; conv=>arg 4;cbv)
  | (refine Sat.call (w_impl_FormatIntG o.Object (by omega) (by omega)) rfl ledA ?_; conv=>arg 4;cbv)
  | (refine Sat.call (w_impl_FormatIntG o.Old (by omega) (by omega)) rfl ledA ?_; conv=>arg 4;cbv)
  | (refine Sat.call (w_impl_FormatIntG o.Value (by omega) (by omega)) rfl ledA ?_; conv=>arg 4;cbv)
  | (refine Sat.need (by (try dsimp only); simp only [ByteArray.size_append, size_lit, lit5, lit6, lit7]; omega) ?_; conv=>arg 4;cbv)
  | refine Sat.done ?_
 all_goals refine .str ?_
 ·rw [opT_sw o hA (by omega)]
  refine bytes_ext ?_
  simp [swT, wrT]
 ·rw [opT_wr o hA (by omega)]
  refine bytes_ext ?_
  simp [swT, wrT]
theorem w_spec_FormatOp (o : GOp) : Fn Pr n_spec_FormatOp [aGOp o] (.str (fun _ => opT o)) := by
 refine k_spec_FormatOp.fn (by kernel_rfl) ?_
 conv=>arg 4;cbv
 refine Sat.callb (w_spec_IsValidOp o) rfl ledA (fun hA => ?_) (fun hA => ?_) <;> (conv=>arg 4;cbv)
 rotate_left
 ·refine Sat.done (.str ?_)
  rw [opT, if_neg (by rw [hA]; exact Bool.false_ne_true)]
 have hr := okOp_spec hA
 obtain ⟨z1, z2, z3, z4, z5⟩ := opT_sizes hA
 repeat' first
  | (refine Sat.cmp (fun h => ?_) (fun h => ?_) <;> simp only [Cmp.holds] at h <;> (conv=>arg 4;cbv))
  | (refine Sat.call (w_spec_FormatIntG o.Client (by omega) (by omega)) rfl ledA ?_; conv=>arg 4;cbv)
  | (refine Sat.call (w_spec_FormatIntG o.Seq (by omega) (by omega)) rfl ledA ?_; conv=>arg 4;cbv)
  | (refine Sat.call (w_spec_FormatIntG o.Object (by omega) (by omega)) rfl ledA ?_; conv=>arg 4;cbv)
  | (refine Sat.call (w_spec_FormatIntG o.Old (by omega) (by omega)) rfl ledA ?_; conv=>arg 4;cbv)
  | (refine Sat.call (w_spec_FormatIntG o.Value (by omega) (by omega)) rfl ledA ?_; conv=>arg 4;cbv)
  | (refine Sat.need (by (try dsimp only); simp only [ByteArray.size_append, size_lit, lit5, lit6, lit7]; omega) ?_; conv=>arg 4;cbv)
  | refine Sat.done ?_
 all_goals refine .str ?_
 ·rw [opT_wr o hA (by omega)]
  refine bytes_ext ?_
  simp [swT, wrT]
 ·rw [opT_sw o hA (by omega)]
  refine bytes_ext ?_
  simp [swT, wrT]
--import Derived.Shelf.Strings.Cut
def emT : ByteArray := ⟨#[]⟩
end Go.V.T
