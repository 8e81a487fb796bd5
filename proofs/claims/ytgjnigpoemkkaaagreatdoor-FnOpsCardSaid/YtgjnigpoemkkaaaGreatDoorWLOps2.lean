/- Contracts of the functions that FnOps reaches: what each returns. Conditions: those that each theorem states. -/
import Derived.Test.YtgjnigpoemkkaaaGreatDoorWLOps1
import Derived.Handy
import Derived.Laws.Runes
import Derived.Lib.DecodeN
import Derived.Lib.Join
import Derived.Scope
import Derived.Shelf.RegionOpenPlain
import Derived.Shelf.Small.Utf8
import Derived.Shelf.Strings.Cut
import Derived.Shelf.Strings.IndexAnyAll
import Derived.Shelf.Strings.OnBuilder
namespace Go.V.T
open Go Go.V Go.RowKit
set_option maxRecDepth 100000
set_option linter.unusedVariables false
set_option linter.unusedSimpArgs false
--import Derived.Shelf.Strings.IndexAnyAll
--import Derived.Shelf.Small.Utf8
--import Derived.Lib.DecodeN
--import Derived.Laws.Runes
--import Derived.Scope
--import Derived.Handy
--import Derived.Shelf.RegionOpenPlain
section
open Go.Proofs Go.Shelf Go.Lib
variable {P : Program} {ρ : Go.Shelf.Ren}
set_option maxHeartbeats 2000000 in
set_option maxRecDepth 1000000 in
theorem IndexRune_pm_err (L : Lays.n152 P ρ) (w : World) :
 Calls P (ρ.f 152) #[.string ⟨#[43, 45]⟩, .int .i32 65533] w fun e w' => e = .returned (.int .i64 (-1)) ∧ ∃ pos, w' = w.iter ⟨#[43, 45]⟩ pos := by
 obtain ⟨s, hs⟩ : ∃ s : ByteArray, s = ⟨#[43, 45]⟩ := ⟨_, rfl⟩
 rw [← hs]
 have HA : Aside (∀ (j : Nat) b, s.data.toList[j]? = some b → b.toNat < 128) := by
  intro j b h
  subst hs
  match j, h with
  | 0, h => cases h; decide
  | 1, h => cases h; decide
  | j + 2, h => simp at h
 clear hs
 have t3 := L.t3; have a3 := L.a3; have z3 := L.z3; have v3 := L.v3
 have t4 := L.t4; have a4 := L.a4; have z4 := L.z4; have v4 := L.v4
 have t5 := L.t5; have a5 := L.a5; have z5 := L.z5; have v5 := L.v5
 have t9 := L.t9; have a9 := L.a9; have z9 := L.z9; have v9 := L.v9
 have t21 := L.t21; have a21 := L.a21; have z21 := L.z21; have v21 := L.v21
 go_enter L.f152, Body.n152_ntmps ρ
 go_wp2
 go_loopg [5, 6] s.size (fun g _ _ wx => ∃ i : Nat, i + g = s.size ∧ wx = w.iter s i)
 case atStart => exact ⟨0, by omega, rfl⟩
 case round =>
  obtain ⟨i, hig, rfl⟩ := hrel
  cases gk with
  | zero =>
    obtain rfl : i = s.size := by omega
    have hnx := run_next_end (P := P) w s s.size
    go_wp2
    go_ret
    exact ⟨rfl, _, rfl⟩
  | succ g =>
    have hi : i < s.size := by omega
    obtain ⟨x, hx⟩ : ∃ x : UInt8, s[i]'hi = x := ⟨_, rfl⟩
    have hxl : s.data.toList[i]? = some x := by rw [← hx]; exact Lib.data_getElem? s i hi
    have hx128 : x.toNat < 128 := HA.out i x hxl
    have hnx := fun ty => run_next_ascii (P := P) w s i ty hi (by rw [hx]; exact hx128)
    rw [hx] at hnx
    clear hxl hx
    have hne : ((x.toNat : Int) == 65533) = false := beq_eq_false_iff_ne.2 (by omega)
    go_wp2
    go_roundg g
    case measure => omega
    case rel => exact ⟨i + 1, by omega, rfl⟩
set_option maxHeartbeats 2000000 in
set_option maxRecDepth 1000000 in
theorem IndexRune_pm_big (L : Lays.n152 P ρ) (r : Int) (w : World) (h0 : 128 ≤ r) (h1 : r ≠ 65533) (hv : Lib.validRune r = true) (hE : (∃ x y : UInt8, Utf8.encode r = ⟨#[x, y]⟩ ∧ y ≠ 45) ∨ (∃ x y z : UInt8, Utf8.encode r = ⟨#[x, y, z]⟩) ∨ (∃ x y z u : UInt8, Utf8.encode r = ⟨#[x, y, z, u]⟩)) :
 Calls P (ρ.f 152) #[.string ⟨#[43, 45]⟩, .int .i32 r] w fun e w' => e = .returned (.int .i64 (-1)) ∧ Below w.heap.size w w' := by
 have hlt : ¬ r < 128 := by omega
 have hne : (r == 65533) = false := beq_eq_false_iff_ne.2 h1
 have t3 := L.t3; have a3 := L.a3; have z3 := L.z3; have v3 := L.v3
 have t4 := L.t4; have a4 := L.a4; have z4 := L.z4; have v4 := L.v4
 have t5 := L.t5; have a5 := L.a5; have z5 := L.z5; have v5 := L.v5
 have t9 := L.t9; have a9 := L.a9; have z9 := L.z9; have v9 := L.v9
 have t21 := L.t21; have a21 := L.a21; have z21 := L.z21; have v21 := L.v21
 have e119 : ∀ args w, (callFunc (ρ.f 119) args).run P w = .ok (.enter (ρ.f 119) args) w := enters_of L.f119 (by kernel_rfl) rfl
 have e137 : ∀ args w, (callFunc (ρ.f 137) args).run P w = .ok (.enter (ρ.f 137) args) w := enters_of L.f137 (by kernel_rfl) rfl
 go_enter L.f152, Body.n152_ntmps ρ
 go_wp2_with (go_at_fn (ρ.f 119); refine (Any.utf8_ValidRune { L with } _ _).mono ?_; rintro e w' ⟨rfl, hw⟩; rw [hw, hv])
 have hcv := fun w => run_convert_int_string (P := P) w (ρ.t 21) (ρ.t 9) .i32 r (by rw [t21]; rfl) t9
 have hcase : (∃ x y : UInt8, Utf8.encode r = ⟨#[x, y]⟩ ∧ y ≠ 45) ∨ (∃ x y z : UInt8, Utf8.encode r = ⟨#[x, y, z]⟩) ∨ (∃ x y z u : UInt8, Utf8.encode r = ⟨#[x, y, z, u]⟩) := hE
 rcases hcase with ⟨x, y, he, hy⟩ | ⟨x, y, z, he⟩ | ⟨x, y, z, u, he⟩
 ·rw [he] at hcv
  clear he
  refine wp_scope_straight ?_
  go_wp2
  go_rounds 1
  have mixed := L.mixed
  have hyn : ((((⟨#[43, 45]⟩ : ByteArray)[1]'(by decide)).toNat : Int) != (((⟨#[x, y]⟩ : ByteArray)[1]'(show 1 < 2 by decide)).toNat : Int)) = true := by
   show ((45 : Int) != (y.toNat : Int)) = true
   exact bne_iff_ne.2 (fun e => hy (UInt8.toNat_inj.1 (by show y.toNat = 45; omega)))
  refine wp_scope_straight ?_
  go_wp2
  go_region_o
  all_goals go_wp2
  all_goals try (exfalso; have hc : _ = false := by assumption; rw [hyn] at hc; cases hc)
  all_goals try (go_region_with_o (refine (Any.strings_IndexByte { L with } _ _ _).mono ?_; rintro e w2 ⟨rfl, rfl⟩))
  all_goals try go_wp2
  all_goals try (exfalso; simp_all; done)
  all_goals simp only [Exit.noGoto]
  all_goals exact ⟨rfl, _, results_tmp rfl _ _ _, rfl, by go_grown⟩
 ·rw [he] at hcv
  clear he
  refine wp_scope_straight ?_
  go_wp2
  go_rounds 1
  simp only [Exit.noGoto]
  go_ret
  exact ⟨rfl, Below.refl _ _⟩
 ·rw [he] at hcv
  clear he
  refine wp_scope_straight ?_
  go_wp2
  go_rounds 1
  simp only [Exit.noGoto]
  go_ret
  exact ⟨rfl, Below.refl _ _⟩
theorem get_pos {s : ByteArray} {i : Nat} (h : i < s.size) : s.get! i = s[i]'h := by
 simp [ByteArray.get!, getElem!_pos, h]
 rfl
theorem decode_high (s : ByteArray) (i : Nat) (hi : i < s.size) (h : 128 ≤ (s.get! i).toNat) :
 128 ≤ (Utf8.decode s i).1 ∧ ((Utf8.decode s i).1 = 65533 ∨ Lib.validRune (Utf8.decode s i).1 = true) ∧ 1 ≤ (Utf8.decode s i).2 ∧ i + (Utf8.decode s i).2 ≤ s.size ∧ ∀ j, i ≤ j → j < i + (Utf8.decode s i).2 → 128 ≤ (s.get! j).toNat := by
 rw [Lib.decode_at]
 have one : ∀ j, i ≤ j → j < i + 1 → 128 ≤ (s.get! j).toNat := fun j h1 h2 => by
  obtain rfl : j = i := by omega
  exact h
 unfold Lib.decodeN
 rw [if_neg (by omega)]
 split
 ·rename_i hc
  split
  ·rename_i hv
   refine ⟨by omega, .inr ?_, by omega, by omega, fun j h1 h2 => ?_⟩
   ·simp [Lib.validRune]; omega
   ·obtain rfl | rfl : j = i ∨ j = i + 1 := by omega
    ·exact h
    ·omega
  ·exact ⟨by omega, .inl rfl, by omega, by omega, one⟩
 ·split
  ·rename_i hc
   split
   ·rename_i hv
    refine ⟨by omega, .inr ?_, by omega, by omega, fun j h1 h2 => ?_⟩
    ·simp [Lib.validRune]; omega
    ·obtain rfl | rfl | rfl : j = i ∨ j = i + 1 ∨ j = i + 2 := by omega
     ·exact h
     ·omega
     ·omega
   ·exact ⟨by omega, .inl rfl, by omega, by omega, one⟩
  ·split
   ·rename_i hc
    split
    ·rename_i hv
     refine ⟨by omega, .inr ?_, by omega, by omega, fun j h1 h2 => ?_⟩
     ·simp [Lib.validRune]; omega
     ·obtain rfl | rfl | rfl | rfl : j = i ∨ j = i + 1 ∨ j = i + 2 ∨ j = i + 3 := by omega
      ·exact h
      ·omega
      ·omega
      ·omega
    ·exact ⟨by omega, .inl rfl, by omega, by omega, one⟩
   ·exact ⟨by omega, .inl rfl, by omega, by omega, one⟩
theorem encode_high (r : Int) (h : 128 ≤ r) (hv : Lib.validRune r = true) : (∃ x y : UInt8, Utf8.encode r = ⟨#[x, y]⟩ ∧ y ≠ 45) ∨ (∃ x y z : UInt8, Utf8.encode r = ⟨#[x, y, z]⟩) ∨ (∃ x y z u : UInt8, Utf8.encode r = ⟨#[x, y, z, u]⟩) := by
 have hval : Utf8.valid r = true := by
  simp [Lib.validRune] at hv
  simp [Utf8.valid]
  omega
 unfold Utf8.encode
 simp only [hval, if_true]
 rw [if_neg (by omega)]
 split
 ·refine .inl ⟨_, _, rfl, fun e => ?_⟩
  have := congrArg UInt8.toNat e
  simp at this
  omega
 ·split
  ·exact .inr (.inl ⟨_, _, _, rfl⟩)
  ·exact .inr (.inr ⟨_, _, _, _, rfl⟩)
theorem run_next_any (g : Nat) (wx : World) (s : ByteArray) (pos : Nat) (ty : TypeId) (hh : wx.heap[g]? = some (.stringIter s pos)) (h : pos < s.size) :
 (Instr.next (.pointer (some ⟨g, 0, none⟩)) true ty).run P wx = .ok (.tuple #[.bool true, .int .i64 pos, .int .i32 ((Utf8.decode s pos).1 : Nat)]) { wx with heap := wx.heap.setIfInBounds g (.stringIter s (pos + (Utf8.decode s pos).2)) } := by
 simp only [Instr.next, getObj, setObj, Sem.run_bind, Sem.run, hh, Result.andThen, h, if_true]
 simp [goInt]
theorem run_next_any_end (g : Nat) (wx : World) (s : ByteArray) (pos : Nat) (ty : TypeId) (hh : wx.heap[g]? = some (.stringIter s pos)) (h : ¬ pos < s.size) :
 (Instr.next (.pointer (some ⟨g, 0, none⟩)) true ty).run P wx = .ok (.tuple #[.bool false]) wx := by
 simp [Instr.next, getObj, Sem.run, hh, h]
theorem IndexRune_pm (L : Lays.n152 P ρ) (r : Int) (w : World) (h0 : 0 ≤ r) (hr : r < 128 ∨ r = 65533 ∨ (128 ≤ r ∧ Lib.validRune r = true)) :
 Calls P (ρ.f 152) #[.string ⟨#[43, 45]⟩, .int .i32 r] w fun e w' => e = .returned (.int .i64 (if r < 128 then Lib.indexByte [43, 45] r.toNat.toUInt8 else -1)) ∧ Below w.heap.size w w' := by
 by_cases h1 : r < 128
 ·refine (Any.strings_IndexRune_ascii L _ r w h0 h1).mono ?_
  rintro e w' ⟨rfl, rfl⟩
  rw [if_pos h1]
  exact ⟨rfl, Below.refl _ _⟩
 ·rw [if_neg h1]
  by_cases h2 : r = 65533
  ·subst h2
   refine (IndexRune_pm_err L w).mono ?_
   rintro e w' ⟨rfl, pos, rfl⟩
   exact ⟨rfl, Below.alloc (Below.refl _ _) (Nat.le_refl _) _⟩
  ·obtain h3 | h3 | h3 := hr
   ·exact absurd h3 h1
   ·exact absurd h3 h2
   ·exact IndexRune_pm_big L r w h3.1 h2 h3.2 (encode_high r h3.1 h3.2)
theorem pm_high {b : UInt8} (h : 128 ≤ b.toNat) : ([43, 45] : List UInt8).contains b = false := by
 have h1 : b ≠ 43 := fun e => by rw [e] at h; exact absurd h (by decide)
 have h2 : b ≠ 45 := fun e => by rw [e] at h; exact absurd h (by decide)
 simp [h1, h2]
theorem asd {p : Prop} (h : p) : Aside p := h
theorem below_low {B C : Nat} {a b : World} (h : Below B a b) (hc : C ≤ B) : Below C a b := ⟨h.os, h.tape, h.output, h.size, fun k hk => h.block k (by omega)⟩
def IxAt (w wx : World) (s : ByteArray) (i : Nat) : Prop := wx.heap[w.heap.size]? = some (.stringIter s i) ∧ Below w.heap.size w wx ∧ i ≤ s.size ∧ Lib.NoAny s.data.toList [43, 45] i
theorem IxAt.step {w wx w2 : World} {s : ByteArray} {i : Nat} (h : IxAt w wx s i) (hno : ∀ j, i ≤ j → j < i + (Utf8.decode s i).2 → ([43, 45] : List UInt8).contains (s.get! j) = false) (hk : i + (Utf8.decode s i).2 ≤ s.size)
 (hb : Below ({ wx with heap := wx.heap.setIfInBounds w.heap.size (.stringIter s (i + (Utf8.decode s i).2)) } : World).heap.size { wx with heap := wx.heap.setIfInBounds w.heap.size (.stringIter s (i + (Utf8.decode s i).2)) } w2) : IxAt w w2 s (i + (Utf8.decode s i).2) := by
 obtain ⟨h1, h2, h3, h4⟩ := h
 have hlt : w.heap.size < wx.heap.size := (Array.getElem?_eq_some_iff.1 h1).1
 refine ⟨?_, ?_, hk, fun j b hj hb' => ?_⟩
 ·rw [hb.block _ (by simpa using hlt)]
  simp [hlt]
 ·refine ⟨hb.os.trans h2.os, hb.tape.trans h2.tape, hb.output.trans h2.output, ?_, fun k hk => ?_⟩
  ·have := hb.size
   simp at this
   omega
  ·rw [hb.block k (by simp; omega)]
   show (wx.heap.setIfInBounds w.heap.size _)[k]? = _
   rw [Array.getElem?_setIfInBounds_ne (by omega)]
   exact h2.block k hk
 ·by_cases hji : j < i
  ·exact h4 j b hji hb'
  ·have := hno j (by omega) hj
   have hjs : j < s.size := by omega
   rw [get_pos hjs] at this
   have e := Lib.data_getElem? s j hjs
   rw [e] at hb'
   cases hb'
   exact this
set_option maxHeartbeats 4000000 in
set_option maxRecDepth 1000000 in
theorem IndexAny_pm_short (L : Lays.n153 P ρ) (s : ByteArray) (w : World) (h8 : s.size ≤ 8) :
 Calls P (ρ.f 153) #[.string s, .string ⟨#[43, 45]⟩] w fun e w' => e = .returned (.int .i64 (Lib.indexAny s.data.toList [43, 45])) ∧ Below w.heap.size w w' := by
 obtain ⟨chars, hch⟩ : ∃ c : ByteArray, c = ⟨#[43, 45]⟩ := ⟨_, rfl⟩
 have hemp : chars.toList.isEmpty = false := by rw [hch, Lib.toList_data]; rfl
 have h2 : 2 ≤ chars.size := by rw [hch]; decide
 have hn1 : ((chars.size : Int) == 1) = false := beq_eq_false_iff_ne.2 (by omega)
 have h8z : decide ((8 : Int) < (s.size : Int)) = false := decide_eq_false (by omega)
 have HC : Aside (chars = ⟨#[43, 45]⟩) := hch
 rw [← hch]
 clear hch h2
 have t3 := L.t3; have a3 := L.a3; have z3 := L.z3; have v3 := L.v3
 have t4 := L.t4; have a4 := L.a4; have z4 := L.z4; have v4 := L.v4
 have t5 := L.t5; have a5 := L.a5; have z5 := L.z5; have v5 := L.v5
 have t9 := L.t9; have a9 := L.a9; have z9 := L.z9; have v9 := L.v9
 have t21 := L.t21; have a21 := L.a21; have z21 := L.z21; have v21 := L.v21
 have e152 : ∀ args w, (callFunc (ρ.f 152) args).run P w = .ok (.enter (ρ.f 152) args) w := enters_of L.f152 (by kernel_rfl) rfl
 have e226 : ∀ args w, (callFunc (ρ.f 226) args).run P w = .ok (.enter (ρ.f 226) args) w := enters_of L.f226 (by kernel_rfl) rfl
 go_enter L.f153, Body.n153_ntmps ρ
 go_wp2_with (go_at_fn (ρ.f 226); refine (Any.strings_shouldUseASCIISet { L with } _ _).mono ?_; rintro e w' ⟨rfl, hw⟩; rw [hw, h8z])
 go_loopg [9, 10] s.size (fun g _ _ wx => ∃ i : Nat, i + g = s.size ∧ IxAt w wx s i)
 case atStart => exact ⟨0, by omega, World.iter_heap _ _ _, Below.alloc (Below.refl _ _) (Nat.le_refl _) _, Nat.zero_le _, Lib.NoAny.zero _ _⟩
 case round =>
  obtain ⟨i, hig, hat⟩ := hrel
  have HN : Aside (IxAt w _ s i) := hat
  have hhp := hat.1
  clear hat
  cases gk with
  | zero =>
    obtain rfl : i = s.size := by omega
    have hnx := fun ty => run_next_any_end (P := P) w.heap.size _ s s.size ty hhp (by omega)
    go_wp2
    go_ret
    exact ⟨by rw [Lib.indexAny_none (by rw [← Lib.size_eq]; exact HN.out.2.2.2)]; rfl, HN.out.2.1⟩
  | succ g =>
    have hi : i < s.size := by omega
    have hnx := fun ty => run_next_any (P := P) w.heap.size _ s i ty hhp hi
    have hstep : ∀ w2, (∀ j, i ≤ j → j < i + (Utf8.decode s i).2 → ([43, 45] : List UInt8).contains (s.get! j) = false) → i + (Utf8.decode s i).2 ≤ s.size → Below ({ wr with heap := wr.heap.setIfInBounds w.heap.size (.stringIter s (i + (Utf8.decode s i).2)) } : World).heap.size { wr with heap := wr.heap.setIfInBounds w.heap.size (.stringIter s (i + (Utf8.decode s i).2)) } w2 → IxAt w w2 s (i + (Utf8.decode s i).2) := fun w2 h1 h2 h3 => HN.out.step h1 h2 h3
    have hbw : Below w.heap.size w { wr with heap := wr.heap.setIfInBounds w.heap.size (.stringIter s (i + (Utf8.decode s i).2)) } := by
     refine ⟨HN.out.2.1.os, HN.out.2.1.tape, HN.out.2.1.output, by have := HN.out.2.1.size; simpa using this, fun k hk => ?_⟩
     show (wr.heap.setIfInBounds w.heap.size _)[k]? = _
     rw [Array.getElem?_setIfInBounds_ne (by omega)]
     exact HN.out.2.1.block k hk
    have Hs := asd hstep
    clear hstep
    by_cases hx : (s[i]'hi).toNat < 128
    ·have hdec := decode_ascii s i hi hx
     have hstep := Hs.out
     clear Hs
     rw [hdec] at hstep hnx hbw
     have hgx := get_pos hi
     have hxl := Lib.data_getElem? s i hi
     generalize s[i]'hi = x at *
     have Hx : Aside (s.data.toList[i]? = some x) := hxl
     have Hgx : Aside (s.get! i = x) := hgx
     have HR : ∀ w1, Calls P (ρ.f 152) #[.string chars, .int .i32 (x.toNat : Nat)] w1 fun e w' => e = .returned (.int .i64 (Lib.indexByte [43, 45] x)) ∧ Below w1.heap.size w1 w' := fun w1 => by
      rw [HC.out]
      refine (IndexRune_pm { L with } _ w1 (by omega) (.inl (by omega))).mono ?_
      rintro e w' ⟨rfl, hb⟩
      rw [if_pos (by omega)]
      have hback : ((x.toNat : Int)).toNat.toUInt8 = x := by simp
      rw [hback]
      exact ⟨rfl, hb⟩
     have hcon := Lib.contains_iff_indexByte [43, 45] x
     have Hs := asd hstep
     have Hbw := asd hbw
     clear hstep hdec hgx hxl hbw hx
     simp only at hnx
     generalize hwn : ({ heap := wr.heap.setIfInBounds w.heap.size (.stringIter s (i + 1)), tape := wr.tape, drawn := wr.drawn, os := wr.os, output := wr.output } : World) = wn at *
     clear hwn
     cases hin : ([43, 45] : List UInt8).contains x
     ·rw [hin] at hcon
      have hlt : ¬ ((0 : Int) ≤ Lib.indexByte [43, 45] x) := of_decide_eq_false hcon.symm
      clear hcon
      have Hin := asd hin
      clear hin
      generalize Lib.indexByte [43, 45] x = q at *
      go_wp2_with (go_at_fn (ρ.f 152); refine (HR _).mono ?_; rintro e w2 ⟨rfl, hbel⟩)
      go_roundg g
      case measure => omega
      case rel =>
       have h1 := Hs.out
       refine ⟨i + 1, by omega, h1 w2 (fun j h3 h4 => ?_) (by omega) ?_⟩
       ·obtain rfl : j = i := by omega
        rw [Hgx.out]
        exact Hin.out
       ·exact hbel
     ·rw [hin] at hcon
      have hge : (0 : Int) ≤ Lib.indexByte [43, 45] x := of_decide_eq_true hcon.symm
      clear hcon
      have Hin := asd hin
      clear hin
      generalize Lib.indexByte [43, 45] x = q at *
      go_wp2_with (go_at_fn (ρ.f 152); refine (HR _).mono ?_; rintro e w2 ⟨rfl, hbel⟩)
      go_ret
      have h2 := Hbw.out
      exact ⟨by rw [Lib.indexAny_hit HN.out.2.2.2 Hx.out Hin.out]; rfl, h2.trans (below_low hbel h2.size)⟩
    ·have hge : 128 ≤ (s.get! i).toNat := by rw [get_pos hi]; omega
     obtain ⟨d1, d2, d3, d4, d5⟩ := decode_high s i hi hge
     have HR : ∀ w1, Calls P (ρ.f 152) #[.string chars, .int .i32 ((Utf8.decode s i).1 : Nat)] w1 fun e w' => e = .returned (.int .i64 (-1)) ∧ Below w1.heap.size w1 w' := fun w1 => by
      rw [HC.out]
      refine (IndexRune_pm { L with } _ w1 (by omega) (d2.elim (fun h => .inr (.inl (by rw [h]; rfl))) (fun h => .inr (.inr ⟨by omega, h⟩)))).mono ?_
      rintro e w' ⟨rfl, hb⟩
      rw [if_neg (by omega)]
      exact ⟨rfl, hb⟩
     have hno : ∀ j, i ≤ j → j < i + (Utf8.decode s i).2 → ([43, 45] : List UInt8).contains (s.get! j) = false := fun j h1 h2 => pm_high (d5 j h1 h2)
     have Hno := asd hno
     clear hno d5 d2 d1 hx hge
     generalize Utf8.decode s i = ck at *
     obtain ⟨c, k⟩ := ck
     simp only at hnx HR d3 d4 hbw
     generalize ({ heap := wr.heap.setIfInBounds w.heap.size (.stringIter s (i + k)), tape := wr.tape, drawn := wr.drawn, os := wr.os, output := wr.output } : World) = wn at *
     go_wp2_with (go_at_fn (ρ.f 152); refine (HR _).mono ?_; rintro e w2 ⟨rfl, hbel⟩)
     go_roundg (s.size - (i + k))
     case measure => omega
     case rel => exact ⟨i + k, by omega, Hs.out w2 Hno.out d4 hbel⟩
theorem IndexAny_pm (L : Lays.n153 P ρ) (hv116 : ∀ w, (zeroValue (ρ.t 116)).run P w = .ok (.agg (Array.replicate 256 (.bool false))) w) (hi116 : (P.info? (ρ.t 116)).map (·.size) = some 256) (s : ByteArray) (w : World) (hs : s.size < 4294967281) :
 Calls P (ρ.f 153) #[.string s, .string ⟨#[43, 45]⟩] w fun e w' => e = .returned (.int .i64 (Lib.indexAny s.data.toList [43, 45])) ∧ Below w.heap.size w w' := by
 by_cases h8 : s.size ≤ 8
 ·exact IndexAny_pm_short L s w h8
 ·refine (Any.strings_IndexAny_long L hv116 hi116 s ⟨#[43, 45]⟩ w (by decide) (by omega) hs (by decide) (fun j b h => ?_)).mono ?_
  ·match j, h with
   | 0, h => cases h; decide
   | 1, h => cases h; decide
   | j + 2, h => simp at h
  ·rintro e w' ⟨rfl, rfl⟩
   exact ⟨rfl, Below.alloc (Below.alloc (Below.refl _ _) (Nat.le_refl _) _) (by show w.heap.size ≤ (w.heap.push _).size; rw [Array.size_push]; omega) _⟩
end
def okSes (p : Int) (x : GSession) : Bool := decide ((0 ≤ x.Client ∧ x.Client ≤ 2) ∧ p < x.Client ∧ (1 ≤ x.Seq ∧ x.Seq ≤ 99) ∧ (0 ≤ x.Result.Value ∧ x.Result.Value ≤ 9))
def sesGo (p : Int) : List GSession → Bool
 | [] => true
 | x :: r => okSes p x && sesGo x.Client r
def objOk (v : Int) : Bool := decide (0 ≤ v ∧ v ≤ 9)
def validM (m : GMachine) : Bool := decide (m.Objects.length = 3) && m.Objects.all objOk && sesGo (-1) m.Sessions
def prevC (l : List GSession) : Nat → Int
 | 0 => -1
 | i + 1 => match l[i]? with | some e => e.Client | none => 0
theorem prevC_get {l : List GSession} {i : Nat} {e : GSession} (h : l[i]? = some e) : prevC l (i + 1) = e.Client := by simp [prevC, h]
theorem prevC_zero {l : List GSession} {i : Nat} (h : i = 0) : prevC l i = -1 := by subst h; rfl
theorem prevC_pos {l : List GSession} {i j : Nat} {e : GSession} (h : l[j]? = some e) (hj : i = j + 1) : prevC l i = e.Client := by subst hj; exact prevC_get h
theorem sesGo_step {l : List GSession} {i : Nat} {e : GSession} {b : Bool} (hb : b = sesGo (prevC l i) (l.drop i)) (h : l[i]? = some e) (h1 : (0 ≤ e.Client ∧ e.Client ≤ 2) ∧ prevC l i < e.Client ∧ (1 ≤ e.Seq ∧ e.Seq ≤ 99) ∧ (0 ≤ e.Result.Value ∧ e.Result.Value ≤ 9)) : b = sesGo (prevC l (i + 1)) (l.drop (i + 1)) := by
 rw [hb, drop_get h, sesGo, prevC_get h, okSes, decide_eq_true h1]
 rfl
theorem sesGo_bad {l : List GSession} {i : Nat} {e : GSession} {b : Bool} (hb : b = sesGo (prevC l i) (l.drop i)) (h : l[i]? = some e) (hn : ¬ ((0 ≤ e.Client ∧ e.Client ≤ 2) ∧ prevC l i < e.Client ∧ (1 ≤ e.Seq ∧ e.Seq ≤ 99) ∧ (0 ≤ e.Result.Value ∧ e.Result.Value ≤ 9))) : b = false := by
 rw [hb, drop_get h, sesGo, okSes, decide_eq_false hn]
 rfl
theorem sesGo_end {l : List GSession} {i : Nat} {b : Bool} (hb : b = sesGo (prevC l i) (l.drop i)) (h : i = l.length) : b = true := by
 rw [hb, h, List.drop_length, sesGo]
theorem sesGo_spec : ∀ {l : List GSession} {p : Int}, sesGo p l = true → p ≤ 2 → ((l.length : Int) ≤ 2 - p) ∧ ∀ x ∈ l, okSes p x = true
 | [], p, _, hp => ⟨by simp; omega, by simp⟩
 | x :: r, p, h, hp => by
   rw [sesGo, Bool.and_eq_true] at h
   have h1 := of_decide_eq_true h.1
   obtain ⟨h2, h3⟩ := sesGo_spec h.2 h1.1.2
   refine ⟨by simp only [List.length_cons]; omega, fun y hy => ?_⟩
   rcases List.mem_cons.1 hy with rfl | hy
   ·exact h.1
   ·have h4 := of_decide_eq_true (h3 y hy)
    exact decide_eq_true ⟨h4.1, by omega, h4.2.2⟩
theorem w_slices_IndexFunc_intint0 (l : List Int) (f : Nat) (p : Int → Bool) (hf : ∀ x, Fn Pr f [.int .i64 (fun _ => x)] (.bo (p x))) (hb : bIntS l) : Fn Pr n_slices_IndexFunc_intint [.sl 1 (encI .i64) (fun _ => l), .clo f []] (.int .i64 (fun _ => idxF p l)) := by
 refine k_slices_IndexFunc_intint.fn (by kernel_rfl) ?_
 have h0 : l.length * 8 ≤ 140737488351232 := hb
 conv=>arg 4;cbv
 refine Sat.loopP (ι := Nat) (fun i => [(8, .int .i64 (fun _ => (i : Int)))]) (fun i => []) (fun i => i ≤ l.length ∧ idxF p l = if idxF p (l.drop i) < 0 then -1 else idxF p (l.drop i) + i) (fun i => l.length - i) 0 ?_ ⟨by omega, by have := (idxF_any (p := p) (l := l)).2; simp; omega⟩ (fun i hi => ?_)
 ·exact lesA
 conv=>arg 4;cbv
 repeat' first
  | (refine Sat.cmp (fun h => ?_) (fun h => ?_) <;> simp only [Cmp.holds] at h <;> (conv=>arg 4;cbv))
  | (refine Sat.need ndA ?_; conv=>arg 4;cbv)
  | (refine Sat.idxk (by assumption) ?_; conv=>arg 4;cbv) | (refine Sat.idx ndA (fun v_ hv_ => ?_); conv=>arg 4;cbv)
  | (refine Sat.callb (hf _) rfl ledA (fun h => ?_) (fun h => ?_) <;> (conv=>arg 4;cbv))
  | (refine Sat.ari64 ndA ndA ?_; conv=>arg 4;cbv)
  | (refine Sat.pop ?_; conv=>arg 4;cbv)
  | refine Sat.next (i + 1) ?_ ?_ (by (try dsimp only); exact arA)
  | refine Sat.done ?_
 ·refine .int ?_
  exact idxF_hit (by assumption) hi.2 h
 ·exact lesA
 ·exact ⟨by exact arA, idxF_step (by assumption) hi.2 h⟩
 ·refine .int ?_
  have e1 : i = l.length := by exact arA
  rw [hi.2, e1, List.drop_length, idxF]
  simp
theorem w_slices_ContainsFunc_intint0 (l : List Int) (f : Nat) (p : Int → Bool) (hf : ∀ x, Fn Pr f [.int .i64 (fun _ => x)] (.bo (p x))) (hb : bIntS l) : Fn Pr n_slices_ContainsFunc_intint [.sl 1 (encI .i64) (fun _ => l), .clo f []] (.bo (l.any p)) := by
 refine k_slices_ContainsFunc_intint.fn (by kernel_rfl) ?_
 conv=>arg 4;cbv
 repeat' first
  | (refine Sat.cmp (fun h => ?_) (fun h => ?_) <;> simp only [Cmp.holds] at h <;> (conv=>arg 4;cbv))
  | (refine Sat.call (w_slices_IndexFunc_intint0 l f p hf hb) rfl ledA ?_; conv=>arg 4;cbv)
  | (refine Sat.need ndA ?_; conv=>arg 4;cbv)
  | (refine Sat.idxk (by assumption) ?_; conv=>arg 4;cbv) | (refine Sat.idx ndA (fun v_ hv_ => ?_); conv=>arg 4;cbv)
  | (refine Sat.ari64 ndA ndA ?_; conv=>arg 4;cbv)
  | (refine Sat.pop ?_; conv=>arg 4;cbv)
  | refine Sat.done ?_
 all_goals refine led_bo ?_
 all_goals have := (idxF_any (p := p) (l := l)).1
 ·exact (this.1 h).symm
 ·cases e : l.any p with
  | false => rfl
  | true => exact absurd (this.2 e) h
theorem w_impl_IsValidMachine_c1 (x : Int) : Fn Pr n_impl_IsValidMachine_c1 [.int .i64 (fun _ => x)] (.bo (!objOk x)) := by
 refine k_impl_IsValidMachine_c1.fn (by kernel_rfl) ?_
 conv=>arg 4;cbv
 repeat' first
  | (refine Sat.cmp (fun h => ?_) (fun h => ?_) <;> simp only [Cmp.holds] at h <;> (conv=>arg 4;cbv))
  | (refine Sat.callb (w_impl_within _ _ _) rfl ledA (fun h => ?_) (fun h => ?_) <;> (try simp only [decide_eq_true_eq, decide_eq_false_iff_not] at h) <;> (conv=>arg 4;cbv))
  | (refine Sat.need ndA ?_; conv=>arg 4;cbv)
  | (refine Sat.idxk (by assumption) ?_; conv=>arg 4;cbv) | (refine Sat.idx ndA (fun v_ hv_ => ?_); conv=>arg 4;cbv)
  | (refine Sat.ari64 ndA ndA ?_; conv=>arg 4;cbv)
  | (refine Sat.pop ?_; conv=>arg 4;cbv)
  | refine Sat.done ?_
 all_goals refine led_bo ?_ <;> simp [objOk] <;> omega
theorem not_any_all (l : List Int) : l.all objOk = !(l.any (fun x => !objOk x)) := by
 induction l with
 | nil => rfl
 | cons x r ih => rw [List.all_cons, List.any_cons, ih]; cases objOk x <;> simp
set_option maxHeartbeats 2000000 in
theorem w_impl_IsValidMachine (m : GMachine) (hb : bMachine m) : Fn Pr n_impl_IsValidMachine [aGMachine m] (.bo (validM m)) := by
 have hb1 : bIntS m.Objects := hb.1
 have hb2 : m.Sessions.length * 32 ≤ 140737488351232 := hb.2
 have HC := w_slices_ContainsFunc_intint0 m.Objects n_impl_IsValidMachine_c1 _ w_impl_IsValidMachine_c1 hb1
 refine k_impl_IsValidMachine.fn (by kernel_rfl) ?_
 conv=>arg 4;cbv
 refine Sat.cmp (fun h => ?_) (fun h => ?_) <;> simp only [Cmp.holds] at h
 rotate_left
 ·conv=>arg 4;cbv
  refine Sat.done (led_bo ?_)
  rw [validM, decide_eq_false (fun e => h (by exact arA))]
  rfl
 have h3 : m.Objects.length = 3 := by exact arA
 conv=>arg 4;cbv
 refine Sat.callb HC rfl ledA (fun hA => ?_) (fun hA => ?_)
 ·conv=>arg 4;cbv
  refine Sat.done (led_bo ?_)
  rw [validM, not_any_all, hA]
  simp
 have hall : m.Objects.all objOk = true := by rw [not_any_all, hA]; rfl
 have hv : validM m = sesGo (-1) m.Sessions := by rw [validM, hall, decide_eq_true h3]; rfl
 rw [hv]
 conv=>arg 4;cbv
 refine Sat.loopP (ι := Nat) (fun i => [(17, .int .i64 (fun _ => (i : Int)))]) (fun i => []) (fun i => i ≤ m.Sessions.length ∧ sesGo (-1) m.Sessions = sesGo (prevC m.Sessions i) (m.Sessions.drop i)) (fun i => m.Sessions.length - i) 0 ?_ ⟨by omega, by simp [prevC]⟩ (fun i hi => ?_)
 ·exact lesA
 conv=>arg 4;cbv
 repeat' first
  | (refine Sat.cmp (fun h => ?_) (fun h => ?_) <;> simp only [Cmp.holds] at h <;> (conv=>arg 4;cbv))
  | (refine Sat.need ndA ?_; conv=>arg 4;cbv)
  | (refine Sat.idxk (by assumption) ?_; conv=>arg 4;cbv) | (refine Sat.idx ndA (fun v_ hv_ => ?_); conv=>arg 4;cbv)
  | (refine Sat.callb (w_impl_within _ _ _) rfl ledA (fun h => ?_) (fun h => ?_) <;> (try simp only [decide_eq_true_eq, decide_eq_false_iff_not] at h) <;> (conv=>arg 4;cbv))
  | (refine Sat.ari64 ndA ndA ?_; conv=>arg 4;cbv)
  | (refine Sat.pop ?_; conv=>arg 4;cbv)
  | refine Sat.next (i + 1) ?_ ?_ (by (try dsimp only); exact arA)
  | refine Sat.done ?_
 all_goals have hz := @prevC_zero m.Sessions i
 all_goals try have hp := prevC_pos (l := m.Sessions) (i := i) hv_ (by exact arA)
 all_goals first
  | (refine led_bo ?_; rw [sesGo_bad (i := i) hi.2 (by assumption) (fun q => by (try simp only [ncast] at *); omega)]; done)
  | (exact lesA; done)
  | (refine ⟨by exact arA, sesGo_step hi.2 (by assumption) ⟨by assumption, ?_, by assumption, by assumption⟩⟩; (try simp only [ncast] at *); omega)
  | (refine led_bo ?_; rw [sesGo_end hi.2 (by exact arA)]; done)
  | trace_state
set_option maxHeartbeats 2000000 in
theorem w_spec_IsValidMachine (m : GMachine) (hb : bMachine m) : Fn Pr n_spec_IsValidMachine [aGMachine m] (.bo (validM m)) := by
 have hb1 : m.Objects.length * 8 ≤ 140737488351232 := hb.1
 have hb2 : m.Sessions.length * 32 ≤ 140737488351232 := hb.2
 refine k_spec_IsValidMachine.fn (by kernel_rfl) ?_
 conv=>arg 4;cbv
 refine Sat.loopP (ι := Nat) (fun i => [(3, .int .i64 (fun _ => (i : Int)))]) (fun i => []) (fun i => i ≤ m.Objects.length ∧ m.Objects.all objOk = (m.Objects.drop i).all objOk) (fun i => m.Objects.length - i) 0 ?_ ⟨by omega, by simp⟩ (fun i hi => ?_)
 ·exact lesA
 conv=>arg 4;cbv
 refine Sat.cmp (fun h => ?_) (fun h => ?_) <;> simp only [Cmp.holds] at h
 ·conv=>arg 4;cbv
  refine Sat.need (by (try dsimp only); exact arA) ?_
  conv=>arg 4;cbv
  refine Sat.idx (by (try dsimp only); exact arA) (fun v hv => ?_)
  have hv : m.Objects[i]? = some v := by simpa using hv
  conv=>arg 4;cbv
  refine Sat.callb (w_spec_l1In _ _ _) rfl ledA (fun hA => ?_) (fun hA => ?_)
  ·have hA := of_decide_eq_true hA
   conv=>arg 4;cbv
   refine Sat.ari64 (by (try dsimp only); exact arA) (by (try dsimp only); exact arA) ?_
   conv=>arg 4;cbv
   refine Sat.next (i + 1) ?_ ⟨by exact arA, ?_⟩ (by (try dsimp only); exact arA)
   ·exact lesA
   ·rw [hi.2, drop_get hv, List.all_cons, objOk, decide_eq_true hA]
    rfl
  ·have hA := of_decide_eq_false hA
   conv=>arg 4;cbv
   refine Sat.pop ?_
   conv=>arg 4;cbv
   refine Sat.done (led_bo ?_)
   rw [validM, hi.2, drop_get hv, List.all_cons, objOk, decide_eq_false hA]
   simp
 have hie : i = m.Objects.length := by exact arA
 have hall : m.Objects.all objOk = true := by rw [hi.2, hie, List.drop_length]; rfl
 have hv : validM m = (decide (m.Objects.length = 3) && sesGo (-1) m.Sessions) := by rw [validM, hall, Bool.and_true]
 rw [hv]
 conv=>arg 4;cbv
 refine Sat.pop ?_
 conv=>arg 4;cbv
 clear hi hie h
 refine Sat.loopP (ι := Nat) (fun i => [(4, .int .i64 (fun _ => (i : Int)))]) (fun i => []) (fun i => i ≤ m.Sessions.length ∧ sesGo (-1) m.Sessions = sesGo (prevC m.Sessions i) (m.Sessions.drop i)) (fun i => m.Sessions.length - i) 0 ?_ ⟨by omega, by simp [prevC]⟩ (fun i hi => ?_)
 ·exact lesA
 conv=>arg 4;cbv
 repeat' first
  | (refine Sat.cmp (fun h => ?_) (fun h => ?_) <;> simp only [Cmp.holds] at h <;> (conv=>arg 4;cbv))
  | (refine Sat.need ndA ?_; conv=>arg 4;cbv)
  | (refine Sat.idxk (by assumption) ?_; conv=>arg 4;cbv) | (refine Sat.idx ndA (fun v_ hv_ => ?_); conv=>arg 4;cbv)
  | (refine Sat.callb (w_spec_l1In _ _ _) rfl ledA (fun h => ?_) (fun h => ?_) <;> (try simp only [decide_eq_true_eq, decide_eq_false_iff_not] at h) <;> (conv=>arg 4;cbv))
  | (refine Sat.ari64 ndA ndA ?_; conv=>arg 4;cbv)
  | (refine Sat.pop ?_; conv=>arg 4;cbv)
  | refine Sat.next (i + 1) ?_ ?_ (by (try dsimp only); exact arA)
  | refine Sat.done ?_
 all_goals have hz := @prevC_zero m.Sessions i
 all_goals try have hp := prevC_pos (l := m.Sessions) (i := i) hv_ (by exact arA)
 all_goals first
  | (refine led_bo ?_; rw [sesGo_bad (i := i) hi.2 (by assumption) (fun q => by (try simp only [ncast] at *); omega), Bool.and_false]; done)
  | (exact lesA; done)
  | (refine ⟨by exact arA, sesGo_step hi.2 (by assumption) ⟨by assumption, ?_, by assumption, by assumption⟩⟩; (try simp only [ncast] at *); omega)
  | (refine led_bo ?_; rw [sesGo_end hi.2 (by exact arA), Bool.and_true]; first | exact (decide_eq_true (by (try simp only [ncast] at *); omega)).symm | exact (decide_eq_false (by (try simp only [ncast] at *); omega)).symm)
  | trace_state
def sgT (b : Bool) : ByteArray := if b = true then ⟨#[43]⟩ else ⟨#[45]⟩
def sesT (x : GSession) : ByteArray := ⟨#[32]⟩ ++ sI x.Client ++ ⟨#[46]⟩ ++ sI x.Seq ++ sgT x.Result.Done ++ sI x.Result.Value
def sesL (l : List GSession) : List UInt8 := l.flatMap (fun x => (sesT x).data.toList)
def mchT (m : GMachine) : ByteArray := if validM m = true then ⟨((fS m.Objects).data.toList ++ sesL m.Sessions).toArray⟩ else ⟨#[]⟩
theorem validM_spec {m : GMachine} (h : validM m = true) : m.Objects.length = 3 ∧ (∀ v ∈ m.Objects, 0 ≤ v ∧ v ≤ 9) ∧ m.Sessions.length ≤ 3 ∧ (∀ x ∈ m.Sessions, (0 ≤ x.Client ∧ x.Client ≤ 2) ∧ (1 ≤ x.Seq ∧ x.Seq ≤ 99) ∧ (0 ≤ x.Result.Value ∧ x.Result.Value ≤ 9)) ∧ sesGo (-1) m.Sessions = true := by
 rw [validM, Bool.and_eq_true, Bool.and_eq_true] at h
 obtain ⟨⟨h1, h2⟩, h3⟩ := h
 have h4 := sesGo_spec h3 (by omega)
 refine ⟨of_decide_eq_true h1, fun v hv => of_decide_eq_true (List.all_eq_true.1 h2 v hv), by have := h4.1; omega, fun x hx => ?_, h3⟩
 have h5 := of_decide_eq_true (h4.2 x hx)
 exact ⟨h5.1, h5.2.2.1, h5.2.2.2⟩
theorem sesT_size {x : GSession} (h : (0 ≤ x.Client ∧ x.Client ≤ 2) ∧ (1 ≤ x.Seq ∧ x.Seq ≤ 99) ∧ (0 ≤ x.Result.Value ∧ x.Result.Value ≤ 9)) : (sI x.Client).size ≤ 2 ∧ (sI x.Seq).size ≤ 2 ∧ (sI x.Result.Value).size ≤ 2 ∧ (sgT x.Result.Done).size = 1 := by
 refine ⟨(sI_size (by omega) (by omega)).2, (sI_size (by omega) (by omega)).2, (sI_size (by omega) (by omega)).2, ?_⟩
 unfold sgT
 split <;> rfl
theorem sesL_snoc {l : List GSession} {i : Nat} {x : GSession} (hx : l[i]? = some x) : sesL (l.take (i + 1)) = sesL (l.take i) ++ (sesT x).data.toList := by
 rw [sesL, List.take_add_one, hx, List.flatMap_append]
 simp [sesL]
theorem sesT_impl (u : ByteArray) (c q v : Int) (d : Bool) : u ++ sesT ⟨c, q, ⟨d, v⟩⟩ = u ++ (⟨#[32]⟩ ++ sI c ++ ⟨#[46]⟩ ++ sI q ++ (if d = true then ⟨#[43]⟩ else ⟨#[45]⟩) ++ sI v) := rfl
theorem sesT_spec (u : ByteArray) (c q v : Int) (d : Bool) : u ++ sesT ⟨c, q, ⟨d, v⟩⟩ = u ++ ⟨#[32]⟩ ++ sI c ++ ⟨#[46]⟩ ++ sI q ++ (if d = true then ⟨#[43]⟩ else ⟨#[45]⟩) ++ sI v := by
 refine bytes_ext ?_
 simp [sesT, sgT]
theorem size_lit {b : UInt8} : (⟨#[b]⟩ : ByteArray).size = 1 := rfl
set_option maxHeartbeats 2000000 in
theorem w_impl_FormatMachine (m : GMachine) (hb : bMachine m) : Fn Pr n_impl_FormatMachine [aGMachine m] (.str (fun _ => mchT m)) := by
 refine k_impl_FormatMachine.fn (by kernel_rfl) ?_
 conv=>arg 4;cbv
 refine Sat.callb (w_impl_IsValidMachine m hb) rfl ledA (fun hV => ?_) (fun hV => ?_)
 rotate_left
 ·conv=>arg 4;cbv
  refine Sat.done (.str ?_)
  rw [mchT, if_neg (by rw [hV]; exact Bool.false_ne_true)]
 obtain ⟨h3, hv, hl3, hs, _⟩ := validM_spec hV
 conv=>arg 4;cbv
 refine Sat.loopP (ι := Nat × ByteArray) (fun i => [(15, .int .i64 (fun _ => (i.1 : Int))), (3, .str (fun _ => i.2))]) (fun i => []) (fun i => i.1 ≤ m.Objects.length ∧ i.2 = fS (m.Objects.take i.1) ∧ i.2.size ≤ 2 * i.1) (fun i => m.Objects.length - i.1) (0, ⟨#[]⟩) ?_ ⟨by simp only; omega, rfl, Nat.le_refl _⟩ (fun y hy => ?_)
 ·exact lesA
 obtain ⟨i, s⟩ := y
 obtain ⟨hi, hs1, hs2⟩ := hy
 simp only at hi hs1 hs2
 conv=>arg 4;cbv
 refine Sat.cmp (fun h => ?_) (fun h => ?_) <;> simp only [Cmp.holds] at h
 ·conv=>arg 4;cbv
  refine Sat.need (by (try dsimp only); exact arA) ?_
  conv=>arg 4;cbv
  refine Sat.idx (by (try dsimp only); exact arA) (fun v hv1 => ?_)
  have hv1 : m.Objects[i]? = some v := by simpa using hv1
  have hr := hv v (List.mem_of_getElem? hv1)
  have hz := (sI_size (n := v) (by omega) (by omega)).2
  conv=>arg 4;cbv
  refine Sat.call (w_impl_FormatIntG v (by omega) (by omega)) rfl ledA ?_
  conv=>arg 4;cbv
  refine Sat.need (by (try dsimp only); omega) ?_
  conv=>arg 4;cbv
  refine Sat.ari64 (by (try dsimp only); exact arA) (by (try dsimp only); exact arA) ?_
  conv=>arg 4;cbv
  refine Sat.next (i + 1, s ++ sI v) ?_ ⟨by exact arA, fS_snoc hs1 hv1, by (try dsimp only); rw [ByteArray.size_append]; omega⟩ (by (try dsimp only); exact arA)
  exact lesA
 have hie : i = m.Objects.length := by exact arA
 conv=>arg 4;cbv
 refine Sat.pop ?_
 have hs3 : s = fS m.Objects := by rw [hs1, hie, List.take_length]
 have hs6 : s.size ≤ 6 := by omega
 clear hs1 hs2 h hi
 conv=>arg 4;cbv
 refine Sat.loopP (ι := Nat × ByteArray) (fun i => [(27, .int .i64 (fun _ => (i.1 : Int))), (3, .str (fun _ => i.2))]) (fun i => []) (fun i => i.1 ≤ m.Sessions.length ∧ i.2.data.toList = (fS m.Objects).data.toList ++ sesL (m.Sessions.take i.1) ∧ i.2.size ≤ 6 + 20 * i.1) (fun i => m.Sessions.length - i.1) (0, s) ?_ ⟨by simp only; omega, by simp [sesL, hs3], hs6⟩ (fun y hy => ?_)
 ·exact lesA
 obtain ⟨j, u⟩ := y
 obtain ⟨hj, hu1, hu2⟩ := hy
 simp only at hj hu1 hu2
 conv=>arg 4;cbv
 refine Sat.cmp (fun h => ?_) (fun h => ?_) <;> simp only [Cmp.holds] at h
 ·conv=>arg 4;cbv
  refine Sat.need (by (try dsimp only); exact arA) ?_
  conv=>arg 4;cbv
  refine Sat.idx (by (try dsimp only); exact arA) (fun x hx => ?_)
  have hx : m.Sessions[j]? = some x := by simpa using hx
  have hr := hs x (List.mem_of_getElem? hx)
  have hsn := sesL_snoc hx
  obtain ⟨z1, z2, z3, z4⟩ := sesT_size hr
  have hux : (u ++ sesT x).data.toList = (fS m.Objects).data.toList ++ sesL (m.Sessions.take (j + 1)) := by
   rw [hsn, ← List.append_assoc, ← hu1]; simp
  have huz : (u ++ sesT x).size ≤ 6 + 20 * (j + 1) := by
   simp only [sesT, ByteArray.size_append, size_lit, z4]
   omega
  obtain ⟨xc, xq, xd, xv⟩ := x
  dsimp only at z1 z2 z3 z4 hr
  have e1 := sesT_impl u xc xq xv
  cases xd
  all_goals conv=>arg 4;cbv
  all_goals repeat' first
   | (refine Sat.call (w_impl_FormatIntG xc (by omega) (by omega)) rfl ledA ?_; conv=>arg 4;cbv)
   | (refine Sat.call (w_impl_FormatIntG xq (by omega) (by omega)) rfl ledA ?_; conv=>arg 4;cbv)
   | (refine Sat.call (w_impl_FormatIntG xv (by omega) (by omega)) rfl ledA ?_; conv=>arg 4;cbv)
   | (refine Sat.need (by (try dsimp only); simp only [ByteArray.size_append, size_lit]; omega) ?_; conv=>arg 4;cbv)
   | (refine Sat.ari64 (by (try dsimp only); exact arA) (by (try dsimp only); exact arA) ?_; conv=>arg 4;cbv)
   | refine Sat.next (j + 1, u ++ sesT ⟨xc, xq, ⟨_, xv⟩⟩) ?_ ⟨by exact arA, hux, huz⟩ (by (try dsimp only); exact arA)
  ·rw [(e1 false).trans (by rfl)]
   exact lesA
  ·rw [(e1 true).trans (by rfl)]
   exact lesA
 ·conv=>arg 4;cbv
  refine Sat.pop ?_
  conv=>arg 4;cbv
  refine Sat.done (.str ?_)
  have hje : j = m.Sessions.length := by exact arA
  refine bytes_ext ?_
  rw [mchT, if_pos hV]
  show u.data.toList = _
  rw [hu1, hje, List.take_length]
set_option maxHeartbeats 2000000 in
theorem w_spec_FormatMachine (m : GMachine) (hb : bMachine m) : Fn Pr n_spec_FormatMachine [aGMachine m] (.str (fun _ => mchT m)) := by
 refine k_spec_FormatMachine.fn (by kernel_rfl) ?_
 conv=>arg 4;cbv
 refine Sat.callb (w_spec_IsValidMachine m hb) rfl ledA (fun hV => ?_) (fun hV => ?_)
 rotate_left
 ·conv=>arg 4;cbv
  refine Sat.done (.str ?_)
  rw [mchT, if_neg (by rw [hV]; exact Bool.false_ne_true)]
 obtain ⟨h3, hv, hl3, hs, _⟩ := validM_spec hV
 conv=>arg 4;cbv
 refine Sat.loopP (ι := Nat × ByteArray) (fun i => [(4, .int .i64 (fun _ => (i.1 : Int))), (3, .str (fun _ => i.2))]) (fun i => []) (fun i => i.1 ≤ m.Objects.length ∧ i.2 = fS (m.Objects.take i.1) ∧ i.2.size ≤ 2 * i.1) (fun i => m.Objects.length - i.1) (0, ⟨#[]⟩) ?_ ⟨by simp only; omega, rfl, Nat.le_refl _⟩ (fun y hy => ?_)
 ·exact lesA
 obtain ⟨i, s⟩ := y
 obtain ⟨hi, hs1, hs2⟩ := hy
 simp only at hi hs1 hs2
 conv=>arg 4;cbv
 refine Sat.cmp (fun h => ?_) (fun h => ?_) <;> simp only [Cmp.holds] at h
 ·conv=>arg 4;cbv
  refine Sat.need (by (try dsimp only); exact arA) ?_
  conv=>arg 4;cbv
  refine Sat.idx (by (try dsimp only); exact arA) (fun v hv1 => ?_)
  have hv1 : m.Objects[i]? = some v := by simpa using hv1
  have hr := hv v (List.mem_of_getElem? hv1)
  have hz := (sI_size (n := v) (by omega) (by omega)).2
  conv=>arg 4;cbv
  refine Sat.call (w_spec_FormatIntG v (by omega) (by omega)) rfl ledA ?_
  conv=>arg 4;cbv
  refine Sat.need (by (try dsimp only); omega) ?_
  conv=>arg 4;cbv
  refine Sat.ari64 (by (try dsimp only); exact arA) (by (try dsimp only); exact arA) ?_
  conv=>arg 4;cbv
  refine Sat.next (i + 1, s ++ sI v) ?_ ⟨by exact arA, fS_snoc hs1 hv1, by (try dsimp only); rw [ByteArray.size_append]; omega⟩ (by (try dsimp only); exact arA)
  exact lesA
 have hie : i = m.Objects.length := by exact arA
 conv=>arg 4;cbv
 refine Sat.pop ?_
 have hs3 : s = fS m.Objects := by rw [hs1, hie, List.take_length]
 have hs6 : s.size ≤ 6 := by omega
 clear hs1 hs2 h hi
 conv=>arg 4;cbv
 refine Sat.loopP (ι := Nat × ByteArray) (fun i => [(5, .int .i64 (fun _ => (i.1 : Int))), (3, .str (fun _ => i.2))]) (fun i => []) (fun i => i.1 ≤ m.Sessions.length ∧ i.2.data.toList = (fS m.Objects).data.toList ++ sesL (m.Sessions.take i.1) ∧ i.2.size ≤ 6 + 20 * i.1) (fun i => m.Sessions.length - i.1) (0, s) ?_ ⟨by simp only; omega, by simp [sesL, hs3], hs6⟩ (fun y hy => ?_)
 ·exact lesA
 obtain ⟨j, u⟩ := y
 obtain ⟨hj, hu1, hu2⟩ := hy
 simp only at hj hu1 hu2
 conv=>arg 4;cbv
 refine Sat.cmp (fun h => ?_) (fun h => ?_) <;> simp only [Cmp.holds] at h
 ·conv=>arg 4;cbv
  refine Sat.need (by (try dsimp only); exact arA) ?_
  conv=>arg 4;cbv
  refine Sat.idx (by (try dsimp only); exact arA) (fun x hx => ?_)
  have hx : m.Sessions[j]? = some x := by simpa using hx
  have hr := hs x (List.mem_of_getElem? hx)
  have hsn := sesL_snoc hx
  obtain ⟨z1, z2, z3, z4⟩ := sesT_size hr
  have hux : (u ++ sesT x).data.toList = (fS m.Objects).data.toList ++ sesL (m.Sessions.take (j + 1)) := by
   rw [hsn, ← List.append_assoc, ← hu1]; simp
  have huz : (u ++ sesT x).size ≤ 6 + 20 * (j + 1) := by
   simp only [sesT, ByteArray.size_append, size_lit, z4]
   omega
  obtain ⟨xc, xq, xd, xv⟩ := x
  dsimp only at z1 z2 z3 z4 hr
  have e1 := sesT_spec u xc xq xv
  cases xd
  all_goals conv=>arg 4;cbv
  all_goals repeat' first
   | (refine Sat.call (w_spec_FormatIntG xc (by omega) (by omega)) rfl ledA ?_; conv=>arg 4;cbv)
   | (refine Sat.call (w_spec_FormatIntG xq (by omega) (by omega)) rfl ledA ?_; conv=>arg 4;cbv)
   | (refine Sat.call (w_spec_FormatIntG xv (by omega) (by omega)) rfl ledA ?_; conv=>arg 4;cbv)
   | (refine Sat.need (by (try dsimp only); simp only [ByteArray.size_append, size_lit]; omega) ?_; conv=>arg 4;cbv)
   | (refine Sat.ari64 (by (try dsimp only); exact arA) (by (try dsimp only); exact arA) ?_; conv=>arg 4;cbv)
   | refine Sat.next (j + 1, u ++ sesT ⟨xc, xq, ⟨_, xv⟩⟩) ?_ ⟨by exact arA, hux, huz⟩ (by (try dsimp only); exact arA)
  ·rw [(e1 false).trans (by rfl)]
   exact lesA
  ·rw [(e1 true).trans (by rfl)]
   exact lesA
 ·conv=>arg 4;cbv
  refine Sat.pop ?_
  conv=>arg 4;cbv
  refine Sat.done (.str ?_)
  have hje : j = m.Sessions.length := by exact arA
  refine bytes_ext ?_
  rw [mchT, if_pos hV]
  show u.data.toList = _
  rw [hu1, hje, List.take_length]
--import Derived.Shelf.Strings.Cut
theorem below_drew {w : World} {n : Nat} : Below w.heap.size w (w.drewN n) := ⟨rfl, rfl, rfl, Nat.le_refl _, fun _ _ => rfl⟩
theorem str_of {w : World} {s : ByteArray} {v : Value} {f : List Nat} (h : Deep w (.str (fun _ => s)) v f) : v = .string s := by cases h; rfl
theorem vs2 {vs : Array Value} (hsz : vs.size = 2) {a b : Value} (ha : vs.getD 0 Go.undef = a) (hb : vs.getD 1 Go.undef = b) : vs = #[a, b] := by
 rw [← ha, ← hb]
 apply Array.ext_getElem?
 intro i
 cases i with
 | zero => rw [Array.getD_eq_getD_getElem?, Array.getElem?_eq_getElem (by omega)]; rfl
 | succ i =>
   cases i with
   | zero => rw [Array.getD_eq_getD_getElem? (i := 1), Array.getElem?_eq_getElem (by omega)]; rfl
   | succ i => rw [Array.getElem?_eq_none (by omega), Array.getElem?_eq_none (by simp)]
theorem vs3 {vs : Array Value} (hsz : vs.size = 3) {a b c : Value} (ha : vs.getD 0 Go.undef = a) (hb : vs.getD 1 Go.undef = b) (hc : vs.getD 2 Go.undef = c) : vs = #[a, b, c] := by
 rw [← ha, ← hb, ← hc]
 apply Array.ext_getElem?
 intro i
 match i with
 | 0 => rw [Array.getD_eq_getD_getElem?, Array.getElem?_eq_getElem (by omega)]; rfl
 | 1 => rw [Array.getD_eq_getD_getElem? (i := 1), Array.getElem?_eq_getElem (by omega)]; rfl
 | 2 => rw [Array.getD_eq_getD_getElem? (i := 2), Array.getElem?_eq_getElem (by omega)]; rfl
 | i + 3 => rw [Array.getElem?_eq_none (by omega), Array.getElem?_eq_none (by simp)]
def ctA (c : UInt8) (s : ByteArray) : ByteArray := ⟨(Lib.cut s.data.toList [c]).1.toArray⟩
def ctZ (c : UInt8) (s : ByteArray) : ByteArray := ⟨(Lib.cut s.data.toList [c]).2.1.toArray⟩
def ctF (c : UInt8) (s : ByteArray) : Bool := (Lib.cut s.data.toList [c]).2.2
theorem cut_len (c : UInt8) (l : List UInt8) : (Lib.cut l [c]).1.length ≤ l.length ∧ (Lib.cut l [c]).2.1.length ≤ l.length := by
 unfold Lib.cut
 split
 ·simp only [List.length_take, List.length_drop]
  omega
 ·simp only [List.length_nil]
  omega
theorem ct_size (c : UInt8) (s : ByteArray) : (ctA c s).size ≤ s.size ∧ (ctZ c s).size ≤ s.size := cut_len c s.data.toList
--import Derived.Shelf.Strings.Cut
theorem w_strings_Cut (c : UInt8) (s : ByteArray) (hs : s.size < 4294967281) : Fn Pr n_strings_Cut [.str (fun _ => s), .str (fun _ => ⟨#[c]⟩)] (.tup [.str (fun _ => ctA c s), .str (fun _ => ctZ c s), .bo (ctF c s)]) := by
 refine ⟨cl_strings_Cut, fun w vs F htb hsz hargs => ?_⟩
 rw [vs2 hsz (str_of (hargs 0 _ rfl)) (str_of (hargs 1 _ rfl))]
 obtain ⟨m, hm⟩ := htb.2 _ len_here
 refine (Go.Proofs.Any.strings_Cut layCut s ⟨#[c]⟩ m w hs hm).mono ?_
 rintro e w' ⟨rfl, n, rfl⟩
 refine ⟨_, [], rfl, ?_, List.nodup_nil, fun g hg => (by cases hg), below_drew⟩
 refine Deep.tup (fun _ => []) rfl (fun i x hx => ?_)
 match i, hx with
 | 0, hx => cases hx; exact .str _
 | 1, hx => cases hx; exact .str _
 | 2, hx => cases hx; exact .bo _
 | i + 3, hx => simp at hx
--import Derived.Shelf.Strings.IndexAnyAll
theorem w_strings_IndexAny (s : ByteArray) (hs : s.size < 4294967281) : Fn Pr n_strings_IndexAny [.str (fun _ => s), .str (fun _ => ⟨#[43, 45]⟩)] (.int .i64 (fun _ => Lib.indexAny s.data.toList [43, 45])) := by
 refine ⟨cl_strings_IndexAny, fun w vs F htb hsz hargs => ?_⟩
 rw [vs2 hsz (str_of (hargs 0 _ rfl)) (str_of (hargs 1 _ rfl))]
 have h116 : (Pr.info? (layIdxRen.t 116)).map (fun i => (i.zero, i.size)) = some (some (.agg (Array.replicate 256 (.bool false))), 256) := by kernel_rfl
 refine (IndexAny_pm layIdx (Go.zero_of_info h116).1 (Go.zero_of_info h116).2 s w hs).mono ?_
 rintro e w' ⟨rfl, hb⟩
 exact ⟨_, [], rfl, .int _ _, List.nodup_nil, fun g hg => (by cases hg), hb⟩
--import Derived.Shelf.Strings.IndexAnyAll
def wAt (w : ByteArray) : Int := Lib.indexAny (ctZ 46 w).data.toList [43, 45]
def wS (w : ByteArray) : Option GSession := if wAt w < 0 then none else some ⟨pNum (ctA 46 w), pNum ((ctZ 46 w).extract 0 (wAt w).toNat), ⟨decide ((ctZ 46 w).get! (wAt w).toNat = 43), pNum ((ctZ 46 w).extract (wAt w + 1).toNat (ctZ 46 w).size)⟩⟩
def allW : List ByteArray → Option (List GSession)
 | [] => some []
 | w :: r => match wS w, allW r with
   | some x, some l => some (x :: l)
   | _, _ => none
def zeroM : GMachine := ⟨[], []⟩
def pMf (s v : ByteArray) : Option (List GSession) → GMachine × Bool
 | none => (zeroM, false)
 | some l => if s = ⟨#[]⟩ ∨ mchT ⟨sv v, l⟩ ≠ s then (zeroM, false) else (⟨sv v, l⟩, true)
def pMg (s : ByteArray) : List ByteArray → GMachine × Bool
 | [] => (zeroM, false)
 | v :: r => pMf s v (allW r)
def pM (s : ByteArray) : GMachine × Bool := pMg s (cutB 32 s)
theorem allW_zero (ws : List ByteArray) : allW ws = (allW (ws.drop 0)).map (([] : List GSession) ++ ·) := by
 rw [List.drop_zero]
 cases allW ws <;> rfl
theorem allW_step {ws : List ByteArray} {i : Nat} {w : ByteArray} {x : GSession} {acc : List GSession} (h : allW ws = (allW (ws.drop i)).map (acc ++ ·)) (hw : ws[i]? = some w) (hx : wS w = some x) : allW ws = (allW (ws.drop (i + 1))).map ((acc ++ [x]) ++ ·) := by
 rw [h, drop_get hw, allW, hx]
 cases allW (ws.drop (i + 1)) with
 | none => rfl
 | some l => simp
theorem allW_none {ws : List ByteArray} {i : Nat} {w : ByteArray} {acc : List GSession} (h : allW ws = (allW (ws.drop i)).map (acc ++ ·)) (hw : ws[i]? = some w) (hx : wS w = none) : allW ws = none := by
 rw [h, drop_get hw, allW, hx]
 rfl
theorem allW_end {ws : List ByteArray} {i : Nat} {acc : List GSession} (h : allW ws = (allW (ws.drop i)).map (acc ++ ·)) (hi : i = ws.length) : allW ws = some acc := by
 rw [h, hi, List.drop_length, allW]
 simp
theorem pM_none {s v : ByteArray} {r : List ByteArray} (hc : cutB 32 s = v :: r) (h : allW r = none) : pM s = (zeroM, false) := by rw [pM, hc, pMg, h, pMf]
theorem pM_bad {s v : ByteArray} {r : List ByteArray} {l : List GSession} (hc : cutB 32 s = v :: r) (h : allW r = some l) (hb : s = ⟨#[]⟩ ∨ mchT ⟨sv v, l⟩ ≠ s) : pM s = (zeroM, false) := by
 rw [pM, hc, pMg, h, pMf, if_pos hb]
theorem pM_ok {s v : ByteArray} {r : List ByteArray} {l : List GSession} (hc : cutB 32 s = v :: r) (h : allW r = some l) (h1 : s ≠ ⟨#[]⟩) (h2 : mchT ⟨sv v, l⟩ = s) : pM s = (⟨sv v, l⟩, true) := by
 rw [pM, hc, pMg, h, pMf, if_neg (fun hb => hb.elim h1 (fun hc => hc h2))]
theorem wAt_rng (w : ByteArray) : -1 ≤ wAt w ∧ wAt w < (ctZ 46 w).size := by
 refine ⟨Lib.indexAny_ge _ _, ?_⟩
 have : ∀ l : List UInt8, Lib.indexAny l [43, 45] < l.length := by
  intro l
  induction l with
  | nil => simp [Lib.indexAny]
  | cons b r ih =>
    rw [Lib.indexAny]
    simp only [List.length_cons]
    split
    ·omega
    ·split <;> omega
 exact this _
theorem cons_of_len {α : Type} {l : List α} (h : 1 ≤ l.length) : ∃ a r, l = a :: r := by
 cases l with
 | nil => simp at h
 | cons a r => exact ⟨a, r, rfl⟩
theorem byte_43 {b : UInt8} (h : (b.toNat : Int) = 43) : b = 43 := by
 apply UInt8.toNat_inj.1
 show b.toNat = 43
 omega
theorem byte_n43 {b : UInt8} (h : ¬ (b.toNat : Int) = 43) : b ≠ 43 := fun e => h (by rw [e]; rfl)
theorem led_zeroM : LeD (.agg [.nil, .nil]) (aGMachine zeroM) := .agg rfl (led_cons (.nil rfl) (led_cons (.nil rfl) led_nil))
theorem led_mch (o : List Int) (l : List GSession) : LeD (.agg [.sl 1 (encI .i64) (fun _ => List.take o.length (List.drop 0 o)), .sl 4 eGSession (fun _ => List.take l.length (List.drop 0 l))]) (aGMachine ⟨o, l⟩) := .agg rfl (led_cons (.sl (tkdr _)) (led_cons (.sl (tkdr _)) led_nil))
theorem flat_GSession (y : GSession) (j : Nat) (hj : j < 4) : flat (eGSession y j) = true := by
 match j, hj with
 | 0, _ | 1, _ | 2, _ | 3, _ => rfl
 | j + 4, h => omega
theorem ext_size (s : ByteArray) (a b : Nat) : (s.extract a b).size ≤ s.size := by
 rw [ByteArray.size_extract]
 omega
set_option maxHeartbeats 2000000 in
theorem w_impl_ParseMachine (s : ByteArray) (hs : s.size ≤ 1048576) : Fn Pr n_impl_ParseMachine [.str (fun _ => s)] (.tup [aGMachine (pM s).1, .bo (pM s).2]) := by
 have hcl := cutB_len 32 s
 obtain ⟨v0, ws, hc⟩ := cons_of_len hcl.2
 have hv0 := cutB_size (c := 32) (s := s) (x := v0) (by rw [hc]; simp)
 have hws : ∀ w ∈ ws, w.size ≤ s.size := fun w hw => cutB_size (c := 32) (s := s) (x := w) (by rw [hc]; simp [hw])
 have hwl : ws.length ≤ s.size := by rw [hc] at hcl; simp only [List.length_cons] at hcl; omega
 have hsvl := sv_len v0
 have HSP := w_strings_SplitC 32 s (by omega)
 rw [hc] at HSP
 refine k_impl_ParseMachine.fn (by kernel_rfl) ?_
 conv=>arg 4;cbv
 refine Sat.call HSP rfl ledA ?_
 conv=>arg 4;cbv
 refine Sat.need (by (try dsimp only); exact arA) ?_
 conv=>arg 4;cbv
 refine Sat.idx (by (try dsimp only); exact arA) (fun v hv => ?_)
 obtain rfl : v = v0 := (Option.some.inj hv).symm
 conv=>arg 4;cbv
 refine Sat.loopP (ι := Nat) (fun i => [(20, .int .i64 (fun _ => (i : Int)))]) (fun i => [(80, .lit 0 [.ref 96 (fun _ => 0) (fun _ => ((sv v).take i).length), .nil]), (96, .row 1 (encI .i64) (fun _ => (sv v).take i) false)]) (fun i => i ≤ v.size) (fun i => v.size - i) 0 ?_ (Nat.zero_le _) (fun i hi => ?_)
 ·refine les_of ?_ ?_ rfl
  iterate 2 (focus repeat' (first | exact trivial | refine And.intro ?_ ?_ | exact levA | refine lev_cons ?_ ?_ | refine LeV.agg rfl ?_ | exact Nat.le_of_ble_eq_true rfl | exact Or.inl ⟨_, rfl, .row rfl⟩ | refine Or.inl ⟨_, rfl, .row ?_⟩ | refine Or.inl ⟨_, rfl, .lit rfl ?_⟩ | exact Or.inr ⟨rfl, rfl⟩ | (first | exact .nilref (fun h => nomatch h) rfl rfl rfl | rfl)))
 have htl : ((sv v).take i).length = i := by rw [List.length_take]; omega
 conv=>arg 4;cbv
 refine Sat.cmp (fun h5 => ?_) (fun h5 => ?_) <;> simp only [Cmp.holds] at h5
 ·have hi2 : i < v.size := by exact arA
  have hb : v.data.toList[i]? = some (v.get! (Int.toNat (i : Int))) := byte_at hi2
  have h256 : (v.get! (Int.toNat (i : Int))).toNat < 256 := UInt8.toNat_lt _
  have hsn := sv_snoc hb
  conv=>arg 4;cbv
  refine Sat.need (by (try dsimp only); exact arA) ?_
  conv=>arg 4;cbv
  refine Sat.idx (by (try dsimp only); exact arA) (fun v2 hv2 => ?_)
  obtain rfl : v2 = v := (Option.some.inj hv2).symm
  conv=>arg 4;cbv
  refine Sat.need (by (try dsimp only); exact arA) ?_
  conv=>arg 4;cbv
  refine Sat.ari64 (by (try dsimp only); exact arA) (by (try dsimp only); exact arA) ?_
  conv=>arg 4;cbv
  refine Sat.ari64 (by (try dsimp only); exact arA) (by (try dsimp only); exact arA) ?_
  conv=>arg 4;cbv
  refine Sat.need ⟨rfl, fun y _ j _ => rfl, (by (try dsimp only); exact arA)⟩ ?_
  conv=>arg 4;cbv
  refine Sat.same ?_
  conv=>arg 4;cbv
  refine Sat.ari64 (by (try dsimp only); exact arA) (by (try dsimp only); exact arA) ?_
  conv=>arg 4;cbv
  refine Sat.next (i + 1) ?_ (by exact arA) (by (try dsimp only); exact arA)
  have e7 : (sv v2).take (i + 1) = List.take ((sv v2).take i).length ((sv v2).take i) ++ List.take 1 (List.drop 0 [((v2.get! (Int.toNat (i : Int))).toNat : Int) - 48]) := by
   rw [List.take_length, hsn]; rfl
  refine les_of ?_ ?_ rfl
  iterate 2 (focus repeat' (first | exact trivial | refine And.intro ?_ ?_ | exact levA | refine lev_cons ?_ ?_ | refine LeV.agg rfl ?_ | exact Nat.le_of_ble_eq_true rfl | exact Or.inl ⟨_, rfl, .row rfl⟩ | refine Or.inl ⟨_, rfl, .row ?_⟩ | refine Or.inl ⟨_, rfl, .lit rfl ?_⟩ | exact Or.inr ⟨rfl, rfl⟩ | (first | exact .ref (fun h => nomatch h) (fun h => nomatch h) rfl (by (try dsimp only); rw [hsn]; simp) | exact e7.symm)))
 have hie : i = v.size := by exact arA
 have hta : (sv v).take i = sv v := by rw [hie, ← hsvl]; exact List.take_length
 conv=>arg 4;cbv
 refine Sat.pop ?_
 rw [hta]
 clear hta hie h5 htl hi
 conv=>arg 4;cbv
 refine Sat.need (by (try dsimp only); exact arA) ?_
 conv=>arg 4;cbv
 refine Sat.loopP (ι := Nat × List GSession) (fun x => [(39, .int .i64 (fun _ => (x.1 : Int)))]) (fun x => [(80, .lit 0 [.ref 96 (fun _ => 0) (fun _ => (sv v).length), .ref 112 (fun _ => 0) (fun _ => x.2.length)]), (112, .row 4 eGSession (fun _ => x.2) false)]) (fun x => x.1 ≤ ws.length ∧ x.2.length = x.1 ∧ allW ws = (allW (ws.drop x.1)).map (x.2 ++ ·)) (fun x => ws.length - x.1) (0, []) ?_ ⟨Nat.zero_le _, rfl, allW_zero ws⟩ (fun x hx => ?_)
 ·refine les_of ?_ ?_ rfl
  iterate 2 (focus repeat' (first | exact trivial | refine And.intro ?_ ?_ | exact levA | refine lev_cons ?_ ?_ | refine LeV.agg rfl ?_ | exact Nat.le_of_ble_eq_true rfl | exact Or.inl ⟨_, rfl, .row rfl⟩ | refine Or.inl ⟨_, rfl, .row ?_⟩ | refine Or.inl ⟨_, rfl, .lit rfl ?_⟩ | exact Or.inr ⟨rfl, rfl⟩ | (first | exact .nilref (fun h => nomatch h) rfl rfl rfl | rfl)))
 obtain ⟨j, acc⟩ := x
 obtain ⟨hj, hal, haw⟩ := hx
 simp only at hj hal haw
 have hwl1 : (v :: ws).length = ws.length + 1 := rfl
 conv=>arg 4;cbv
 refine Sat.cmp (fun h5 => ?_) (fun h5 => ?_) <;> simp only [Cmp.holds] at h5
 ·have hj2 : j < ws.length := by exact arA
  conv=>arg 4;cbv
  refine Sat.need (by (try dsimp only); exact arA) ?_
  conv=>arg 4;cbv
  refine Sat.idx (by (try dsimp only); exact arA) (fun w hw => ?_)
  have hw : ws[j]? = some w := by
   have e : (1 + Int.toNat (j : Int)) = j + 1 := by omega
   have hw' : (v :: ws)[1 + Int.toNat (j : Int)]? = some w := hw
   rw [e] at hw'
   exact hw'
  have hwz := hws w (List.mem_of_getElem? hw)
  have hct := ct_size 46 w
  have hat := wAt_rng w
  have WC := w_strings_Cut 46 w (by omega)
  generalize ctF 46 w = bf at WC
  conv=>arg 4;cbv
  refine Sat.call WC rfl ledA ?_
  conv=>arg 4;cbv
  refine Sat.call (w_strings_IndexAny (ctZ 46 w) (by omega)) rfl ledA ?_
  conv=>arg 4;cbv
  refine Sat.cmp (fun h6 => ?_) (fun h6 => ?_) <;> simp only [Cmp.holds] at h6
  ·have h6 : wAt w < 0 := h6
   conv=>arg 4;cbv
   refine Sat.pop ?_
   conv=>arg 4;cbv
   refine Sat.done ?_
   rw [pM_none hc (allW_none haw hw (by rw [wS, if_pos h6]))]
   exact .tup rfl (led_cons led_zeroM (led_cons (.same _) led_nil))
  have h6 : ¬ wAt w < 0 := h6
  conv=>arg 4;cbv
  refine Sat.call (w_impl_number (ctA 46 w) (by omega)) rfl ledA ?_
  conv=>arg 4;cbv
  refine Sat.need (by show 0 ≤ wAt w ∧ wAt w ≤ ((ctZ 46 w).size : Int); omega) ?_
  conv=>arg 4;cbv
  have hes1 := ext_size (ctZ 46 w) 0 (wAt w).toNat
  have hes2 := ext_size (ctZ 46 w) (wAt w + 1).toNat (ctZ 46 w).size
  refine Sat.call (w_impl_number ((ctZ 46 w).extract 0 (wAt w).toNat) (by omega)) rfl ledA ?_
  conv=>arg 4;cbv
  refine Sat.need (by show 0 ≤ wAt w ∧ wAt w < ((ctZ 46 w).size : Int); omega) ?_
  conv=>arg 4;cbv
  refine Sat.cmp (fun h7 => ?_) (fun h7 => ?_) <;> simp only [Cmp.holds] at h7
  ·have hb7 : (ctZ 46 w).get! (wAt w).toNat = 43 := byte_43 h7
   have hx : wS w = some ⟨pNum (ctA 46 w), pNum ((ctZ 46 w).extract 0 (wAt w).toNat), ⟨true, pNum ((ctZ 46 w).extract (wAt w + 1).toNat (ctZ 46 w).size)⟩⟩ := by
    rw [wS, if_neg h6, decide_eq_true hb7]
   have hbl : bSessionS (acc ++ [⟨pNum (ctA 46 w), pNum ((ctZ 46 w).extract 0 (wAt w).toNat), ⟨true, pNum ((ctZ 46 w).extract (wAt w + 1).toNat (ctZ 46 w).size)⟩⟩]) := by
    show (acc ++ [_]).length * 32 ≤ 140737488351232
    rw [List.length_append, List.length_singleton]
    omega
   conv=>arg 4;cbv
   refine Sat.ari64 (by show -9223372036854775808 ≤ wAt w + 1; omega) (by show wAt w + 1 ≤ 9223372036854775807; omega) ?_
   conv=>arg 4;cbv
   refine Sat.need (by show 0 ≤ wAt w + 1 ∧ wAt w + 1 ≤ ((ctZ 46 w).size : Int); omega) ?_
   conv=>arg 4;cbv
   refine Sat.call (w_impl_number ((ctZ 46 w).extract (wAt w + 1).toNat (ctZ 46 w).size) (by omega)) rfl ledA ?_
   conv=>arg 4;cbv
   refine Sat.need ⟨rfl, rfl, rfl, (by (try dsimp only); exact arA)⟩ ?_
   conv=>arg 4;cbv
   refine Sat.typed (⟨pNum (ctA 46 w), pNum ((ctZ 46 w).extract 0 (wAt w).toNat), ⟨true, pNum ((ctZ 46 w).extract (wAt w + 1).toNat (ctZ 46 w).size)⟩⟩ : GSession) tcA ?_
   conv=>arg 4;cbv
   refine Sat.ari64 (by (try dsimp only); exact arA) (by (try dsimp only); exact arA) ?_
   conv=>arg 4;cbv
   generalize (⟨pNum (ctA 46 w), pNum ((ctZ 46 w).extract 0 (wAt w).toNat), ⟨true, pNum ((ctZ 46 w).extract (wAt w + 1).toNat (ctZ 46 w).size)⟩⟩ : GSession) = x at *
   refine Sat.next (j + 1, acc ++ [x]) ?_ ⟨by exact arA, by (try dsimp only); rw [List.length_append, List.length_singleton]; omega, allW_step haw hw hx⟩ (by (try dsimp only); exact arA)
   have e7 : acc ++ [x] = List.take acc.length acc ++ List.take 1 (List.drop 0 [x]) := by rw [List.take_length]; rfl
   refine les_of ?_ ?_ rfl
   iterate 2 (focus repeat' (first | exact trivial | refine And.intro ?_ ?_ | exact levA | refine lev_cons ?_ ?_ | refine LeV.agg rfl ?_ | exact Nat.le_of_ble_eq_true rfl | exact Or.inl ⟨_, rfl, .row rfl⟩ | refine Or.inl ⟨_, rfl, .row ?_⟩ | refine Or.inl ⟨_, rfl, .lit rfl ?_⟩ | exact Or.inr ⟨rfl, rfl⟩ | (first | exact .ref (fun h => nomatch h) (fun h => nomatch h) rfl (by simp) | exact e7.symm)))
  ·have hb7 : (ctZ 46 w).get! (wAt w).toNat ≠ 43 := byte_n43 h7
   have hx : wS w = some ⟨pNum (ctA 46 w), pNum ((ctZ 46 w).extract 0 (wAt w).toNat), ⟨false, pNum ((ctZ 46 w).extract (wAt w + 1).toNat (ctZ 46 w).size)⟩⟩ := by
    rw [wS, if_neg h6, decide_eq_false hb7]
   have hbl : bSessionS (acc ++ [⟨pNum (ctA 46 w), pNum ((ctZ 46 w).extract 0 (wAt w).toNat), ⟨false, pNum ((ctZ 46 w).extract (wAt w + 1).toNat (ctZ 46 w).size)⟩⟩]) := by
    show (acc ++ [_]).length * 32 ≤ 140737488351232
    rw [List.length_append, List.length_singleton]
    omega
   conv=>arg 4;cbv
   refine Sat.ari64 (by show -9223372036854775808 ≤ wAt w + 1; omega) (by show wAt w + 1 ≤ 9223372036854775807; omega) ?_
   conv=>arg 4;cbv
   refine Sat.need (by show 0 ≤ wAt w + 1 ∧ wAt w + 1 ≤ ((ctZ 46 w).size : Int); omega) ?_
   conv=>arg 4;cbv
   refine Sat.call (w_impl_number ((ctZ 46 w).extract (wAt w + 1).toNat (ctZ 46 w).size) (by omega)) rfl ledA ?_
   conv=>arg 4;cbv
   refine Sat.need ⟨rfl, rfl, rfl, (by (try dsimp only); exact arA)⟩ ?_
   conv=>arg 4;cbv
   refine Sat.typed (⟨pNum (ctA 46 w), pNum ((ctZ 46 w).extract 0 (wAt w).toNat), ⟨false, pNum ((ctZ 46 w).extract (wAt w + 1).toNat (ctZ 46 w).size)⟩⟩ : GSession) tcA ?_
   conv=>arg 4;cbv
   refine Sat.ari64 (by (try dsimp only); exact arA) (by (try dsimp only); exact arA) ?_
   conv=>arg 4;cbv
   generalize (⟨pNum (ctA 46 w), pNum ((ctZ 46 w).extract 0 (wAt w).toNat), ⟨false, pNum ((ctZ 46 w).extract (wAt w + 1).toNat (ctZ 46 w).size)⟩⟩ : GSession) = x at *
   refine Sat.next (j + 1, acc ++ [x]) ?_ ⟨by exact arA, by (try dsimp only); rw [List.length_append, List.length_singleton]; omega, allW_step haw hw hx⟩ (by (try dsimp only); exact arA)
   have e7 : acc ++ [x] = List.take acc.length acc ++ List.take 1 (List.drop 0 [x]) := by rw [List.take_length]; rfl
   refine les_of ?_ ?_ rfl
   iterate 2 (focus repeat' (first | exact trivial | refine And.intro ?_ ?_ | exact levA | refine lev_cons ?_ ?_ | refine LeV.agg rfl ?_ | exact Nat.le_of_ble_eq_true rfl | exact Or.inl ⟨_, rfl, .row rfl⟩ | refine Or.inl ⟨_, rfl, .row ?_⟩ | refine Or.inl ⟨_, rfl, .lit rfl ?_⟩ | exact Or.inr ⟨rfl, rfl⟩ | (first | exact .ref (fun h => nomatch h) (fun h => nomatch h) rfl (by simp) | exact e7.symm)))
 have hje : j = ws.length := by exact arA
 have hae := allW_end haw hje
 have hbm : bMachine ⟨sv v, acc⟩ := ⟨by show (sv v).length * 8 ≤ 140737488351232; omega, by show acc.length * 32 ≤ 140737488351232; omega⟩
 conv=>arg 4;cbv
 refine Sat.pop ?_
 conv=>arg 4;cbv
 refine Sat.test (fun h => ?_) (fun h => ?_)
 ·have h := of_decide_eq_true h
  conv=>arg 4;cbv
  refine Sat.done ?_
  rw [pM_bad hc hae (.inl h)]
  exact .tup rfl (led_cons led_zeroM (led_cons (.same _) led_nil))
 have hne : s ≠ ⟨#[]⟩ := of_decide_eq_false h
 conv=>arg 4;cbv
 refine Sat.call (w_impl_FormatMachine ⟨sv v, acc⟩ hbm) rfl (led_one (led_mch (sv v) acc)) ?_
 conv=>arg 4;cbv
 refine Sat.test (fun h => ?_) (fun h => ?_)
 ·have h : mchT ⟨sv v, acc⟩ = s := of_decide_eq_true h
  conv=>arg 4;cbv
  refine Sat.done ?_
  rw [pM_ok hc hae hne h]
  exact .tup rfl (led_cons (led_mch (sv v) acc) (led_cons (.same _) led_nil))
 ·have h : ¬ mchT ⟨sv v, acc⟩ = s := of_decide_eq_false h
  conv=>arg 4;cbv
  refine Sat.done ?_
  rw [pM_bad hc hae (.inr h)]
  exact .tup rfl (led_cons led_zeroM (led_cons (.same _) led_nil))
theorem pNum_sI {n : Int} (h0 : 0 ≤ n) (h1 : n < 100) : pNum (sI n) = n ∧ pNum3 (sI n) = n := by
 obtain ⟨f1, _, f3⟩ := sI_form (s := sI n) rfl
 have hS : pS (sI n) = 1 := if_neg (f3 h0)
 have hV : pV (sI n) = n := by
  rw [pV, hS, f1, dv_dec]
  omega
 have hl := sI_size h0 h1
 have hz : (pT (sI n)).length = (sI n).size := by
  rw [f1, Lib.decDigits_length]
  have e : (sI n).data.toList.length = (sI n).size := rfl
  rw [← e, sI_list, Lib.itoa, if_neg (by omega), Lib.decDigits_length]
  congr 1
  omega
 have hy : pI (sI n) = (n, true) := by
  rw [pI_yes ⟨by omega, by omega, ?_, by rw [hV]⟩, hV]
  exact List.all_eq_true.2 (fun b hb => dec_isD _ b (by rw [← f1]; exact hb))
 have hn := pI_yes1 hy
 exact ⟨hn.1, by rw [hn.2, if_neg (by omega)]⟩
--import Derived.Shelf.Strings.IndexAnyAll
def dg (n : Int) : UInt8 := UInt8.ofNat (48 + n.toNat)
theorem dg_nat {n : Int} (h : 0 ≤ n ∧ n ≤ 9) : (dg n).toNat = 48 + n.toNat := dig_nat (by omega)
theorem dg_back {n : Int} (h : 0 ≤ n ∧ n ≤ 9) : ((dg n).toNat : Int) - 48 = n := by rw [dg_nat h]; omega
theorem sI_dg {n : Int} (h : 0 ≤ n ∧ n ≤ 9) : (sI n).data.toList = [dg n] := by rw [sI_list, Lib.itoa, if_neg (by omega), Lib.decDigits_one (by omega)]; rfl
theorem dg_ne {n : Int} (h : 0 ≤ n ∧ n ≤ 9) {b : UInt8} (hb : b.toNat < 48) : dg n ≠ b := fun e => by
 have := dg_nat h
 rw [e] at this
 omega
def sesD (x : GSession) : List UInt8 := dg x.Client :: 46 :: ((sI x.Seq).data.toList ++ [(if x.Result.Done = true then 43 else 45), dg x.Result.Value])
theorem sesT_list {x : GSession} (h : (0 ≤ x.Client ∧ x.Client ≤ 2) ∧ (1 ≤ x.Seq ∧ x.Seq ≤ 99) ∧ (0 ≤ x.Result.Value ∧ x.Result.Value ≤ 9)) : (sesT x).data.toList = 32 :: sesD x := by
 have h1 := sI_dg (n := x.Client) (by omega)
 have h2 := sI_dg (n := x.Result.Value) h.2.2
 have h3 : (sgT x.Result.Done).data.toList = [if x.Result.Done = true then 43 else 45] := by
  unfold sgT
  split <;> rfl
 simp only [sesT, ByteArray.data_append, Array.toList_append, h1, h2, h3, sesD]
 simp
theorem sI_digs {n : Int} (h : 0 ≤ n) : ∀ b ∈ (sI n).data.toList, 48 ≤ b.toNat ∧ b.toNat ≤ 57 := fun b hb => by
 rw [sI_list, Lib.itoa, if_neg (by omega)] at hb
 exact isD_iff.1 (dec_isD _ b hb)
theorem sesD_no {x : GSession} (h : (0 ≤ x.Client ∧ x.Client ≤ 2) ∧ (1 ≤ x.Seq ∧ x.Seq ≤ 99) ∧ (0 ≤ x.Result.Value ∧ x.Result.Value ≤ 9)) : ∀ b ∈ sesD x, b ≠ 32 ∧ b ≠ 44 := fun b hb => by
 rw [sesD, List.mem_cons, List.mem_cons, List.mem_append] at hb
 have key : ∀ c : UInt8, 48 ≤ c.toNat → c ≠ 32 ∧ c ≠ 44 := fun c hc => ⟨fun e => by rw [e] at hc; exact absurd hc (by decide), fun e => by rw [e] at hc; exact absurd hc (by decide)⟩
 rcases hb with rfl | rfl | hb | hb
 ·exact key _ (by rw [dg_nat (by omega)]; omega)
 ·decide
 ·exact key _ (sI_digs (by omega) b hb).1
 ·rw [List.mem_cons, List.mem_singleton] at hb
  rcases hb with rfl | rfl
  ·split <;> decide
  ·exact key _ (by rw [dg_nat h.2.2]; omega)
theorem pcs_none (c : UInt8) : ∀ (l acc : List UInt8), (∀ b ∈ l, b ≠ c) → pcs c acc l = [acc ++ l]
 | [], acc, _ => by simp [pcs]
 | b :: r, acc, h => by
   rw [pcs, if_neg (h b (List.mem_cons_self ..)), pcs_none c r (acc ++ [b]) (fun x hx => h x (List.mem_cons_of_mem _ hx))]
   simp
theorem pcs_cons (c : UInt8) (r : List UInt8) : ∀ (l acc : List UInt8), (∀ b ∈ l, b ≠ c) → pcs c acc (l ++ c :: r) = (acc ++ l) :: pcs c [] r
 | [], acc, _ => by simp [pcs]
 | b :: l, acc, h => by
   rw [List.cons_append, pcs, if_neg (h b (List.mem_cons_self ..)), pcs_cons c r l (acc ++ [b]) (fun x hx => h x (List.mem_cons_of_mem _ hx))]
   simp
theorem pcs_join (c : UInt8) : ∀ (ws : List (List UInt8)) (a : List UInt8), (∀ b ∈ a, b ≠ c) → (∀ w ∈ ws, ∀ b ∈ w, b ≠ c) → pcs c [] (a ++ ws.flatMap (fun w => c :: w)) = a :: ws
 | [], a, h, _ => by
   rw [List.flatMap_nil, List.append_nil, pcs_none c a [] h]
   rfl
 | w :: ws, a, h, hw => by
   rw [List.flatMap_cons, List.cons_append, pcs_cons c _ a [] h, pcs_join c ws w (hw w (List.mem_cons_self ..)) (fun x hx => hw x (List.mem_cons_of_mem _ hx))]
   rfl
def mkB (l : List UInt8) : ByteArray := ⟨l.toArray⟩
theorem mkB_list (l : List UInt8) : (mkB l).data.toList = l := by simp [mkB]
theorem mkB_back (s : ByteArray) : mkB s.data.toList = s := bytes_ext (mkB_list _)
theorem fS_digs : ∀ {l : List Int}, (∀ v ∈ l, 0 ≤ v ∧ v ≤ 9) → (fS l).data.toList = l.map dg
 | [], _ => rfl
 | v :: r, h => by
   have h1 := fS_digs (l := r) (fun x hx => h x (List.mem_cons_of_mem _ hx))
   have h2 := sI_dg (h v (List.mem_cons_self ..))
   rw [sI_list] at h2
   simp only [fS, List.flatMap_cons, h2, List.map_cons] at h1 ⊢
   simpa using h1
theorem sv_fS {l : List Int} (h : ∀ v ∈ l, 0 ≤ v ∧ v ≤ 9) : sv (fS l) = l := by
 rw [sv, fS_digs h, List.map_map]
 exact (List.map_congr_left (fun v hv => dg_back (h v hv))).trans (List.map_id _)
theorem fm_congr {α β : Type} {f g : α → List β} : ∀ {l : List α}, (∀ x ∈ l, f x = g x) → l.flatMap f = l.flatMap g
 | [], _ => rfl
 | x :: r, h => by rw [List.flatMap_cons, List.flatMap_cons, h x (List.mem_cons_self ..), fm_congr (fun y hy => h y (List.mem_cons_of_mem _ hy))]
theorem cut_mch {m : GMachine} (h : validM m = true) : cutB 32 (mchT m) = fS m.Objects :: m.Sessions.map (fun x => mkB (sesD x)) := by
 obtain ⟨h1, h2, h3, h4, h5⟩ := validM_spec h
 rw [mchT, if_pos h, cutB]
 have e : sesL m.Sessions = (m.Sessions.map sesD).flatMap (fun w => 32 :: w) := by
  rw [sesL, List.flatMap_map]
  exact fm_congr (fun x hx => sesT_list (h4 x hx))
 have e2 : (⟨((fS m.Objects).data.toList ++ sesL m.Sessions).toArray⟩ : ByteArray).data.toList = (fS m.Objects).data.toList ++ sesL m.Sessions := by simp
 rw [e2, e, pcs_join 32 _ _ (fun b hb => ?_) (fun w hw b hb => ?_)]
 ·rw [List.map_cons, List.map_map]
  have e3 := mkB_back (fS m.Objects)
  unfold mkB at e3
  rw [e3]
  rfl
 ·rw [fS_digs h2, List.mem_map] at hb
  obtain ⟨v, hv, rfl⟩ := hb
  exact dg_ne (h2 v hv) (by decide)
 ·rw [List.mem_map] at hw
  obtain ⟨x, hx, rfl⟩ := hw
  exact (sesD_no (h4 x hx) b hb).1
--import Derived.Shelf.Strings.IndexAnyAll
theorem cut_dot {a : UInt8} {r : List UInt8} (h : a ≠ 46) : Lib.cut (a :: 46 :: r) [46] = ([a], r, true) := by
 have hi : Lib.index (a :: 46 :: r) [46] = 1 := by
  rw [Lib.index_one]
  simp [Lib.indexByte, h]
 rw [Lib.cut, if_pos (by rw [hi]; decide), hi]
 rfl
theorem idx_sign : ∀ (l : List UInt8) {g : UInt8} {r : List UInt8}, (∀ b ∈ l, 48 ≤ b.toNat) → (g = 43 ∨ g = 45) → Lib.indexAny (l ++ g :: r) [43, 45] = l.length
 | [], g, r, _, hg => by
   rw [List.nil_append, Lib.indexAny, if_pos (by rcases hg with rfl | rfl <;> decide)]
   rfl
 | b :: l, g, r, h, hg => by
   have hb := h b (List.mem_cons_self ..)
   have h1 : b ≠ 43 := fun e => by rw [e] at hb; exact absurd hb (by decide)
   have h2 : b ≠ 45 := fun e => by rw [e] at hb; exact absurd hb (by decide)
   rw [List.cons_append, Lib.indexAny, if_neg (by simp [h1, h2]), idx_sign l (fun x hx => h x (List.mem_cons_of_mem _ hx)) hg, if_neg (by simp)]
   simp
theorem get_list {s : ByteArray} {i : Nat} {b : UInt8} (h : s.data.toList[i]? = some b) : s.get! i = b := by
 have hi : i < s.size := (List.getElem?_eq_some_iff.1 h).1
 have := byte_at hi
 rw [h] at this
 exact (Option.some.inj this).symm
theorem wS_back {x : GSession} (h : (0 ≤ x.Client ∧ x.Client ≤ 2) ∧ (1 ≤ x.Seq ∧ x.Seq ≤ 99) ∧ (0 ≤ x.Result.Value ∧ x.Result.Value ≤ 9)) : wS (mkB (sesD x)) = some x := by
 have hc := cut_dot (a := dg x.Client) (r := (sI x.Seq).data.toList ++ [(if x.Result.Done = true then 43 else 45), dg x.Result.Value]) (dg_ne (by omega) (by decide))
 have hA : ctA 46 (mkB (sesD x)) = sI x.Client := by
  rw [ctA, mkB_list, sesD, hc]
  exact bytes_ext (by rw [sI_dg (n := x.Client) (by omega)])
 have hZ : (ctZ 46 (mkB (sesD x))).data.toList = (sI x.Seq).data.toList ++ [(if x.Result.Done = true then 43 else 45), dg x.Result.Value] := by
  rw [ctZ, mkB_list, sesD, hc]
 have hlen : (sI x.Seq).data.toList.length = (sI x.Seq).size := rfl
 have hat : wAt (mkB (sesD x)) = ((sI x.Seq).size : Int) := by
  rw [wAt, hZ, idx_sign _ (fun b hb => (sI_digs (by omega) b hb).1) (by split <;> simp), hlen]
 have hzs : (ctZ 46 (mkB (sesD x))).size = (sI x.Seq).size + 2 := by
  have e : (ctZ 46 (mkB (sesD x))).data.toList.length = (ctZ 46 (mkB (sesD x))).size := rfl
  rw [← e, hZ, List.length_append, hlen]
  rfl
 have e1 : (ctZ 46 (mkB (sesD x))).extract 0 (sI x.Seq).size = sI x.Seq := bytes_ext (by
  rw [ext_list, hZ, List.drop_zero, ← hlen, List.take_left])
 have e2 : (ctZ 46 (mkB (sesD x))).extract ((sI x.Seq).size + 1) ((sI x.Seq).size + 2) = sI x.Result.Value := bytes_ext (by
  rw [ext_list, hZ, sI_dg h.2.2, List.take_of_length_le (by rw [List.length_append, hlen]; simp), ← hlen, ← List.drop_drop, List.drop_left]
  rfl)
 have e3 : (ctZ 46 (mkB (sesD x))).get! (sI x.Seq).size = if x.Result.Done = true then 43 else 45 := get_list (by
  rw [hZ, ← hlen, List.getElem?_append_right (Nat.le_refl _), Nat.sub_self]
  rfl)
 rw [wS, hat, if_neg (by omega)]
 have t1 : ((sI x.Seq).size : Int).toNat = (sI x.Seq).size := by omega
 have t2 : (((sI x.Seq).size : Int) + 1).toNat = (sI x.Seq).size + 1 := by omega
 rw [t1, t2, hzs, e1, e2, e3, hA, (pNum_sI (n := x.Client) (by omega) (by omega)).1, (pNum_sI (n := x.Seq) (by omega) (by omega)).1, (pNum_sI (n := x.Result.Value) (by omega) (by omega)).1]
 obtain ⟨c, q, d, v⟩ := x
 cases d <;> simp
theorem allW_back : ∀ {l : List GSession}, (∀ x ∈ l, (0 ≤ x.Client ∧ x.Client ≤ 2) ∧ (1 ≤ x.Seq ∧ x.Seq ≤ 99) ∧ (0 ≤ x.Result.Value ∧ x.Result.Value ≤ 9)) → allW (l.map (fun x => mkB (sesD x))) = some l
 | [], _ => rfl
 | x :: r, h => by
   rw [List.map_cons, allW, wS_back (h x (List.mem_cons_self ..)), allW_back (fun y hy => h y (List.mem_cons_of_mem _ hy))]
theorem mchT_pos {m : GMachine} {s : ByteArray} (h : mchT m = s) (hs : s ≠ ⟨#[]⟩) : validM m = true := by
 unfold mchT at h
 split at h
 ·assumption
 ·exact absurd h.symm hs
theorem mchT_ne {m : GMachine} (h : validM m = true) : mchT m ≠ ⟨#[]⟩ := fun e => by
 obtain ⟨h1, h2, _⟩ := validM_spec h
 have := congrArg (fun t => t.data.toList.length) e
 rw [mchT, if_pos h] at this
 simp only [List.length_append, fS_digs h2, List.length_map, h1] at this
 simp at this
theorem pM_back {m : GMachine} (h : validM m = true) : pM (mchT m) = (m, true) := by
 obtain ⟨h1, h2, h3, h4, h5⟩ := validM_spec h
 have := pM_ok (cut_mch h) (allW_back h4) (mchT_ne h) (by rw [sv_fS h2])
 rw [sv_fS h2] at this
 exact this
--import Derived.Shelf.Strings.IndexAnyAll
def badS : GSession := ⟨-1, 0, ⟨false, 0⟩⟩
def l4S (s : ByteArray) : GSession := if s.size < 5 ∨ s.get! 1 ≠ 46 then badS else ⟨((s.get! 0).toNat : Int) - 48, pNum3 (s.extract 2 (s.size - 2)), ⟨decide (s.get! (s.size - 2) = 43), ((s.get! (s.size - 1)).toNat : Int) - 48⟩⟩
theorem l4S_back {x : GSession} (h : (0 ≤ x.Client ∧ x.Client ≤ 2) ∧ (1 ≤ x.Seq ∧ x.Seq ≤ 99) ∧ (0 ≤ x.Result.Value ∧ x.Result.Value ≤ 9)) : l4S (mkB (sesD x)) = x := by
 have hlen : (sI x.Seq).data.toList.length = (sI x.Seq).size := rfl
 have hq := sI_size (n := x.Seq) (by omega) (by omega)
 have hL : (mkB (sesD x)).data.toList = dg x.Client :: 46 :: ((sI x.Seq).data.toList ++ [(if x.Result.Done = true then 43 else 45), dg x.Result.Value]) := mkB_list _
 have hz : (mkB (sesD x)).size = (sI x.Seq).size + 4 := by
  have e : (mkB (sesD x)).data.toList.length = (mkB (sesD x)).size := rfl
  rw [← e, hL]
  simp only [List.length_cons, List.length_append, List.length_nil, hlen]
 have g0 : (mkB (sesD x)).get! 0 = dg x.Client := get_list (by rw [hL]; rfl)
 have g1 : (mkB (sesD x)).get! 1 = 46 := get_list (by rw [hL]; rfl)
 have g2 : (mkB (sesD x)).get! ((sI x.Seq).size + 2) = if x.Result.Done = true then 43 else 45 := get_list (by
  rw [hL, List.getElem?_cons_succ, List.getElem?_cons_succ, ← hlen, List.getElem?_append_right (Nat.le_refl _), Nat.sub_self]
  rfl)
 have g3 : (mkB (sesD x)).get! ((sI x.Seq).size + 3) = dg x.Result.Value := get_list (by
  rw [hL, List.getElem?_cons_succ, List.getElem?_cons_succ, ← hlen, List.getElem?_append_right (by omega), show (sI x.Seq).data.toList.length + 1 - (sI x.Seq).data.toList.length = 1 by omega]
  rfl)
 have g4 : (mkB (sesD x)).extract 2 ((sI x.Seq).size + 2) = sI x.Seq := bytes_ext (by
  rw [ext_list, hL, ← hlen, List.take_succ_cons, List.take_succ_cons, List.take_left]
  rfl)
 rw [l4S, hz, if_neg (by rw [g1]; rintro (h | h) <;> first | omega | exact h rfl)]
 have t1 : (sI x.Seq).size + 4 - 2 = (sI x.Seq).size + 2 := by omega
 have t2 : (sI x.Seq).size + 4 - 1 = (sI x.Seq).size + 3 := by omega
 rw [t1, t2, g0, g2, g3, g4, dg_back (by omega), dg_back h.2.2, (pNum_sI (n := x.Seq) (by omega) (by omega)).2]
 obtain ⟨c, q, d, v⟩ := x
 cases d <;> simp
def m2 (v : ByteArray) (ws : List ByteArray) : GMachine := ⟨(sv v).take 9, (ws.take 8).map l4S⟩
theorem pM_eq {s v : ByteArray} {ws : List ByteArray} (hc : cutB 32 s = v :: ws) : (if s = ⟨#[]⟩ ∨ mchT (m2 v ws) ≠ s then (zeroM, false) else (m2 v ws, true)) = pM s := by
 by_cases hg : s = ⟨#[]⟩ ∨ mchT (m2 v ws) ≠ s
 ·rw [if_pos hg]
  symm
  cases hw : allW ws with
  | none => exact pM_none hc hw
  | some l =>
    by_cases hb : s = ⟨#[]⟩ ∨ mchT ⟨sv v, l⟩ ≠ s
    ·exact pM_bad hc hw hb
    ·exfalso
     have hne : s ≠ ⟨#[]⟩ := fun e => hb (.inl e)
     have hm : mchT ⟨sv v, l⟩ = s := Classical.byContradiction (fun e => hb (.inr e))
     have hv := mchT_pos hm hne
     obtain ⟨h1, h2, h3, h4, h5⟩ := validM_spec hv
     have hcc := cut_mch hv
     rw [hm, hc] at hcc
     obtain ⟨e1, e2⟩ := List.cons.inj hcc
     have em : m2 v ws = ⟨sv v, l⟩ := by
      have e3 : (sv v).take 9 = sv v := List.take_of_length_le (by
       have h1 : (sv v).length = 3 := h1
       omega)
      have e4 : (ws.take 8).map l4S = l := by
       rw [e2, List.take_of_length_le (by
        have h3 : l.length ≤ 3 := h3
        rw [List.length_map]
        omega), List.map_map]
       exact (List.map_congr_left (fun x hx => l4S_back (h4 x hx))).trans (List.map_id _)
      rw [m2, e3, e4]
     rcases hg with hg | hg
     ·exact hne hg
     ·exact hg (by rw [em, hm])
 ·rw [if_neg hg]
  have hne : s ≠ ⟨#[]⟩ := fun e => hg (.inl e)
  have hm : mchT (m2 v ws) = s := Classical.byContradiction (fun e => hg (.inr e))
  have := pM_back (mchT_pos hm hne)
  rw [hm] at this
  exact this.symm
theorem mchT_size {m : GMachine} (h : validM m = true) : (mchT m).size ≤ 200 := by
 obtain ⟨h1, h2, h3, h4, h5⟩ := validM_spec h
 have e : (mchT m).data.toList.length = (mchT m).size := rfl
 have e2 : ∀ l : List GSession, (∀ x ∈ l, (0 ≤ x.Client ∧ x.Client ≤ 2) ∧ (1 ≤ x.Seq ∧ x.Seq ≤ 99) ∧ (0 ≤ x.Result.Value ∧ x.Result.Value ≤ 9)) → (sesL l).length ≤ 20 * l.length := by
  intro l
  induction l with
  | nil => intro _; exact Nat.le_refl _
  | cons x r ih =>
    intro hx
    have h6 := ih (fun y hy => hx y (List.mem_cons_of_mem _ hy))
    obtain ⟨z1, z2, z3, z4⟩ := sesT_size (hx x (List.mem_cons_self ..))
    have e3 : (sesT x).data.toList.length = (sesT x).size := rfl
    have e4 : (sesT x).size ≤ 20 := by
     simp only [sesT, ByteArray.size_append, size_lit, z4]
     omega
    rw [sesL] at h6 ⊢
    rw [List.flatMap_cons, List.length_append, e3, List.length_cons]
    omega
 have h7 := e2 m.Sessions h4
 rw [← e, mchT, if_pos h]
 simp only [List.length_append, fS_digs h2, List.length_map, h1]
 omega
def swT : ByteArray := ⟨#[32, 115, 119, 97, 112, 32]⟩
def wrT : ByteArray := ⟨#[32, 119, 114, 105, 116, 101, 32]⟩
def kT (o : GOp) : ByteArray := if o.Kind = 2 then swT ++ sI o.Object ++ ⟨#[32]⟩ ++ sI o.Old ++ ⟨#[32]⟩ ++ sI o.Value else wrT ++ sI o.Object ++ ⟨#[32]⟩ ++ sI o.Value
def opT (o : GOp) : ByteArray := if okOp o = true then sI o.Client ++ ⟨#[46]⟩ ++ sI o.Seq ++ kT o else ⟨#[]⟩
theorem okOp_spec {o : GOp} (h : okOp o = true) : (0 ≤ o.Client ∧ o.Client ≤ 2) ∧ (1 ≤ o.Seq ∧ o.Seq ≤ 99) ∧ (0 ≤ o.Object ∧ o.Object ≤ 2) ∧ (0 ≤ o.Value ∧ o.Value ≤ 9) ∧ ((o.Kind = 1 ∧ o.Old = 0) ∨ (o.Kind = 2 ∧ 0 ≤ o.Old ∧ o.Old ≤ 9)) := of_decide_eq_true h
theorem swT_size : swT.size = 6 := rfl
theorem wrT_size : wrT.size = 7 := rfl
theorem opT_sizes {o : GOp} (h : okOp o = true) : (sI o.Client).size ≤ 2 ∧ (sI o.Seq).size ≤ 2 ∧ (sI o.Object).size ≤ 2 ∧ (sI o.Value).size ≤ 2 ∧ (sI o.Old).size ≤ 2 := by
 have h := okOp_spec h
 exact ⟨(sI_size (by omega) (by omega)).2, (sI_size (by omega) (by omega)).2, (sI_size (by omega) (by omega)).2, (sI_size (by omega) (by omega)).2, (sI_size (by omega) (by omega)).2⟩
theorem opT_size (o : GOp) : (opT o).size ≤ 30 := by
 unfold opT
 split
 ·rename_i h
  obtain ⟨z1, z2, z3, z4, z5⟩ := opT_sizes h
  unfold kT
  split <;> simp only [ByteArray.size_append, size_lit, swT_size, wrT_size] <;> omega
 ·exact Nat.zero_le _
theorem opT_sw (o : GOp) (h : okOp o = true) (hk : o.Kind = 2) : opT o = sI o.Client ++ ⟨#[46]⟩ ++ sI o.Seq ++ swT ++ sI o.Object ++ ⟨#[32]⟩ ++ sI o.Old ++ ⟨#[32]⟩ ++ sI o.Value := by
 rw [opT, if_pos h, kT, if_pos hk]
 refine bytes_ext ?_
 simp
theorem opT_wr (o : GOp) (h : okOp o = true) (hk : ¬ o.Kind = 2) : opT o = sI o.Client ++ ⟨#[46]⟩ ++ sI o.Seq ++ wrT ++ sI o.Object ++ ⟨#[32]⟩ ++ sI o.Value := by
 rw [opT, if_pos h, kT, if_neg hk]
 refine bytes_ext ?_
 simp
theorem lit5 {a b c d e : UInt8} : (⟨#[a, b, c, d, e]⟩ : ByteArray).size = 5 := rfl
theorem lit6 {a b c d e f : UInt8} : (⟨#[a, b, c, d, e, f]⟩ : ByteArray).size = 6 := rfl
theorem lit7 {a b c d e f g : UInt8} : (⟨#[a, b, c, d, e, f, g]⟩ : ByteArray).size = 7 := rfl
theorem w_impl_FormatOp (o : GOp) : Fn Pr n_impl_FormatOp [aGOp o] (.str (fun _ => opT o)) := by
 refine k_impl_FormatOp.fn (by kernel_rfl) ?_
 conv=>arg 4;cbv
 refine Sat.callb (w_impl_IsValidOp o) rfl ledA (fun hA => ?_) (fun hA => ?_) <;> (conv=>arg 4;cbv)
 rotate_left
 ·refine Sat.done (.str ?_)
  rw [opT, if_neg (by rw [hA]; exact Bool.false_ne_true)]
 have hr := okOp_spec hA
 obtain ⟨z1, z2, z3, z4, z5⟩ := opT_sizes hA
 repeat' first
  | (refine Sat.cmp (fun h => ?_) (fun h => ?_) <;> simp only [Cmp.holds] at h <;> (conv=>arg 4;cbv))
  | (refine Sat.call (w_impl_FormatIntG o.Client (by omega) (by omega)) rfl ledA ?_; conv=>arg 4;cbv)
  | (refine Sat.call (w_impl_FormatIntG o.Seq (by omega) (by omega)) rfl ledA ?_; conv=>arg 4;cbv)
  | (refine Sat.call (w_impl_FormatIntG o.Object (by omega) (by omega)) rfl ledA ?_; conv=>arg 4;cbv)
  | (refine Sat.call (w_impl_FormatIntG o.Old (by omega) (by omega)) rfl ledA ?_; conv=>arg 4;cbv)
  | (refine Sat.call (w_impl_FormatIntG o.Value (by omega) (by omega)) rfl ledA ?_; conv=>arg 4;cbv)
  | (refine Sat.need (by (try dsimp only); simp only [ByteArray.size_append, size_lit, lit5, lit6, lit7]; omega) ?_; conv=>arg 4;cbv)
  | refine Sat.done ?_
 all_goals refine .str ?_
 ·rw [opT_sw o hA (by omega)]
  refine bytes_ext ?_
  simp [swT, wrT]
 ·rw [opT_wr o hA (by omega)]
  refine bytes_ext ?_
  simp [swT, wrT]
theorem w_spec_FormatOp (o : GOp) : Fn Pr n_spec_FormatOp [aGOp o] (.str (fun _ => opT o)) := by
 refine k_spec_FormatOp.fn (by kernel_rfl) ?_
 conv=>arg 4;cbv
 refine Sat.callb (w_spec_IsValidOp o) rfl ledA (fun hA => ?_) (fun hA => ?_) <;> (conv=>arg 4;cbv)
 rotate_left
 ·refine Sat.done (.str ?_)
  rw [opT, if_neg (by rw [hA]; exact Bool.false_ne_true)]
 have hr := okOp_spec hA
 obtain ⟨z1, z2, z3, z4, z5⟩ := opT_sizes hA
 repeat' first
  | (refine Sat.cmp (fun h => ?_) (fun h => ?_) <;> simp only [Cmp.holds] at h <;> (conv=>arg 4;cbv))
  | (refine Sat.call (w_spec_FormatIntG o.Client (by omega) (by omega)) rfl ledA ?_; conv=>arg 4;cbv)
  | (refine Sat.call (w_spec_FormatIntG o.Seq (by omega) (by omega)) rfl ledA ?_; conv=>arg 4;cbv)
  | (refine Sat.call (w_spec_FormatIntG o.Object (by omega) (by omega)) rfl ledA ?_; conv=>arg 4;cbv)
  | (refine Sat.call (w_spec_FormatIntG o.Old (by omega) (by omega)) rfl ledA ?_; conv=>arg 4;cbv)
  | (refine Sat.call (w_spec_FormatIntG o.Value (by omega) (by omega)) rfl ledA ?_; conv=>arg 4;cbv)
  | (refine Sat.need (by (try dsimp only); simp only [ByteArray.size_append, size_lit, lit5, lit6, lit7]; omega) ?_; conv=>arg 4;cbv)
  | refine Sat.done ?_
 all_goals refine .str ?_
 ·rw [opT_wr o hA (by omega)]
  refine bytes_ext ?_
  simp [swT, wrT]
 ·rw [opT_sw o hA (by omega)]
  refine bytes_ext ?_
  simp [swT, wrT]
--import Derived.Shelf.Strings.Cut
def zeroO : GOp := ⟨0, 0, 0, 0, 0, 0⟩
def emT : ByteArray := ⟨#[]⟩
def opW (L : List ByteArray) : GOp := ⟨pNum (ctA 46 (L.getD 0 emT)), pNum (ctZ 46 (L.getD 0 emT)), (if L.length = 5 then 2 else 1), pNum (L.getD 2 emT), (if L.length = 5 then pNum (L.getD 3 emT) else 0), pNum (L.getD (L.length - 1) emT)⟩
def pOL (s : ByteArray) (L : List ByteArray) : GOp × Bool := if L.length < 4 then (zeroO, false) else if opT (opW L) = s then (opW L, true) else (zeroO, false)
def pO (s : ByteArray) : GOp × Bool := pOL s (cutB 32 s)
theorem getD_of {L : List ByteArray} {i : Nat} {v : ByteArray} (h : L[i]? = some v) : L.getD i emT = v := by
 rw [List.getD_eq_getElem?_getD, h]
 rfl
theorem get_some {L : List ByteArray} {i : Nat} (h : i < L.length) : ∃ v, L[i]? = some v := ⟨_, List.getElem?_eq_getElem h⟩
set_option maxHeartbeats 2000000 in
theorem w_impl_ParseOp (s : ByteArray) (hs : s.size ≤ 1048576) : Fn Pr n_impl_ParseOp [.str (fun _ => s)] (.tup [aGOp (pO s).1, .bo (pO s).2]) := by
 have HSP := w_strings_SplitC 32 s (by omega)
 have hmem : ∀ x ∈ cutB 32 s, x.size ≤ s.size := fun x hx => cutB_size hx
 have hlen := (cutB_len 32 s).1
 unfold pO
 generalize cutB 32 s = L at HSP hmem hlen ⊢
 refine k_impl_ParseOp.fn (by kernel_rfl) ?_
 conv=>arg 4;cbv
 refine Sat.call HSP rfl ledA ?_
 conv=>arg 4;cbv
 refine Sat.cmp (fun h => ?_) (fun h => ?_) <;> simp only [Cmp.holds] at h
 ·have h4 : L.length < 4 := by exact arA
  conv=>arg 4;cbv
  refine Sat.done ?_
  rw [pOL, if_pos h4]
  exact .tup rfl (led_cons (.same _) (led_cons (.same _) led_nil))
 have h4 : ¬ L.length < 4 := by exact arA
 obtain ⟨v0, e0⟩ := get_some (L := L) (i := 0) (by omega)
 obtain ⟨v2, e2⟩ := get_some (L := L) (i := 2) (by omega)
 obtain ⟨v3, e3⟩ := get_some (L := L) (i := 3) (by omega)
 obtain ⟨vl, el⟩ := get_some (L := L) (i := L.length - 1) (by omega)
 have m0 := hmem v0 (List.mem_of_getElem? e0)
 have m2 := hmem v2 (List.mem_of_getElem? e2)
 have m3 := hmem v3 (List.mem_of_getElem? e3)
 have ml := hmem vl (List.mem_of_getElem? el)
 have hct := ct_size 46 v0
 rw [pOL, if_neg h4, opW, getD_of e0, getD_of e2, getD_of e3, getD_of el]
 by_cases h5 : L.length = 5
 ·rw [if_pos h5, if_pos h5]
  have WC := w_strings_Cut 46 v0 (by omega)
  generalize ctF 46 v0 = bf at WC
  conv=>arg 4;cbv
  refine Sat.need (by (try dsimp only); exact arA) ?_
  conv=>arg 4;cbv
  refine Sat.idx (by (try dsimp only); exact arA) (fun u0 hu0 => ?_)
  obtain rfl : u0 = v0 := Option.some.inj (Eq.trans (Eq.symm hu0) e0)
  conv=>arg 4;cbv
  refine Sat.call WC rfl ledA ?_
  conv=>arg 4;cbv
  repeat' first
   | (refine Sat.call (w_impl_number (ctA 46 u0) (by omega)) rfl ledA ?_; conv=>arg 4;cbv)
   | (refine Sat.call (w_impl_number (ctZ 46 u0) (by omega)) rfl ledA ?_; conv=>arg 4;cbv)
  refine Sat.need (by (try dsimp only); exact arA) ?_
  conv=>arg 4;cbv
  refine Sat.idx (by (try dsimp only); exact arA) (fun u2 hu2 => ?_)
  obtain rfl : u2 = v2 := Option.some.inj (Eq.trans (Eq.symm hu2) e2)
  conv=>arg 4;cbv
  refine Sat.call (w_impl_number u2 (by omega)) rfl ledA ?_
  conv=>arg 4;cbv
  refine Sat.ari64 (by (try dsimp only); exact arA) (by (try dsimp only); exact arA) ?_
  conv=>arg 4;cbv
  refine Sat.need (by (try dsimp only); exact arA) ?_
  conv=>arg 4;cbv
  refine Sat.idx (by (try dsimp only); exact arA) (fun ul hul => ?_)
  obtain rfl : ul = vl := Option.some.inj (Eq.trans (Eq.symm hul) (by
   show L[0 + ((L.length : Int) - 1).toNat]? = some vl
   rw [show 0 + ((L.length : Int) - 1).toNat = L.length - 1 by omega]
   exact el))
  conv=>arg 4;cbv
  refine Sat.call (w_impl_number ul (by omega)) rfl ledA ?_
  conv=>arg 4;cbv
  refine Sat.cmp (fun h => ?_) (fun h => ?_) <;> simp only [Cmp.holds] at h
  rotate_left
  ·exfalso
   exact arA
  conv=>arg 4;cbv
  refine Sat.need (by (try dsimp only); exact arA) ?_
  conv=>arg 4;cbv
  refine Sat.idx (by (try dsimp only); exact arA) (fun u3 hu3 => ?_)
  obtain rfl : u3 = v3 := Option.some.inj (Eq.trans (Eq.symm hu3) e3)
  conv=>arg 4;cbv
  refine Sat.call (w_impl_number u3 (by omega)) rfl ledA ?_
  conv=>arg 4;cbv
  refine Sat.call (w_impl_FormatOp ⟨pNum (ctA 46 u0), pNum (ctZ 46 u0), 2, pNum u2, pNum u3, pNum ul⟩) rfl ledA ?_
  conv=>arg 4;cbv
  refine Sat.test (fun h => ?_) (fun h => ?_)
  ·have h : opT ⟨pNum (ctA 46 u0), pNum (ctZ 46 u0), 2, pNum u2, pNum u3, pNum ul⟩ = s := of_decide_eq_true h
   conv=>arg 4;cbv
   refine Sat.done ?_
   rw [if_pos h]
   exact .tup rfl (led_cons (.same _) (led_cons (.same _) led_nil))
  ·have h : ¬ opT ⟨pNum (ctA 46 u0), pNum (ctZ 46 u0), 2, pNum u2, pNum u3, pNum ul⟩ = s := of_decide_eq_false h
   conv=>arg 4;cbv
   refine Sat.done ?_
   rw [if_neg h]
   exact .tup rfl (led_cons (.same _) (led_cons (.same _) led_nil))
 ·rw [if_neg h5, if_neg h5]
  have WC := w_strings_Cut 46 v0 (by omega)
  generalize ctF 46 v0 = bf at WC
  conv=>arg 4;cbv
  refine Sat.need (by (try dsimp only); exact arA) ?_
  conv=>arg 4;cbv
  refine Sat.idx (by (try dsimp only); exact arA) (fun u0 hu0 => ?_)
  obtain rfl : u0 = v0 := Option.some.inj (Eq.trans (Eq.symm hu0) e0)
  conv=>arg 4;cbv
  refine Sat.call WC rfl ledA ?_
  conv=>arg 4;cbv
  repeat' first
   | (refine Sat.call (w_impl_number (ctA 46 u0) (by omega)) rfl ledA ?_; conv=>arg 4;cbv)
   | (refine Sat.call (w_impl_number (ctZ 46 u0) (by omega)) rfl ledA ?_; conv=>arg 4;cbv)
  refine Sat.need (by (try dsimp only); exact arA) ?_
  conv=>arg 4;cbv
  refine Sat.idx (by (try dsimp only); exact arA) (fun u2 hu2 => ?_)
  obtain rfl : u2 = v2 := Option.some.inj (Eq.trans (Eq.symm hu2) e2)
  conv=>arg 4;cbv
  refine Sat.call (w_impl_number u2 (by omega)) rfl ledA ?_
  conv=>arg 4;cbv
  refine Sat.ari64 (by (try dsimp only); exact arA) (by (try dsimp only); exact arA) ?_
  conv=>arg 4;cbv
  refine Sat.need (by (try dsimp only); exact arA) ?_
  conv=>arg 4;cbv
  refine Sat.idx (by (try dsimp only); exact arA) (fun ul hul => ?_)
  obtain rfl : ul = vl := Option.some.inj (Eq.trans (Eq.symm hul) (by
   show L[0 + ((L.length : Int) - 1).toNat]? = some vl
   rw [show 0 + ((L.length : Int) - 1).toNat = L.length - 1 by omega]
   exact el))
  conv=>arg 4;cbv
  refine Sat.call (w_impl_number ul (by omega)) rfl ledA ?_
  conv=>arg 4;cbv
  refine Sat.cmp (fun h => ?_) (fun h => ?_) <;> simp only [Cmp.holds] at h
  ·exfalso
   exact arA
  conv=>arg 4;cbv
  refine Sat.call (w_impl_FormatOp ⟨pNum (ctA 46 u0), pNum (ctZ 46 u0), 1, pNum u2, 0, pNum ul⟩) rfl ledA ?_
  conv=>arg 4;cbv
  refine Sat.test (fun h => ?_) (fun h => ?_)
  ·have h : opT ⟨pNum (ctA 46 u0), pNum (ctZ 46 u0), 1, pNum u2, 0, pNum ul⟩ = s := of_decide_eq_true h
   conv=>arg 4;cbv
   refine Sat.done ?_
   rw [if_pos h]
   exact .tup rfl (led_cons (.same _) (led_cons (.same _) led_nil))
  ·have h : ¬ opT ⟨pNum (ctA 46 u0), pNum (ctZ 46 u0), 1, pNum u2, 0, pNum ul⟩ = s := of_decide_eq_false h
   conv=>arg 4;cbv
   refine Sat.done ?_
   rw [if_neg h]
   exact .tup rfl (led_cons (.same _) (led_cons (.same _) led_nil))
--import Derived.Lib.Join
def entT (e : GEntry) : ByteArray := sI e.Epoch ++ ⟨#[58]⟩ ++ opT e.Op
def entL (e : GEntry) : List UInt8 := (entT e).data.toList
def logL : List GEntry → List UInt8
 | [] => []
 | e :: r => entL e ++ r.flatMap (fun x => 59 :: entL x)
def logT (l : List GEntry) : ByteArray := if isLog l = true then (if l = [] then noneT else ⟨(logL l).toArray⟩) else ⟨#[]⟩
theorem okLogFrom_all : ∀ {l : List GEntry} {p : Int}, okLogFrom p l = true → ∀ e ∈ l, (1 ≤ e.Epoch ∧ e.Epoch ≤ 20) ∧ okOp e.Op = true
 | [], _, _, e, he => by cases he
 | x :: r, p, h, e, he => by
   simp only [okLogFrom, Bool.and_eq_true, decide_eq_true_eq] at h
   rcases List.mem_cons.1 he with rfl | he
   ·exact ⟨h.1.1.1, h.1.1.2⟩
   ·exact okLogFrom_all h.2 e he
theorem isLog_spec {l : List GEntry} (h : isLog l = true) : l.length ≤ 16 ∧ ∀ e ∈ l, (1 ≤ e.Epoch ∧ e.Epoch ≤ 20) ∧ okOp e.Op = true := by
 rw [isLog, Bool.and_eq_true] at h
 exact ⟨of_decide_eq_true h.2, okLogFrom_all h.1⟩
theorem entT_size {e : GEntry} (h : 1 ≤ e.Epoch ∧ e.Epoch ≤ 20) : (entT e).size ≤ 33 := by
 have h1 := (sI_size (n := e.Epoch) (by omega) (by omega)).2
 have h2 := opT_size e.Op
 simp only [entT, ByteArray.size_append, size_lit]
 omega
theorem logL_snoc : ∀ (l : List GEntry) (e : GEntry), logL (l ++ [e]) = if l = [] then entL e else logL l ++ 59 :: entL e
 | [], e => by simp [logL]
 | x :: r, e => by
   rw [if_neg (by simp), List.cons_append, logL, logL, List.flatMap_append]
   simp
theorem take_snocE {l : List GEntry} {i : Nat} {e : GEntry} (h : l[i]? = some e) : l.take (i + 1) = l.take i ++ [e] := by rw [List.take_add_one, h]; rfl
theorem join_log : ∀ l : List GEntry, l ≠ [] → Lib.join ((l.map entT).map (·.data.toList)) [59] = logL l
 | [], h => absurd rfl h
 | e :: r, _ => by
   rw [List.map_cons, List.map_cons, Lib.join_cons, logL]
   have : ∀ r : List GEntry, Lib.joinTail [59] ((r.map entT).map (·.data.toList)) = r.flatMap (fun x => 59 :: entL x) := by
    intro r
    induction r with
    | nil => rfl
    | cons x r ih =>
      rw [List.flatMap_cons, ← ih]
      rfl
   rw [this]
   rfl
theorem logL_len : ∀ {l : List GEntry}, (∀ e ∈ l, (1 ≤ e.Epoch ∧ e.Epoch ≤ 20) ∧ okOp e.Op = true) → (logL l).length ≤ 34 * l.length
 | [], _ => Nat.le_refl _
 | e :: r, h => by
   have e1 : ∀ x : GEntry, (entL x).length = (entT x).size := fun x => rfl
   have h1 := entT_size (h e (List.mem_cons_self ..)).1
   have h2 : ∀ r : List GEntry, (∀ e ∈ r, (1 ≤ e.Epoch ∧ e.Epoch ≤ 20) ∧ okOp e.Op = true) → (r.flatMap (fun x => 59 :: entL x)).length ≤ 34 * r.length := by
    intro r
    induction r with
    | nil => intro _; exact Nat.le_refl _
    | cons x r ih =>
      intro hr
      have h3 := ih (fun y hy => hr y (List.mem_cons_of_mem _ hy))
      have h4 := entT_size (hr x (List.mem_cons_self ..)).1
      rw [List.flatMap_cons, List.length_append, List.length_cons, List.length_cons, e1]
      omega
   have h5 := h2 r (fun y hy => h y (List.mem_cons_of_mem _ hy))
   rw [logL, List.length_append, e1, List.length_cons]
   omega
set_option maxHeartbeats 1000000 in
theorem w_spec_FormatLog (l : List GEntry) (hb : bEntryS l) : Fn Pr n_spec_FormatLog [.sl 7 eGEntry (fun _ => l)] (.str (fun _ => logT l)) := by
 have h0 : l.length * 56 ≤ 140737488351232 := hb
 refine k_spec_FormatLog.fn (by kernel_rfl) ?_
 conv=>arg 4;cbv
 refine Sat.callb (w_spec_IsLog l hb) rfl ledA (fun hA => ?_) (fun hA => ?_) <;> (conv=>arg 4;cbv)
 rotate_left
 ·refine Sat.done (.str ?_)
  rw [logT, if_neg (by rw [hA]; exact Bool.false_ne_true)]
 obtain ⟨h16, hall⟩ := isLog_spec hA
 refine Sat.cmp (fun h => ?_) (fun h => ?_) <;> simp only [Cmp.holds] at h
 ·have hn : l = [] := List.eq_nil_of_length_eq_zero (by exact arA)
  conv=>arg 4;cbv
  refine Sat.done (.str ?_)
  rw [logT, if_pos hA, if_pos hn]
  rfl
 have hne : l ≠ [] := fun e => h (by rw [e]; rfl)
 conv=>arg 4;cbv
 refine Sat.loopP (ι := Nat × ByteArray) (fun x => [(4, .int .i64 (fun _ => (x.1 : Int))), (3, .str (fun _ => x.2))]) (fun x => []) (fun x => x.1 ≤ l.length ∧ x.2.data.toList = logL (l.take x.1) ∧ x.2.size ≤ 34 * x.1) (fun x => l.length - x.1) (0, ⟨#[]⟩) ?_ ⟨Nat.zero_le _, rfl, Nat.le_refl _⟩ (fun x hx => ?_)
 ·exact lesA
 obtain ⟨i, s⟩ := x
 obtain ⟨hi, hs1, hs2⟩ := hx
 simp only at hi hs1 hs2
 conv=>arg 4;cbv
 refine Sat.cmp (fun h5 => ?_) (fun h5 => ?_) <;> simp only [Cmp.holds] at h5
 ·have hi2 : i < l.length := by exact arA
  obtain ⟨e, he⟩ : ∃ e, l[i]? = some e := ⟨_, List.getElem?_eq_getElem hi2⟩
  have hr := hall e (List.mem_of_getElem? he)
  have hz := entT_size hr.1
  have hz1 := (sI_size (n := e.Epoch) (by omega) (by omega)).2
  have hz2 := opT_size e.Op
  have hsn : logL (l.take (i + 1)) = if l.take i = [] then entL e else logL (l.take i) ++ 59 :: entL e := by rw [take_snocE he, logL_snoc]
  have hee : entL e = (sI e.Epoch).data.toList ++ 58 :: (opT e.Op).data.toList := by rw [entL, entT]; simp
  conv=>arg 4;cbv
  refine Sat.cmp (fun h6 => ?_) (fun h6 => ?_) <;> simp only [Cmp.holds] at h6
  ·have hti : l.take i ≠ [] := fun q => by
    have h7 := congrArg List.length q
    rw [List.length_take] at h7
    simp only [List.length_nil] at h7
    (try simp only [ncast] at *)
    omega
   have hd : (s ++ ⟨#[59]⟩ ++ sI e.Epoch ++ ⟨#[58]⟩ ++ opT e.Op).data.toList = logL (l.take (i + 1)) := by
    rw [hsn, if_neg hti, ← hs1, hee]
    simp
   conv=>arg 4;cbv
   repeat' first
    | (refine Sat.need (by (try dsimp only); simp only [ByteArray.size_append, size_lit]; omega) ?_; conv=>arg 4;cbv)
    | (refine Sat.need (by (try dsimp only); exact arA) ?_; conv=>arg 4;cbv)
    | (refine Sat.idx (by (try dsimp only); exact arA) (fun e2 he2 => ?_); obtain rfl : e = e2 := Option.some.inj (Eq.trans (Eq.symm he) he2); conv=>arg 4;cbv)
    | (refine Sat.call (w_spec_FormatIntG e.Epoch (by omega) (by omega)) rfl ledA ?_; conv=>arg 4;cbv)
    | (refine Sat.call (w_spec_FormatOp e.Op) rfl ledA ?_; conv=>arg 4;cbv)
    | (refine Sat.ari64 (by (try dsimp only); exact arA) (by (try dsimp only); exact arA) ?_; conv=>arg 4;cbv)
    | refine Sat.next (i + 1, s ++ ⟨#[59]⟩ ++ sI e.Epoch ++ ⟨#[58]⟩ ++ opT e.Op) ?_ ⟨by exact arA, hd, by (try dsimp only); simp only [ByteArray.size_append, size_lit]; omega⟩ (by (try dsimp only); exact arA)
   exact lesA
  ·have hi0 : i = 0 := by exact arA
   subst hi0
   have hd : (s ++ sI e.Epoch ++ ⟨#[58]⟩ ++ opT e.Op).data.toList = logL (l.take (0 + 1)) := by
    rw [hsn, if_pos (by rfl), hee]
    have hs1 : s.data.toList = [] := hs1
    simp [hs1]
   conv=>arg 4;cbv
   repeat' first
    | (refine Sat.need (by (try dsimp only); simp only [ByteArray.size_append, size_lit]; omega) ?_; conv=>arg 4;cbv)
    | (refine Sat.need (by (try dsimp only); exact arA) ?_; conv=>arg 4;cbv)
    | (refine Sat.idx (by (try dsimp only); exact arA) (fun e2 he2 => ?_); obtain rfl : e = e2 := Option.some.inj (Eq.trans (Eq.symm he) he2); conv=>arg 4;cbv)
    | (refine Sat.call (w_spec_FormatIntG e.Epoch (by omega) (by omega)) rfl ledA ?_; conv=>arg 4;cbv)
    | (refine Sat.call (w_spec_FormatOp e.Op) rfl ledA ?_; conv=>arg 4;cbv)
    | (refine Sat.ari64 (by (try dsimp only); exact arA) (by (try dsimp only); exact arA) ?_; conv=>arg 4;cbv)
    | refine Sat.next (0 + 1, s ++ sI e.Epoch ++ ⟨#[58]⟩ ++ opT e.Op) ?_ ⟨by exact arA, hd, by (try dsimp only); simp only [ByteArray.size_append, size_lit]; omega⟩ (by (try dsimp only); exact arA)
   exact lesA
 ·have hie : i = l.length := by exact arA
  conv=>arg 4;cbv
  refine Sat.pop ?_
  conv=>arg 4;cbv
  refine Sat.done (.str ?_)
  rw [logT, if_pos hA, if_neg hne]
  exact bytes_ext (by rw [hs1, hie, List.take_length])
--import Derived.Shelf.Strings.OnBuilder
theorem ents_snoc {l : List GEntry} {i : Nat} {e : GEntry} (h : l[i]? = some e) : (l.take (i + 1)).map entT = (l.take i).map entT ++ [entT e] := by
 rw [take_snocE h, List.map_append]
 rfl
set_option maxHeartbeats 1000000 in
theorem w_impl_FormatLog (l : List GEntry) (hb : bEntryS l) : Fn Pr n_impl_FormatLog [.sl 7 eGEntry (fun _ => l)] (.str (fun _ => logT l)) := by
 have h0 : l.length * 56 ≤ 140737488351232 := hb
 refine k_impl_FormatLog.fn (by kernel_rfl) ?_
 conv=>arg 4;cbv
 refine Sat.callb (w_impl_IsLog l hb) rfl ledA (fun hA => ?_) (fun hA => ?_) <;> (conv=>arg 4;cbv)
 rotate_left
 ·refine Sat.done (.str ?_)
  rw [logT, if_neg (by rw [hA]; exact Bool.false_ne_true)]
 obtain ⟨h16, hall⟩ := isLog_spec hA
 have hLl := logL_len hall
 refine Sat.cmp (fun h => ?_) (fun h => ?_) <;> simp only [Cmp.holds] at h
 ·have hn : l = [] := List.eq_nil_of_length_eq_zero (by exact arA)
  conv=>arg 4;cbv
  refine Sat.done (.str ?_)
  rw [logT, if_pos hA, if_pos hn]
  rfl
 have hne : l ≠ [] := fun e => h (by rw [e]; rfl)
 have hjn := join_log l hne
 conv=>arg 4;cbv
 refine Sat.loopP (ι := Nat) (fun i => [(17, .int .i64 (fun _ => (i : Int))), (3, .ref 33 (fun _ => 0) (fun _ => ((l.take i).map entT).length))]) (fun i => [(33, .row 1 encS (fun _ => (l.take i).map entT) false)]) (fun i => i ≤ l.length) (fun i => l.length - i) 0 ?_ (Nat.zero_le _) (fun i hi => ?_)
 ·refine les_of ?_ ?_ rfl
  iterate 2 (focus repeat' (first | exact trivial | refine And.intro ?_ ?_ | exact levA | refine lev_cons ?_ ?_ | refine LeV.agg rfl ?_ | exact Nat.le_of_ble_eq_true rfl | exact Or.inl ⟨_, rfl, .row rfl⟩ | refine Or.inl ⟨_, rfl, .row ?_⟩ | refine Or.inl ⟨_, rfl, .lit rfl ?_⟩ | exact Or.inr ⟨rfl, rfl⟩ | (first | exact .empref (fun h => nomatch h) rfl rfl rfl | rfl)))
 have hjl : ((l.take i).map entT).length = i := by rw [List.length_map, List.length_take]; omega
 conv=>arg 4;cbv
 refine Sat.cmp (fun h5 => ?_) (fun h5 => ?_) <;> simp only [Cmp.holds] at h5
 ·have hi2 : i < l.length := by exact arA
  obtain ⟨e, he⟩ : ∃ e, l[i]? = some e := ⟨_, List.getElem?_eq_getElem hi2⟩
  have hr := hall e (List.mem_of_getElem? he)
  have hz1 := (sI_size (n := e.Epoch) (by omega) (by omega)).2
  have hz2 := opT_size e.Op
  have hsn := ents_snoc he
  conv=>arg 4;cbv
  refine Sat.need (by (try dsimp only); exact arA) ?_
  conv=>arg 4;cbv
  refine Sat.idx (by (try dsimp only); exact arA) (fun e2 he2 => ?_)
  obtain rfl : e = e2 := Option.some.inj (Eq.trans (Eq.symm he) he2)
  conv=>arg 4;cbv
  refine Sat.call (w_impl_FormatIntG e.Epoch (by omega) (by omega)) rfl ledA ?_
  conv=>arg 4;cbv
  refine Sat.need (by (try dsimp only); simp only [ByteArray.size_append, size_lit]; omega) ?_
  conv=>arg 4;cbv
  refine Sat.call (w_impl_FormatOp e.Op) rfl ledA ?_
  conv=>arg 4;cbv
  refine Sat.need (by (try dsimp only); simp only [ByteArray.size_append, size_lit]; omega) ?_
  conv=>arg 4;cbv
  refine Sat.need ⟨rfl, fun y _ j _ => rfl, (by (try dsimp only); exact arA)⟩ ?_
  conv=>arg 4;cbv
  refine Sat.same ?_
  conv=>arg 4;cbv
  refine Sat.ari64 (by (try dsimp only); exact arA) (by (try dsimp only); exact arA) ?_
  conv=>arg 4;cbv
  refine Sat.next (i + 1) ?_ (by exact arA) (by (try dsimp only); exact arA)
  have e7 : (l.take (i + 1)).map entT = List.take ((l.take i).map entT).length ((l.take i).map entT) ++ List.take 1 (List.drop 0 [sI e.Epoch ++ ⟨#[58]⟩ ++ opT e.Op]) := by rw [List.take_length, hsn]; rfl
  refine les_of ?_ ?_ rfl
  iterate 2 (focus repeat' (first | exact trivial | refine And.intro ?_ ?_ | exact levA | refine lev_cons ?_ ?_ | refine LeV.agg rfl ?_ | exact Nat.le_of_ble_eq_true rfl | exact Or.inl ⟨_, rfl, .row rfl⟩ | refine Or.inl ⟨_, rfl, .row ?_⟩ | refine Or.inl ⟨_, rfl, .lit rfl ?_⟩ | exact Or.inr ⟨rfl, rfl⟩ | (first | exact .ref (fun h => nomatch h) (fun h => nomatch h) rfl (by (try dsimp only); rw [hsn]; simp) | exact e7.symm)))
 have hie : i = l.length := by exact arA
 have htk : (l.take i).map entT = l.map entT := by rw [hie, List.take_length]
 rw [htk]
 conv=>arg 4;cbv
 refine Sat.pop ?_
 conv=>arg 4;cbv
 refine Sat.call (w_strings_Join (l.map entT) ⟨#[59]⟩ (by rw [List.length_map]; omega) (by
  show (Lib.join ((l.map entT).map (·.data.toList)) [59]).length ≤ _
  rw [hjn]
  omega)) rfl (fun i x y hx hy => by
  match i with
  | 0 =>
    rw [List.getElem?_cons_zero, Option.some.injEq] at hx hy
    subst hx hy
    exact .sl (tkdr _)
  | 1 =>
    rw [List.getElem?_cons_succ, List.getElem?_cons_zero, Option.some.injEq] at hx hy
    subst hx hy
    exact .same _
  | i + 2 => simp at hx) ?_
 conv=>arg 4;cbv
 refine Sat.done (.str ?_)
 show (⟨(Lib.join ((l.map entT).map (·.data.toList)) [59]).toArray⟩ : ByteArray) = _
 rw [hjn, logT, if_pos hA, if_neg hne]
--import Derived.Shelf.Strings.Cut
def ent (p : ByteArray) : GEntry := ⟨pNum (ctA 58 p), (pO (ctZ 58 p)).1⟩
def pLL (s : ByteArray) (L : List ByteArray) : List GEntry × Bool := if s = noneT then ([], true) else if s = ⟨#[]⟩ ∨ logT (L.map ent) ≠ s then ([], false) else (L.map ent, true)
def pLg (s : ByteArray) : List GEntry × Bool := pLL s (cutB 59 s)
theorem ent_snoc {L : List ByteArray} {i : Nat} {p : ByteArray} (h : L[i]? = some p) : (L.take (i + 1)).map ent = (L.take i).map ent ++ [ent p] := by
 rw [List.take_add_one, h, List.map_append]
 rfl
set_option maxHeartbeats 2000000 in
theorem w_impl_ParseLog (s : ByteArray) (hs : s.size ≤ 1048576) : Fn Pr n_impl_ParseLog [.str (fun _ => s)] (.tup [.sl 7 eGEntry (fun _ => (pLg s).1), .bo (pLg s).2]) := by
 have HSP := w_strings_SplitC 59 s (by omega)
 have hmem : ∀ x ∈ cutB 59 s, x.size ≤ s.size := fun x hx => cutB_size hx
 have hlen := (cutB_len 59 s).1
 unfold pLg
 generalize cutB 59 s = L at HSP hmem hlen ⊢
 refine k_impl_ParseLog.fn (by kernel_rfl) ?_
 conv=>arg 4;cbv
 refine Sat.test (fun h => ?_) (fun h => ?_)
 ·have h : s = noneT := of_decide_eq_true h
  conv=>arg 4;cbv
  refine Sat.done ?_
  rw [pLL, if_pos h]
  exact .tup rfl (led_cons (.emp rfl) (led_cons (.same _) led_nil))
 have hne : s ≠ noneT := of_decide_eq_false h
 conv=>arg 4;cbv
 refine Sat.call HSP rfl ledA ?_
 conv=>arg 4;cbv
 refine Sat.loopP (ι := Nat) (fun i => [(19, .int .i64 (fun _ => (i : Int))), (4, .ref 7 (fun _ => 0) (fun _ => ((L.take i).map ent).length))]) (fun i => [(7, .row 7 eGEntry (fun _ => (L.take i).map ent) false)]) (fun i => i ≤ L.length) (fun i => L.length - i) 0 ?_ (Nat.zero_le _) (fun i hi => ?_)
 ·refine les_of ?_ ?_ rfl
  iterate 2 (focus repeat' (first | exact trivial | refine And.intro ?_ ?_ | exact levA | refine lev_cons ?_ ?_ | refine LeV.agg rfl ?_ | exact Nat.le_of_ble_eq_true rfl | exact Or.inl ⟨_, rfl, .row rfl⟩ | refine Or.inl ⟨_, rfl, .row ?_⟩ | refine Or.inl ⟨_, rfl, .lit rfl ?_⟩ | exact Or.inr ⟨rfl, rfl⟩ | (first | exact .empref (fun h => nomatch h) rfl rfl rfl | rfl)))
 have hjl : ((L.take i).map ent).length = i := by rw [List.length_map, List.length_take]; omega
 conv=>arg 4;cbv
 refine Sat.cmp (fun h5 => ?_) (fun h5 => ?_) <;> simp only [Cmp.holds] at h5
 ·have hi2 : i < L.length := by exact arA
  obtain ⟨p, hp⟩ := get_some hi2
  have mp := hmem p (List.mem_of_getElem? hp)
  have hsn := ent_snoc hp
  have hct := ct_size 58 p
  have WC := w_strings_Cut 58 p (by omega)
  have WP := w_impl_ParseOp (ctZ 58 p) (by omega)
  generalize hbf : ctF 58 p = bf at WC
  have hen : ent p = ⟨pNum (ctA 58 p), (pO (ctZ 58 p)).1⟩ := rfl
  generalize pO (ctZ 58 p) = q at WP hen
  obtain ⟨o, ok⟩ := q
  simp only at hen
  conv=>arg 4;cbv
  refine Sat.need (by (try dsimp only); exact arA) ?_
  conv=>arg 4;cbv
  refine Sat.idx (by (try dsimp only); exact arA) (fun p2 hp2 => ?_)
  obtain rfl : p = p2 := Option.some.inj (Eq.trans (Eq.symm hp) (by
   rw [← hp2]
   show L[i]? = L[0 + ((i : Int)).toNat]?
   rw [show 0 + ((i : Int)).toNat = i by omega]))
  conv=>arg 4;cbv
  refine Sat.call WC rfl ledA ?_
  conv=>arg 4;cbv
  refine Sat.call WP rfl ledA ?_
  conv=>arg 4;cbv
  refine Sat.call (w_impl_number (ctA 58 p) (by omega)) rfl ledA ?_
  conv=>arg 4;cbv
  refine Sat.need ⟨rfl, rfl, rfl, (by (try dsimp only); exact arA)⟩ ?_
  conv=>arg 4;cbv
  refine Sat.typed (⟨pNum (ctA 58 p), o⟩ : GEntry) tcA ?_
  conv=>arg 4;cbv
  refine Sat.ari64 (by (try dsimp only); exact arA) (by (try dsimp only); exact arA) ?_
  conv=>arg 4;cbv
  refine Sat.next (i + 1) ?_ (by exact arA) (by (try dsimp only); exact arA)
  have e7 : (L.take (i + 1)).map ent = List.take ((L.take i).map ent).length ((L.take i).map ent) ++ List.take 1 (List.drop 0 [(⟨pNum (ctA 58 p), o⟩ : GEntry)]) := by rw [List.take_length, hsn, hen]; rfl
  refine les_of ?_ ?_ rfl
  iterate 2 (focus repeat' (first | exact trivial | refine And.intro ?_ ?_ | exact levA | refine lev_cons ?_ ?_ | refine LeV.agg rfl ?_ | exact Nat.le_of_ble_eq_true rfl | exact Or.inl ⟨_, rfl, .row rfl⟩ | refine Or.inl ⟨_, rfl, .row ?_⟩ | refine Or.inl ⟨_, rfl, .lit rfl ?_⟩ | exact Or.inr ⟨rfl, rfl⟩ | (first | exact .ref (fun h => nomatch h) (fun h => nomatch h) rfl (by (try dsimp only); rw [hsn]; simp) | exact e7.symm)))
 have hie : i = L.length := by exact arA
 have htk : (L.take i).map ent = L.map ent := by rw [hie, List.take_length]
 have hLb : bEntryS (L.map ent) := by
  show (L.map ent).length * 56 ≤ 140737488351232
  rw [List.length_map]
  omega
 rw [htk]
 conv=>arg 4;cbv
 refine Sat.pop ?_
 conv=>arg 4;cbv
 refine Sat.test (fun h => ?_) (fun h => ?_)
 ·have h : s = ⟨#[]⟩ := of_decide_eq_true h
  conv=>arg 4;cbv
  refine Sat.done ?_
  rw [pLL, if_neg hne, if_pos (.inl h)]
  exact .tup rfl (led_cons (.nil rfl) (led_cons (.same _) led_nil))
 have hn0 : s ≠ ⟨#[]⟩ := of_decide_eq_false h
 conv=>arg 4;cbv
 refine Sat.call (w_impl_FormatLog (L.map ent) hLb) rfl ledA ?_
 conv=>arg 4;cbv
 refine Sat.test (fun h => ?_) (fun h => ?_)
 ·have h : logT (L.map ent) = s := of_decide_eq_true h
  conv=>arg 4;cbv
  refine Sat.done ?_
  rw [pLL, if_neg hne, if_neg (fun e => e.elim hn0 (fun e => e h))]
  exact .tup rfl (led_cons (.sl (tkdr _)) (led_cons (.same _) led_nil))
 ·have h : ¬ logT (L.map ent) = s := of_decide_eq_false h
  conv=>arg 4;cbv
  refine Sat.done ?_
  rw [pLL, if_neg hne, if_pos (.inr h)]
  exact .tup rfl (led_cons (.nil rfl) (led_cons (.same _) led_nil))
--import Derived.Shelf.Strings.Cut
theorem index_at (c : UInt8) (a r : List UInt8) (h : ∀ b ∈ a, b ≠ c) : Lib.cut (a ++ c :: r) [c] = (a, r, true) := by
 have hi : Lib.index (a ++ c :: r) [c] = a.length := by rw [Lib.index_one, indexByte_acc c r a h]
 rw [Lib.cut, if_pos (by rw [hi]; omega), hi]
 have e1 : ((a.length : Nat) : Int).toNat = a.length := by omega
 rw [e1, List.take_left]
 have e2 : (a ++ c :: r).drop (a.length + [c].length) = r := by
  rw [← List.drop_drop, List.drop_left]
  rfl
 rw [e2]
theorem ct_at {c : UInt8} {s x y : ByteArray} (h : s.data.toList = x.data.toList ++ c :: y.data.toList) (hx : ∀ b ∈ x.data.toList, b ≠ c) : ctA c s = x ∧ ctZ c s = y := by
 have e := index_at c x.data.toList y.data.toList hx
 constructor
 ·rw [ctA, h, e]
 ·rw [ctZ, h, e]
theorem sI_ne {n : Int} (h : 0 ≤ n) {c : UInt8} (hc : c.toNat < 48 ∨ 57 < c.toNat) : ∀ b ∈ (sI n).data.toList, b ≠ c := fun b hb e => by
 have := sI_digs h b hb
 rw [e] at this
 omega
theorem cut_texts (c : UInt8) : ∀ (r : List ByteArray) (x s : ByteArray), (∀ b ∈ x.data.toList, b ≠ c) → (∀ y ∈ r, ∀ b ∈ y.data.toList, b ≠ c) → s.data.toList = x.data.toList ++ (r.map (fun y => y.data.toList)).flatMap (fun w => c :: w) → cutB c s = x :: r := fun r x s hx hr hs => by
 rw [cutB, hs, pcs_join c _ _ hx (fun w hw => by
  rw [List.mem_map] at hw
  obtain ⟨y, hy, rfl⟩ := hw
  exact hr y hy)]
 rw [List.map_cons, List.map_map]
 have e : mkB x.data.toList = x := mkB_back x
 unfold mkB at e
 rw [e]
 congr 1
 exact (List.map_congr_left (fun y _ => mkB_back y)).trans (List.map_id _)
--import Derived.Shelf.Strings.Cut
def swW : ByteArray := ⟨#[115, 119, 97, 112]⟩
def wrW : ByteArray := ⟨#[119, 114, 105, 116, 101]⟩
theorem csT_no (o : GOp) (h : okOp o = true) : ∀ b ∈ (sI o.Client ++ ⟨#[46]⟩ ++ sI o.Seq : ByteArray).data.toList, b ≠ 32 := fun b hb => by
 have hr := okOp_spec h
 have hb : b ∈ (sI o.Client).data.toList ++ [46] ++ (sI o.Seq).data.toList := by simpa using hb
 rw [List.mem_append, List.mem_append, List.mem_singleton] at hb
 rcases hb with (hb | rfl) | hb
 ·exact sI_ne (by omega) (.inl (by decide)) b hb
 ·decide
 ·exact sI_ne (by omega) (.inl (by decide)) b hb
theorem pO_back {o : GOp} (h : okOp o = true) : pO (opT o) = (o, true) := by
 have hr := okOp_spec h
 have nI : ∀ n : Int, 0 ≤ n → ∀ b ∈ (sI n).data.toList, b ≠ 32 := fun n hn => sI_ne hn (.inl (by decide))
 have hcs : ctA 46 (sI o.Client ++ ⟨#[46]⟩ ++ sI o.Seq) = sI o.Client ∧ ctZ 46 (sI o.Client ++ ⟨#[46]⟩ ++ sI o.Seq) = sI o.Seq := ct_at (by simp) (sI_ne (by omega) (.inl (by decide)))
 have p1 := (pNum_sI (n := o.Client) (by omega) (by omega)).1
 have p2 := (pNum_sI (n := o.Seq) (by omega) (by omega)).1
 have p3 := (pNum_sI (n := o.Object) (by omega) (by omega)).1
 have p4 := (pNum_sI (n := o.Value) (by omega) (by omega)).1
 have p5 := (pNum_sI (n := o.Old) (by omega) (by omega)).1
 by_cases hk : o.Kind = 2
 ·have hc : cutB 32 (opT o) = [sI o.Client ++ ⟨#[46]⟩ ++ sI o.Seq, swW, sI o.Object, sI o.Old, sI o.Value] := cut_texts 32 _ _ _ (csT_no o h) (fun y hy => by
   simp only [List.mem_cons, List.mem_nil_iff, or_false] at hy
   rcases hy with rfl | rfl | rfl | rfl
   ·decide
   ·exact nI _ (by omega)
   ·exact nI _ (by omega)
   ·exact nI _ (by omega)) (by
   rw [opT_sw o h hk]
   simp [swT, swW])
  have hw : opW [sI o.Client ++ ⟨#[46]⟩ ++ sI o.Seq, swW, sI o.Object, sI o.Old, sI o.Value] = o := by
   show (⟨pNum (ctA 46 (sI o.Client ++ ⟨#[46]⟩ ++ sI o.Seq)), pNum (ctZ 46 (sI o.Client ++ ⟨#[46]⟩ ++ sI o.Seq)), 2, pNum (sI o.Object), pNum (sI o.Old), pNum (sI o.Value)⟩ : GOp) = o
   rw [hcs.1, hcs.2, p1, p2, p3, p4, p5, ← hk]
  rw [pO, hc, pOL, if_neg (by simp), hw, if_pos rfl]
 ·have hc : cutB 32 (opT o) = [sI o.Client ++ ⟨#[46]⟩ ++ sI o.Seq, wrW, sI o.Object, sI o.Value] := cut_texts 32 _ _ _ (csT_no o h) (fun y hy => by
   simp only [List.mem_cons, List.mem_nil_iff, or_false] at hy
   rcases hy with rfl | rfl | rfl
   ·decide
   ·exact nI _ (by omega)
   ·exact nI _ (by omega)) (by
   rw [opT_wr o h hk]
   simp [wrT, wrW])
  have hk1 : o.Kind = 1 := by omega
  have ho : o.Old = 0 := by omega
  have hw : opW [sI o.Client ++ ⟨#[46]⟩ ++ sI o.Seq, wrW, sI o.Object, sI o.Value] = o := by
   show (⟨pNum (ctA 46 (sI o.Client ++ ⟨#[46]⟩ ++ sI o.Seq)), pNum (ctZ 46 (sI o.Client ++ ⟨#[46]⟩ ++ sI o.Seq)), 1, pNum (sI o.Object), 0, pNum (sI o.Value)⟩ : GOp) = o
   rw [hcs.1, hcs.2, p1, p2, p3, p4, ← hk1, ← ho]
  rw [pO, hc, pOL, if_neg (by simp), hw, if_pos rfl]
theorem cutB_nil (c : UInt8) : cutB c ⟨#[]⟩ = [⟨#[]⟩] := rfl
theorem pO_empty : pO ⟨#[]⟩ = (zeroO, false) := by
 rw [pO, cutB_nil, pOL, if_pos (by decide)]
theorem pO_opT (o : GOp) : pO (opT o) = if okOp o = true then (o, true) else (zeroO, false) := by
 by_cases h : okOp o = true
 ·rw [if_pos h, pO_back h]
 ·rw [if_neg h, opT, if_neg h, pO_empty]
end Go.V.T