/- A theory of its own: Go code in short, evaluated, with proof that the machine does what the evaluation tells. Conditions: those that each theorem states. Part 6. -/
import Derived.Test.YtdkphkbpeiojlaaV5
set_option linter.unusedVariables false
set_option linter.unusedSimpArgs false
namespace Go.V
open Go Go.RowKit

/-! ### Words: what is shown the same way everywhere -/
theorem ledA {p : Prop} (h : p := by (repeat' (first | exact led_nil | refine led_cons ?_ ?_ | exact .same _ | exact .int rfl | exact .sl rfl | exact .str rfl | exact .nil rfl | exact .emp rfl | refine .agg rfl ?_ | refine .tup rfl ?_ | (refine .sl ?_; simp; done))); (first | done | fail)) : p := h
/-- The same, a number that an 'if' tells. -/
theorem ledI {p : Prop} (h : p := by (repeat' (first | exact led_nil | refine led_cons ?_ ?_ | exact .same _ | exact .int rfl | exact .int (by assumption) | exact .sl rfl | exact .str rfl | exact .nil rfl | exact .emp rfl | refine .agg rfl ?_ | refine .tup rfl ?_ | (refine .sl ?_; simp; done))); (first | done | fail)) : p := h
theorem arA {p : Prop} (h : p := by first | omega | (simp only [ncast, true_and, List.length_append, List.length_take, List.length_drop, List.length_replicate, List.length_cons, List.length_nil] at *; omega)) : p := h
theorem ndA {p : Prop} (h : p := by (try dsimp only); first | omega | (simp only [ncast, true_and, List.length_append, List.length_take, List.length_drop, List.length_replicate, List.length_cons, List.length_nil] at *; omega)) : p := h
theorem tcA {p : Prop} (h : p := by (repeat' (first | exact tnil | refine tcons ?_ ?_ | exact .same _ | exact .int rfl | exact .str rfl | exact .sl rfl | exact .nil rfl | (refine .sl ?_; simp; done))); (first | done | fail)) : p := h
theorem lesA {p : Prop} (h : p := by refine les_of ?_ ?_ rfl <;> (repeat' (first | exact trivial | refine And.intro ?_ ?_ | exact .any _ | exact .undef | exact .bo _ | exact .nil | exact .emp | exact .int rfl | exact .sl rfl | exact .str rfl | exact .ptr (fun h => nomatch h) | exact .rptr _ | exact .clo rfl (fun i x y h => by simp at h) | exact .ref (fun h => nomatch h) (fun h => nomatch h) rfl rfl | exact lev_nil | refine lev_cons ?_ ?_ | refine LeV.agg rfl ?_ | exact Nat.le_of_ble_eq_true rfl | exact Or.inl ⟨_, rfl, .row rfl⟩ | refine Or.inl ⟨_, rfl, .row ?_⟩ | refine Or.inl ⟨_, rfl, .lit rfl ?_⟩ | exact Or.inr ⟨rfl, rfl⟩)) <;> done) : p := h

theorem levA {p : Prop} (h : p := by first | exact .any _ | exact .undef | exact .bo _ | exact .nil | exact .emp | exact .int rfl | exact .sl rfl | exact .str rfl | exact .ptr (fun h => nomatch h) | exact .rptr _ | exact .clo rfl (fun i x y h => by simp at h) | exact .ref (fun h => nomatch h) (fun h => nomatch h) rfl rfl | exact lev_nil) : p := h

/-! A variable of a draw: the bytes, the place, the number -/
variable {P : Program} {Q : AV → Prop}
abbrev curA (code : List Int) (i h : Int) : List AV := [.sl 1 (encI .u8) (fun _ => code), .int .i64 (fun _ => i), .int .i64 (fun _ => h)]
/-- What is drawn. -/
def Dr (code : List Int) (R : AV → Prop) (ret : AV) (outs : List (List AV)) : Prop := ∃ i h : Int, (0 ≤ i ∧ i ≤ (code.length : Int)) ∧ R ret ∧ outs = [curA code i h]
theorem Sat.draw {As : List (St → Prop)} {f : Nat} {args cargs : List AV} {code : List Int} {R : AV → Prop} {c : AV → List (List AV) → Tree} {xs : Unit → List Int} {i h : Unit → Int} (hF : ∀ i h : Int, (0 ≤ i ∧ i ≤ (code.length : Int)) → FnP P f cargs [curA code i h] (Dr code R)) (hi : 0 ≤ i () ∧ i () ≤ (code.length : Int))
    (hc : ∀ (ret : AV) (i' h' : Int), (0 ≤ i' ∧ i' ≤ (code.length : Int)) → R ret → Sat P Q As (c ret [curA code i' h'])) (hx : xs () = code := by rfl) (hl : cargs.length = args.length := by rfl) (ha : ∀ (i : Nat) (x y : AV), args[i]? = some x → cargs[i]? = some y → LeD x y := by exact ledA) : Sat P Q As (.callp f args [[.sl 1 (encI .u8) xs, .int .i64 i, .int .i64 h]] c) :=
  .callp (hF (i ()) (h ()) hi) hl ha rfl (fun k cs ds h1 h2 => by
    cases k with
    | zero =>
      simp only [List.getElem?_cons_zero, Option.some.injEq] at h1 h2
      subst h1 h2
      exact ⟨rfl, rfl, led_cons (.sl hx) (led_cons (.int rfl) (led_cons (.int rfl) led_nil))⟩
    | succ k => simp at h1) (fun ret outs ⟨i', h', h1, h2, h3⟩ => by subst h3; exact hc ret i' h' h1 h2)
/-- The end of a function that draws. -/
theorem dr_end {code : List Int} {R : AV → Prop} {y ret : AV} {xs : Unit → List Int} {i h : Unit → Int} {i0 h0 : Int} (hR : R ret) (hle : LeD y ret) (hi : 0 ≤ i () ∧ i () ≤ (code.length : Int)) (hx : xs () = code := by rfl) :
    ∃ r outs, Dr code R r outs ∧ outs.length = [curA code i0 h0].length ∧ LeD (.tup [y, .tup [.sl 1 (encI .u8) xs, .int .i64 i, .int .i64 h]]) (.tup (r :: outs.map .tup)) :=
  ⟨ret, [curA code (i ()) (h ())], ⟨_, _, hi, hR, rfl⟩, rfl, .tup rfl (led_cons hle (led_cons (.tup rfl (led_cons (.sl hx) (led_cons (.int rfl) (led_cons (.int rfl) led_nil)))) led_nil))⟩
/-- A call that is told by a relation, with no variable lent. -/
theorem Sat.rel {As : List (St → Prop)} {f : Nat} {args cargs : List AV} {Φ : AV → List (List AV) → Prop} {c : AV → List (List AV) → Tree} (hF : FnP P f cargs [] Φ) (hc : ∀ ret outs, Φ ret outs → Sat P Q As (c ret outs)) (hl : cargs.length = args.length := by rfl) (ha : ∀ (i : Nat) (x y : AV), args[i]? = some x → cargs[i]? = some y → LeD x y := by exact ledA) : Sat P Q As (.callp f args [] c) :=
  .callp hF hl ha rfl (fun k cs ds h1 h2 => by simp at h1) hc
/-- A new variable. -/
theorem Sat.newv {As : List (St → Prop)} {f : Nat} {args cargs : List AV} {Φ : List AV → Prop} {c : List AV → Tree} (hF : FnN P f cargs Φ) (hc : ∀ cs, Φ cs → Sat P Q As (c cs)) (hl : cargs.length = args.length := by rfl) (ha : ∀ (i : Nat) (x y : AV), args[i]? = some x → cargs[i]? = some y → LeD x y := by exact ledA) : Sat P Q As (.calln f args c) :=
  .calln hF hl ha hc

/-! Bits -/
theorem wrap_small {n : Nat} (h : n < 9223372036854775808) : IntKind.i64.wrap (n : Int) = n := IntWalk.i64_in _ ⟨by omega, by omega⟩
theorem and_le {x : Int} {m : Nat} (hm : m < 9223372036854775808) : 0 ≤ bitI .and .i64 x m ∧ bitI .and .i64 x m ≤ m := by
  have hb : (BitVec.ofInt IntKind.i64.bits x &&& BitVec.ofInt IntKind.i64.bits (m : Int)).toNat ≤ m := by
    rw [BitVec.toNat_and]
    refine Nat.le_trans Nat.and_le_right ?_
    rw [BitVec.toNat_ofInt]
    have e : IntKind.i64.bits = 64 := rfl
    rw [e]
    have : (m : Int) % ((2 ^ 64 : Nat) : Int) = m := Int.emod_eq_of_lt (by omega) (by omega)
    omega
  show 0 ≤ IntKind.i64.wrap _ ∧ IntKind.i64.wrap _ ≤ (m : Int)
  rw [wrap_small (by omega)]
  omega
end Go.V
