/- Contracts of the functions that FnExactParseSnapshot reaches: what each returns. Conditions: those that each theorem states. -/
import Derived.Test.YtimhfljclimjeaaDoorWXParseSnapshot1
import Derived.Lib.SplitLaws
namespace Go.V.T
open Go Go.V Go.RowKit
set_option maxRecDepth 100000
set_option linter.unusedVariables false
set_option linter.unusedSimpArgs false
set_option maxHeartbeats 2000000 in
theorem w_spec_ParseMachine (s : ByteArray) (hs : s.size ≤ 1048576) : Fn Pr n_spec_ParseMachine [.str (fun _ => s)] (.tup [aGMachine (pM s).1, .bo (pM s).2]) := by
  have hcl := cutB_len 32 s
  obtain ⟨v0, ws, hc⟩ := cons_of_len hcl.2
  have hv0 := cutB_size (c := 32) (s := s) (x := v0) (by rw [hc]; simp)
  have hws : ∀ w ∈ ws, w.size ≤ s.size := fun w hw => cutB_size (c := 32) (s := s) (x := w) (by rw [hc]; simp [hw])
  have hwl : ws.length ≤ s.size := by rw [hc] at hcl; simp only [List.length_cons] at hcl; omega
  have hsvl := sv_len v0
  have hpm := pM_eq hc
  have HSP := w_spec_l2Cut 32 s hs
  rw [hc] at HSP
  refine k_spec_ParseMachine.fn (by kernel_rfl) ?_
  conv => arg 4; cbv
  refine Sat.call HSP rfl ledA ?_
  conv => arg 4; cbv
  refine Sat.loopP (ι := Nat) (fun i => [(6, .int .i64 (fun _ => (i : Int)))]) (fun i => [(96, .lit 0 [.ref 112 (fun _ => 0) (fun _ => ((sv v0).take i).length), .nil]), (112, .row 1 (encI .i64) (fun _ => (sv v0).take i) false)]) (fun i => i ≤ v0.size ∧ i ≤ 9) (fun i => v0.size - i) 0 ?_ ⟨Nat.zero_le _, Nat.zero_le _⟩ (fun i hi => ?_)
  · refine les_of ?_ ?_ rfl
    iterate 2 (focus repeat' (first | exact trivial | refine And.intro ?_ ?_ | exact levA | refine lev_cons ?_ ?_ | refine LeV.agg rfl ?_ | exact Nat.le_of_ble_eq_true rfl | exact Or.inl ⟨_, rfl, .row rfl⟩ | refine Or.inl ⟨_, rfl, .row ?_⟩ | refine Or.inl ⟨_, rfl, .lit rfl ?_⟩ | exact Or.inr ⟨rfl, rfl⟩ | (first | exact .nilref (fun h => nomatch h) rfl rfl rfl | rfl)))
  obtain ⟨hi, hi9⟩ := hi
  have htl : ((sv v0).take i).length = i := by rw [List.length_take]; omega
  have hwl1 : (v0 :: ws).length = ws.length + 1 := rfl
  conv => arg 4; cbv
  refine Sat.need (by (try dsimp only); exact arA) ?_
  conv => arg 4; cbv
  refine Sat.idx (by (try dsimp only); exact arA) (fun v hv => ?_)
  obtain rfl : v = v0 := (Option.some.inj hv).symm
  have key : ∀ (i : Nat), i ≤ v.size → i ≤ 9 → (i = v.size ∨ i = 9) → (sv v).take i = (sv v).take 9 := fun i h1 h2 h3 => by
    rcases h3 with h3 | h3
    · rw [h3, ← hsvl, List.take_length, List.take_of_length_le (by omega)]
    · rw [h3]
  have key2 : ∀ (j : Nat), j ≤ ws.length → j ≤ 8 → (j = ws.length ∨ j = 8) → (ws.take j).map l4S = (ws.take 8).map l4S := fun j h1 h2 h3 => by
    rcases h3 with h3 | h3
    · rw [h3, List.take_length, List.take_of_length_le (by omega)]
    · rw [h3]
  conv => arg 4; cbv
  refine Sat.cmp (fun h5 => ?_) (fun h5 => ?_) <;> simp only [Cmp.holds] at h5
  · have hi2 : i < v.size := by exact arA
    have hb : v.data.toList[i]? = some (v.get! (Int.toNat (i : Int))) := byte_at hi2
    have h256 : (v.get! (Int.toNat (i : Int))).toNat < 256 := UInt8.toNat_lt _
    have hsn := sv_snoc hb
    conv => arg 4; cbv
    refine Sat.cmp (fun h6 => ?_) (fun h6 => ?_) <;> simp only [Cmp.holds] at h6
    · have hi3 : i < 9 := by exact arA
      conv => arg 4; cbv
      refine Sat.need (by (try dsimp only); exact arA) ?_
      conv => arg 4; cbv
      refine Sat.idx (by (try dsimp only); exact arA) (fun v2 hv2 => ?_)
      obtain rfl : v2 = v := (Option.some.inj hv2).symm
      conv => arg 4; cbv
      refine Sat.need (by (try dsimp only); exact arA) ?_
      conv => arg 4; cbv
      refine Sat.ari64 (by (try dsimp only); exact arA) (by (try dsimp only); exact arA) ?_
      conv => arg 4; cbv
      refine Sat.ari64 (by (try dsimp only); exact arA) (by (try dsimp only); exact arA) ?_
      conv => arg 4; cbv
      refine Sat.need ⟨rfl, fun y _ j _ => rfl, (by (try dsimp only); exact arA)⟩ ?_
      conv => arg 4; cbv
      refine Sat.same ?_
      conv => arg 4; cbv
      refine Sat.ari64 (by (try dsimp only); exact arA) (by (try dsimp only); exact arA) ?_
      conv => arg 4; cbv
      refine Sat.next (i + 1) ?_ ⟨by exact arA, by exact arA⟩ (by (try dsimp only); exact arA)
      have e7 : (sv v2).take (i + 1) = List.take ((sv v2).take i).length ((sv v2).take i) ++ List.take 1 (List.drop 0 [((v2.get! (Int.toNat (i : Int))).toNat : Int) - 48]) := by
        rw [List.take_length, hsn]; rfl
      refine les_of ?_ ?_ rfl
      iterate 2 (focus repeat' (first | exact trivial | refine And.intro ?_ ?_ | exact levA | refine lev_cons ?_ ?_ | refine LeV.agg rfl ?_ | exact Nat.le_of_ble_eq_true rfl | exact Or.inl ⟨_, rfl, .row rfl⟩ | refine Or.inl ⟨_, rfl, .row ?_⟩ | refine Or.inl ⟨_, rfl, .lit rfl ?_⟩ | exact Or.inr ⟨rfl, rfl⟩ | (first | exact .ref (fun h => nomatch h) (fun h => nomatch h) rfl (by (try dsimp only); rw [hsn]; simp) | exact e7.symm)))
    · have hie : i = 9 := by exact arA
      rw [key i hi hi9 (.inr hie)]
      conv => arg 4; cbv
      refine Sat.pop ?_
      conv => arg 4; cbv
      refine Sat.loopP (ι := Nat) (fun j => [(7, .int .i64 (fun _ => (j : Int) + 1))]) (fun j => [(96, .lit 0 [.ref 112 (fun _ => 0) (fun _ => ((sv v).take 9).length), .ref 128 (fun _ => 0) (fun _ => ((ws.take j).map l4S).length)]), (128, .row 4 eGSession (fun _ => (ws.take j).map l4S) false)]) (fun j => j ≤ ws.length ∧ j ≤ 8) (fun j => ws.length - j) 0 ?_ ⟨Nat.zero_le _, Nat.zero_le _⟩ (fun j hj => ?_)
      · refine les_of ?_ ?_ rfl
        iterate 2 (focus repeat' (first | exact trivial | refine And.intro ?_ ?_ | exact levA | refine lev_cons ?_ ?_ | refine LeV.agg rfl ?_ | exact Nat.le_of_ble_eq_true rfl | exact Or.inl ⟨_, rfl, .row rfl⟩ | refine Or.inl ⟨_, rfl, .row ?_⟩ | refine Or.inl ⟨_, rfl, .lit rfl ?_⟩ | exact Or.inr ⟨rfl, rfl⟩ | (first | exact .nilref (fun h => nomatch h) rfl rfl rfl | exact .int rfl | rfl)))
      obtain ⟨hj, hj8⟩ := hj
      have hjl : ((ws.take j).map l4S).length = j := by rw [List.length_map, List.length_take]; omega
      conv => arg 4; cbv
      refine Sat.cmp (fun h7 => ?_) (fun h7 => ?_) <;> simp only [Cmp.holds] at h7
      · have hj2 : j < ws.length := by exact arA
        conv => arg 4; cbv
        refine Sat.cmp (fun h8 => ?_) (fun h8 => ?_) <;> simp only [Cmp.holds] at h8
        · have hj9 : j < 8 := by exact arA
          conv => arg 4; cbv
          refine Sat.need (by (try dsimp only); exact arA) ?_
          conv => arg 4; cbv
          refine Sat.idx (by (try dsimp only); exact arA) (fun w hw => ?_)
          have hw : ws[j]? = some w := by
            have e : (0 + Int.toNat ((j : Int) + 1)) = j + 1 := by omega
            have hw' : (v :: ws)[0 + Int.toNat ((j : Int) + 1)]? = some w := hw
            rw [e] at hw'
            exact hw'
          have hwz := hws w (List.mem_of_getElem? hw)
          have hsn := map_snoc (f := l4S) hw
          have WL := w_spec_l4Session w (by omega)
          generalize l4S w = x at *
          conv => arg 4; cbv
          refine Sat.call WL rfl ledA ?_
          conv => arg 4; cbv
          refine Sat.need ⟨rfl, rfl, rfl, (by (try dsimp only); exact arA)⟩ ?_
          conv => arg 4; cbv
          refine Sat.typed x tcA ?_
          conv => arg 4; cbv
          refine Sat.ari64 (by (try dsimp only); exact arA) (by (try dsimp only); exact arA) ?_
          conv => arg 4; cbv
          refine Sat.next (j + 1) ?_ ⟨by exact arA, by exact arA⟩ (by (try dsimp only); exact arA)
          have e7 : (ws.take (j + 1)).map l4S = List.take ((ws.take j).map l4S).length ((ws.take j).map l4S) ++ List.take 1 (List.drop 0 [x]) := by rw [List.take_length, hsn]; rfl
          refine les_of ?_ ?_ rfl
          iterate 2 (focus repeat' (first | exact trivial | refine And.intro ?_ ?_ | exact levA | refine lev_cons ?_ ?_ | refine LeV.agg rfl ?_ | exact Nat.le_of_ble_eq_true rfl | exact Or.inl ⟨_, rfl, .row rfl⟩ | refine Or.inl ⟨_, rfl, .row ?_⟩ | refine Or.inl ⟨_, rfl, .lit rfl ?_⟩ | exact Or.inr ⟨rfl, rfl⟩ | (first | exact .ref (fun h => nomatch h) (fun h => nomatch h) rfl (by (try dsimp only); rw [hsn]; simp) | exact .int (by exact arA) | exact e7.symm)))
        · have hje : j = 8 := by exact arA
          have hbm : bMachine (m2 v ws) := ⟨by show ((sv v).take 9).length * 8 ≤ 140737488351232; rw [List.length_take]; omega, by show ((ws.take 8).map l4S).length * 32 ≤ 140737488351232; rw [List.length_map, List.length_take]; omega⟩
          rw [show (ws.take j).map l4S = (ws.take 8).map l4S from key2 j hj hj8 (.inr hje)]
          conv => arg 4; cbv
          refine Sat.pop ?_
          conv => arg 4; cbv
          refine Sat.test (fun h => ?_) (fun h => ?_)
          · have h := of_decide_eq_true h
            conv => arg 4; cbv
            refine Sat.done ?_
            rw [← hpm, if_pos (.inl h)]
            exact .tup rfl (led_cons led_zeroM (led_cons (.same _) led_nil))
          have hne : s ≠ ⟨#[]⟩ := of_decide_eq_false h
          conv => arg 4; cbv
          refine Sat.call (w_spec_FormatMachine (m2 v ws) hbm) rfl (led_one (led_mch ((sv v).take 9) ((ws.take 8).map l4S))) ?_
          conv => arg 4; cbv
          refine Sat.test (fun h => ?_) (fun h => ?_)
          · have h : mchT (m2 v ws) = s := of_decide_eq_true h
            conv => arg 4; cbv
            refine Sat.done ?_
            rw [← hpm, if_neg (fun e => e.elim hne (fun e => e h))]
            exact .tup rfl (led_cons (led_mch ((sv v).take 9) ((ws.take 8).map l4S)) (led_cons (.same _) led_nil))
          · have h : ¬ mchT (m2 v ws) = s := of_decide_eq_false h
            conv => arg 4; cbv
            refine Sat.done ?_
            rw [← hpm, if_pos (.inr h)]
            exact .tup rfl (led_cons led_zeroM (led_cons (.same _) led_nil))
      have hje : j = ws.length := by exact arA
      have hbm : bMachine (m2 v ws) := ⟨by show ((sv v).take 9).length * 8 ≤ 140737488351232; rw [List.length_take]; omega, by show ((ws.take 8).map l4S).length * 32 ≤ 140737488351232; rw [List.length_map, List.length_take]; omega⟩
      rw [show (ws.take j).map l4S = (ws.take 8).map l4S from key2 j hj hj8 (.inl hje)]
      conv => arg 4; cbv
      refine Sat.pop ?_
      conv => arg 4; cbv
      refine Sat.test (fun h => ?_) (fun h => ?_)
      · have h := of_decide_eq_true h
        conv => arg 4; cbv
        refine Sat.done ?_
        rw [← hpm, if_pos (.inl h)]
        exact .tup rfl (led_cons led_zeroM (led_cons (.same _) led_nil))
      have hne : s ≠ ⟨#[]⟩ := of_decide_eq_false h
      conv => arg 4; cbv
      refine Sat.call (w_spec_FormatMachine (m2 v ws) hbm) rfl (led_one (led_mch ((sv v).take 9) ((ws.take 8).map l4S))) ?_
      conv => arg 4; cbv
      refine Sat.test (fun h => ?_) (fun h => ?_)
      · have h : mchT (m2 v ws) = s := of_decide_eq_true h
        conv => arg 4; cbv
        refine Sat.done ?_
        rw [← hpm, if_neg (fun e => e.elim hne (fun e => e h))]
        exact .tup rfl (led_cons (led_mch ((sv v).take 9) ((ws.take 8).map l4S)) (led_cons (.same _) led_nil))
      · have h : ¬ mchT (m2 v ws) = s := of_decide_eq_false h
        conv => arg 4; cbv
        refine Sat.done ?_
        rw [← hpm, if_pos (.inr h)]
        exact .tup rfl (led_cons led_zeroM (led_cons (.same _) led_nil))
  · have hie : i = v.size := by exact arA
    rw [key i hi hi9 (.inl hie)]
    conv => arg 4; cbv
    refine Sat.pop ?_
    conv => arg 4; cbv
    refine Sat.loopP (ι := Nat) (fun j => [(7, .int .i64 (fun _ => (j : Int) + 1))]) (fun j => [(96, .lit 0 [.ref 112 (fun _ => 0) (fun _ => ((sv v).take 9).length), .ref 128 (fun _ => 0) (fun _ => ((ws.take j).map l4S).length)]), (128, .row 4 eGSession (fun _ => (ws.take j).map l4S) false)]) (fun j => j ≤ ws.length ∧ j ≤ 8) (fun j => ws.length - j) 0 ?_ ⟨Nat.zero_le _, Nat.zero_le _⟩ (fun j hj => ?_)
    · refine les_of ?_ ?_ rfl
      iterate 2 (focus repeat' (first | exact trivial | refine And.intro ?_ ?_ | exact levA | refine lev_cons ?_ ?_ | refine LeV.agg rfl ?_ | exact Nat.le_of_ble_eq_true rfl | exact Or.inl ⟨_, rfl, .row rfl⟩ | refine Or.inl ⟨_, rfl, .row ?_⟩ | refine Or.inl ⟨_, rfl, .lit rfl ?_⟩ | exact Or.inr ⟨rfl, rfl⟩ | (first | exact .nilref (fun h => nomatch h) rfl rfl rfl | exact .int rfl | rfl)))
    obtain ⟨hj, hj8⟩ := hj
    have hjl : ((ws.take j).map l4S).length = j := by rw [List.length_map, List.length_take]; omega
    conv => arg 4; cbv
    refine Sat.cmp (fun h7 => ?_) (fun h7 => ?_) <;> simp only [Cmp.holds] at h7
    · have hj2 : j < ws.length := by exact arA
      conv => arg 4; cbv
      refine Sat.cmp (fun h8 => ?_) (fun h8 => ?_) <;> simp only [Cmp.holds] at h8
      · have hj9 : j < 8 := by exact arA
        conv => arg 4; cbv
        refine Sat.need (by (try dsimp only); exact arA) ?_
        conv => arg 4; cbv
        refine Sat.idx (by (try dsimp only); exact arA) (fun w hw => ?_)
        have hw : ws[j]? = some w := by
          have e : (0 + Int.toNat ((j : Int) + 1)) = j + 1 := by omega
          have hw' : (v :: ws)[0 + Int.toNat ((j : Int) + 1)]? = some w := hw
          rw [e] at hw'
          exact hw'
        have hwz := hws w (List.mem_of_getElem? hw)
        have hsn := map_snoc (f := l4S) hw
        have WL := w_spec_l4Session w (by omega)
        generalize l4S w = x at *
        conv => arg 4; cbv
        refine Sat.call WL rfl ledA ?_
        conv => arg 4; cbv
        refine Sat.need ⟨rfl, rfl, rfl, (by (try dsimp only); exact arA)⟩ ?_
        conv => arg 4; cbv
        refine Sat.typed x tcA ?_
        conv => arg 4; cbv
        refine Sat.ari64 (by (try dsimp only); exact arA) (by (try dsimp only); exact arA) ?_
        conv => arg 4; cbv
        refine Sat.next (j + 1) ?_ ⟨by exact arA, by exact arA⟩ (by (try dsimp only); exact arA)
        have e7 : (ws.take (j + 1)).map l4S = List.take ((ws.take j).map l4S).length ((ws.take j).map l4S) ++ List.take 1 (List.drop 0 [x]) := by rw [List.take_length, hsn]; rfl
        refine les_of ?_ ?_ rfl
        iterate 2 (focus repeat' (first | exact trivial | refine And.intro ?_ ?_ | exact levA | refine lev_cons ?_ ?_ | refine LeV.agg rfl ?_ | exact Nat.le_of_ble_eq_true rfl | exact Or.inl ⟨_, rfl, .row rfl⟩ | refine Or.inl ⟨_, rfl, .row ?_⟩ | refine Or.inl ⟨_, rfl, .lit rfl ?_⟩ | exact Or.inr ⟨rfl, rfl⟩ | (first | exact .ref (fun h => nomatch h) (fun h => nomatch h) rfl (by (try dsimp only); rw [hsn]; simp) | exact .int (by exact arA) | exact e7.symm)))
      · have hje : j = 8 := by exact arA
        have hbm : bMachine (m2 v ws) := ⟨by show ((sv v).take 9).length * 8 ≤ 140737488351232; rw [List.length_take]; omega, by show ((ws.take 8).map l4S).length * 32 ≤ 140737488351232; rw [List.length_map, List.length_take]; omega⟩
        rw [show (ws.take j).map l4S = (ws.take 8).map l4S from key2 j hj hj8 (.inr hje)]
        conv => arg 4; cbv
        refine Sat.pop ?_
        conv => arg 4; cbv
        refine Sat.test (fun h => ?_) (fun h => ?_)
        · have h := of_decide_eq_true h
          conv => arg 4; cbv
          refine Sat.done ?_
          rw [← hpm, if_pos (.inl h)]
          exact .tup rfl (led_cons led_zeroM (led_cons (.same _) led_nil))
        have hne : s ≠ ⟨#[]⟩ := of_decide_eq_false h
        conv => arg 4; cbv
        refine Sat.call (w_spec_FormatMachine (m2 v ws) hbm) rfl (led_one (led_mch ((sv v).take 9) ((ws.take 8).map l4S))) ?_
        conv => arg 4; cbv
        refine Sat.test (fun h => ?_) (fun h => ?_)
        · have h : mchT (m2 v ws) = s := of_decide_eq_true h
          conv => arg 4; cbv
          refine Sat.done ?_
          rw [← hpm, if_neg (fun e => e.elim hne (fun e => e h))]
          exact .tup rfl (led_cons (led_mch ((sv v).take 9) ((ws.take 8).map l4S)) (led_cons (.same _) led_nil))
        · have h : ¬ mchT (m2 v ws) = s := of_decide_eq_false h
          conv => arg 4; cbv
          refine Sat.done ?_
          rw [← hpm, if_pos (.inr h)]
          exact .tup rfl (led_cons led_zeroM (led_cons (.same _) led_nil))
    have hje : j = ws.length := by exact arA
    have hbm : bMachine (m2 v ws) := ⟨by show ((sv v).take 9).length * 8 ≤ 140737488351232; rw [List.length_take]; omega, by show ((ws.take 8).map l4S).length * 32 ≤ 140737488351232; rw [List.length_map, List.length_take]; omega⟩
    rw [show (ws.take j).map l4S = (ws.take 8).map l4S from key2 j hj hj8 (.inl hje)]
    conv => arg 4; cbv
    refine Sat.pop ?_
    conv => arg 4; cbv
    refine Sat.test (fun h => ?_) (fun h => ?_)
    · have h := of_decide_eq_true h
      conv => arg 4; cbv
      refine Sat.done ?_
      rw [← hpm, if_pos (.inl h)]
      exact .tup rfl (led_cons led_zeroM (led_cons (.same _) led_nil))
    have hne : s ≠ ⟨#[]⟩ := of_decide_eq_false h
    conv => arg 4; cbv
    refine Sat.call (w_spec_FormatMachine (m2 v ws) hbm) rfl (led_one (led_mch ((sv v).take 9) ((ws.take 8).map l4S))) ?_
    conv => arg 4; cbv
    refine Sat.test (fun h => ?_) (fun h => ?_)
    · have h : mchT (m2 v ws) = s := of_decide_eq_true h
      conv => arg 4; cbv
      refine Sat.done ?_
      rw [← hpm, if_neg (fun e => e.elim hne (fun e => e h))]
      exact .tup rfl (led_cons (led_mch ((sv v).take 9) ((ws.take 8).map l4S)) (led_cons (.same _) led_nil))
    · have h : ¬ mchT (m2 v ws) = s := of_decide_eq_false h
      conv => arg 4; cbv
      refine Sat.done ?_
      rw [← hpm, if_pos (.inr h)]
      exact .tup rfl (led_cons led_zeroM (led_cons (.same _) led_nil))

def snOk (x : GSnapshot) : Bool := decide (0 ≤ x.Count ∧ x.Count ≤ 16) && decide (0 ≤ x.Digest ∧ x.Digest ≤ 9972) && validM x.Machine
/-- A snapshot's text. -/
def snT (x : GSnapshot) : ByteArray := if snOk x = true then sI x.Count ++ ⟨#[44]⟩ ++ sI x.Digest ++ ⟨#[44]⟩ ++ mchT x.Machine else ⟨#[]⟩
theorem snOk_spec {x : GSnapshot} (h : snOk x = true) : (0 ≤ x.Count ∧ x.Count ≤ 16) ∧ (0 ≤ x.Digest ∧ x.Digest ≤ 9972) ∧ validM x.Machine = true := by
  rw [snOk, Bool.and_eq_true, Bool.and_eq_true] at h
  exact ⟨of_decide_eq_true h.1.1, of_decide_eq_true h.1.2, h.2⟩
theorem nDig_lt : ∀ (k u : Nat), u < 10 ^ k → Lib.nDigits u ≤ k + 1
  | 0, u, h => by
    rw [Lib.nDigits_small (by omega)]
    omega
  | k + 1, u, h => by
    by_cases h0 : u < 10
    · rw [Lib.nDigits_small h0]; omega
    · rw [Lib.nDigits_big h0]
      have := nDig_lt k (u / 10) (by rw [Nat.pow_succ] at h; omega)
      omega
theorem sI_size9 {n : Int} (h0 : 0 ≤ n) (h1 : n < 100000) : (sI n).size ≤ 6 := by
  have e : (sI n).data.toList.length = (sI n).size := rfl
  rw [← e, sI_list, Lib.itoa, if_neg (by omega), Lib.decDigits_length]
  exact nDig_lt 5 n.toNat (by omega)
theorem mchT_size {m : GMachine} (h : validM m = true) : (mchT m).size ≤ 200 := by
  obtain ⟨h1, h2, h3, h4, h5⟩ := validM_spec h
  have e : (mchT m).data.toList.length = (mchT m).size := rfl
  have e2 : ∀ l : List GSession, (∀ x ∈ l, (0 ≤ x.Client ∧ x.Client ≤ 2) ∧ (1 ≤ x.Seq ∧ x.Seq ≤ 99) ∧ (0 ≤ x.Result.Value ∧ x.Result.Value ≤ 9)) → (sesL l).length ≤ 20 * l.length := by
    intro l
    induction l with
    | nil => intro _; exact Nat.le_refl _
    | cons x r ih =>
      intro hx
      have h6 := ih (fun y hy => hx y (List.mem_cons_of_mem _ hy))
      obtain ⟨z1, z2, z3, z4⟩ := sesT_size (hx x (List.mem_cons_self ..))
      have e3 : (sesT x).data.toList.length = (sesT x).size := rfl
      have e4 : (sesT x).size ≤ 20 := by
        simp only [sesT, ByteArray.size_append, size_lit, z4]
        omega
      rw [sesL] at h6 ⊢
      rw [List.flatMap_cons, List.length_append, e3, List.length_cons]
      omega
  have h7 := e2 m.Sessions h4
  rw [← e, mchT, if_pos h]
  simp only [List.length_append, fS_digs h2, List.length_map, h1]
  omega

theorem w_spec_l7Good (x : GSnapshot) (hb : bSnapshot x) : Fn Pr n_spec_l7Good [aGSnapshot x] (.bo (snOk x)) := by
  have HV := w_spec_IsValidMachine x.Machine hb
  generalize hv : validM x.Machine = vm at HV
  refine k_spec_l7Good.fn (by kernel_rfl) ?_
  conv => arg 4; cbv
  repeat' first
    | (refine Sat.cmp (fun h => ?_) (fun h => ?_) <;> simp only [Cmp.holds] at h <;> (conv => arg 4; cbv))
    | (refine Sat.callb (w_spec_l1In _ _ _) rfl ledA (fun h => ?_) (fun h => ?_) <;> (try simp only [decide_eq_true_eq, decide_eq_false_iff_not] at h) <;> (conv => arg 4; cbv))
    | (refine Sat.callb (HV) rfl ledA (fun h => ?_) (fun h => ?_) <;> (try simp only [decide_eq_true_eq, decide_eq_false_iff_not] at h) <;> (conv => arg 4; cbv))
    | (refine Sat.call (HV) rfl ledA ?_; conv => arg 4; cbv)
    | (refine Sat.need ndA ?_; conv => arg 4; cbv)
    | (refine Sat.idxk (by assumption) ?_; conv => arg 4; cbv) | (refine Sat.idx ndA (fun v_ hv_ => ?_); conv => arg 4; cbv)
    | (refine Sat.ari64 ndA ndA ?_; conv => arg 4; cbv)
    | (refine Sat.pop ?_; conv => arg 4; cbv)
    | refine Sat.done ?_
  all_goals refine led_bo ?_
  all_goals simp_all [snOk]
  all_goals (intros; exfalso; omega)

theorem w_spec_SnapshotText (x : GSnapshot) (hb : bSnapshot x) : Fn Pr n_spec_SnapshotText [aGSnapshot x] (.str (fun _ => snT x)) := by
  have HV := w_spec_l7Good x hb
  refine k_spec_SnapshotText.fn (by kernel_rfl) ?_
  conv => arg 4; cbv
  refine Sat.callb HV rfl ledA (fun hA => ?_) (fun hA => ?_) <;> (conv => arg 4; cbv)
  rotate_left
  · refine Sat.done (.str ?_)
    rw [snT, if_neg (by rw [hA]; exact Bool.false_ne_true)]
  obtain ⟨h1, h2, h3⟩ := snOk_spec hA
  have z1 := sI_size9 (n := x.Count) (by omega) (by omega)
  have z2 := sI_size9 (n := x.Digest) (by omega) (by omega)
  have z3 := mchT_size h3
  repeat' first
    | (refine Sat.call (w_spec_FormatIntG x.Count (by omega) (by omega)) rfl ledA ?_; conv => arg 4; cbv)
    | (refine Sat.call (w_spec_FormatIntG x.Digest (by omega) (by omega)) rfl ledA ?_; conv => arg 4; cbv)
    | (refine Sat.call (w_spec_FormatMachine x.Machine hb) rfl ledA ?_; conv => arg 4; cbv)
    | (refine Sat.need (by (try dsimp only); simp only [ByteArray.size_append, size_lit]; omega) ?_; conv => arg 4; cbv)
    | refine Sat.done ?_
  refine .str ?_
  rw [snT, if_pos hA]

theorem w_impl_SnapshotText (x : GSnapshot) (hb : bSnapshot x) : Fn Pr n_impl_SnapshotText [aGSnapshot x] (.str (fun _ => snT x)) := by
  have HV := w_impl_IsValidMachine x.Machine hb
  refine k_impl_SnapshotText.fn (by kernel_rfl) ?_
  conv => arg 4; cbv
  have bad : ¬ snOk x = true → LeD (.str (fun _ => ⟨#[]⟩)) (.str (fun _ => snT x)) := fun h => .str (by rw [snT, if_neg h])
  refine Sat.callb (w_impl_within x.Count 0 16) rfl ledA (fun hA => ?_) (fun hA => ?_) <;> (conv => arg 4; cbv)
  rotate_left
  · exact Sat.done (bad (fun h => of_decide_eq_false hA (snOk_spec h).1))
  refine Sat.callb (w_impl_within x.Digest 0 9972) rfl ledA (fun hB => ?_) (fun hB => ?_) <;> (conv => arg 4; cbv)
  rotate_left
  · exact Sat.done (bad (fun h => of_decide_eq_false hB (snOk_spec h).2.1))
  refine Sat.callb HV rfl ledA (fun hC => ?_) (fun hC => ?_) <;> (conv => arg 4; cbv)
  rotate_left
  · exact Sat.done (bad (fun h => by rw [(snOk_spec h).2.2] at hC; cases hC))
  have h1 := of_decide_eq_true hA
  have h2 := of_decide_eq_true hB
  have z1 := sI_size9 (n := x.Count) (by omega) (by omega)
  have z2 := sI_size9 (n := x.Digest) (by omega) (by omega)
  have z3 := mchT_size hC
  repeat' first
    | (refine Sat.call (w_impl_FormatIntG x.Count (by omega) (by omega)) rfl ledA ?_; conv => arg 4; cbv)
    | (refine Sat.call (w_impl_FormatIntG x.Digest (by omega) (by omega)) rfl ledA ?_; conv => arg 4; cbv)
    | (refine Sat.call (w_impl_FormatMachine x.Machine hb) rfl ledA ?_; conv => arg 4; cbv)
    | (refine Sat.need (by (try dsimp only); simp only [ByteArray.size_append, size_lit]; omega) ?_; conv => arg 4; cbv)
    | refine Sat.done ?_
  refine .str ?_
  rw [snT, if_pos (by rw [snOk, decide_eq_true h1, decide_eq_true h2, hC]; rfl)]

--import Derived.Lib.SplitLaws
theorem indexByte_no (c : UInt8) : ∀ l : List UInt8, (∀ b ∈ l, b ≠ c) → Lib.indexByte l c = -1
  | [], _ => rfl
  | b :: r, h => by
    have h1 : b ≠ c := h b (List.mem_cons_self ..)
    rw [Lib.indexByte, indexByte_no c r (fun x hx => h x (List.mem_cons_of_mem _ hx))]
    simp [h1]
theorem splitK_few (c : UInt8) : ∀ (l acc : List UInt8) (k : Nat), (∀ b ∈ acc, b ≠ c) → (pcs c acc l).length ≤ k + 1 → Lib.splitK [c] 0 k (acc ++ l) = pcs c acc l
  | [], acc, 0, _, _ => by simp [Lib.splitK, pcs]
  | [], acc, k + 1, h, _ => by
    rw [List.append_nil, Lib.splitK, Lib.index_one, indexByte_no c acc h, pcs]
    rfl
  | b :: r, acc, k, h, hk => by
    rw [pcs] at hk ⊢
    split at hk
    · rename_i e
      subst e
      rw [if_pos rfl]
      have h1 := (pcs_len b r []).2
      rw [List.length_cons] at hk
      obtain ⟨k', rfl⟩ : ∃ k', k = k' + 1 := ⟨k - 1, by omega⟩
      have hi : Lib.index (acc ++ b :: r) [b] = acc.length := by rw [Lib.index_one, indexByte_acc b r acc h]
      rw [Lib.splitK, hi, if_neg (by simp)]
      have e1 : ((acc.length : Nat) : Int).toNat = acc.length := by omega
      rw [e1, Nat.add_zero, List.take_left]
      have e2 : (acc ++ b :: r).drop (acc.length + [b].length) = r := by
        rw [← List.drop_drop, List.drop_left]
        rfl
      rw [e2]
      have := splitK_few b r [] k' (fun x hx => by cases hx) (by omega)
      rw [List.nil_append] at this
      rw [this]
    · rename_i e
      rw [if_neg e]
      have := splitK_few c r (acc ++ [b]) k (fun x hx => by
        rw [List.mem_append, List.mem_singleton] at hx
        rcases hx with hx | rfl
        · exact h x hx
        · exact e) hk
      rw [← this]
      simp
/-- What the program's cutting finds. -/
def cut3 (s : ByteArray) : List ByteArray := Lib.splitB ⟨#[44]⟩ 0 (min 3 (s.size + 1) - 1) s
theorem cut3_len (s : ByteArray) : (cut3 s).length ≤ 3 := by
  have := Lib.splitB_length_le ⟨#[44]⟩ 0 (min 3 (s.size + 1) - 1) s
  unfold cut3
  omega
theorem cut3_eq {s : ByteArray} (h : (cutB 44 s).length = 3) : cut3 s = cutB 44 s := by
  refine data_inj ?_
  have hl := (cutB_len 44 s).1
  have hk : min 3 (s.size + 1) - 1 = 2 := by omega
  have e := Lib.splitB_data ⟨#[44]⟩ 0 2 s
  rw [cut3, hk, cutB_data, e]
  have e2 : (pcs 44 [] s.data.toList).length = 3 := by rw [← cutB_data, List.length_map]; exact h
  exact splitK_few 44 s.data.toList [] 2 (fun x hx => by cases hx) (by omega)
theorem splitB_mem (sep : ByteArray) : ∀ (k : Nat) (s x : ByteArray), x ∈ Lib.splitB sep 0 k s → x.size ≤ s.size
  | 0, s, x, h => by
    rw [Lib.splitB_zero, List.mem_singleton] at h
    rw [h]
    exact Nat.le_refl _
  | k + 1, s, x, h => by
    rw [Lib.splitB] at h
    split at h
    · rw [List.mem_singleton] at h
      rw [h]
      exact Nat.le_refl _
    · rw [List.mem_cons] at h
      rcases h with rfl | h
      · exact ext_size _ _ _
      · exact Nat.le_trans (splitB_mem sep k _ x h) (ext_size _ _ _)

--import Derived.Lib.SplitLaws
def zeroSn : GSnapshot := ⟨0, 0, zeroM⟩
def sn3 (num : ByteArray → Int) (a b c : ByteArray) : GSnapshot := ⟨num a, num b, (pM c).1⟩
def pSnL (num : ByteArray → Int) (s : ByteArray) : List ByteArray → GSnapshot × Bool
  | [a, b, c] => if snT (sn3 num a b c) = s then (sn3 num a b c, true) else (zeroSn, false)
  | _ => (zeroSn, false)
/-- The snapshot that a text tells. -/
def pSn (s : ByteArray) : GSnapshot × Bool := pSnL pNum s (cutB 44 s)
theorem three {α : Type} {l : List α} (h : l.length = 3) : ∃ a b c, l = [a, b, c] := by
  match l, h with
  | [a, b, c], _ => exact ⟨a, b, c, rfl⟩
theorem pSnL_no {num : ByteArray → Int} {s : ByteArray} {l : List ByteArray} (h : l.length ≠ 3) : pSnL num s l = (zeroSn, false) := by
  unfold pSnL
  split
  · exact absurd rfl h
  · rfl
theorem snT_pos {x : GSnapshot} {s : ByteArray} (h : snT x = s) (hs : 1 ≤ s.size) : snOk x = true := by
  unfold snT at h
  split at h
  · assumption
  · rw [← h] at hs
    exact absurd hs (by decide)
theorem cut_snT {x : GSnapshot} (h : snOk x = true) : (cutB 44 (snT x)).length = 3 := by
  obtain ⟨h1, h2, h3⟩ := snOk_spec h
  obtain ⟨g1, g2, g3, g4, g5⟩ := validM_spec h3
  have no : ∀ n : Int, 0 ≤ n → ∀ b ∈ (sI n).data.toList, b ≠ 44 := fun n hn b hb e => by
    have := (sI_digs hn b hb).1
    rw [e] at this
    exact absurd this (by decide)
  have nm : ∀ b ∈ (mchT x.Machine).data.toList, b ≠ 44 := fun b hb e => by
    rw [mchT, if_pos h3] at hb
    have hb : b ∈ (fS x.Machine.Objects).data.toList ++ sesL x.Machine.Sessions := by simpa using hb
    rw [List.mem_append, fS_digs g2, List.mem_map, sesL, List.mem_flatMap] at hb
    rcases hb with ⟨v, hv, rfl⟩ | ⟨y, hy, hb⟩
    · exact dg_ne (g2 v hv) (b := 44) (by decide) e
    · rw [sesT_list (g4 y hy), List.mem_cons] at hb
      rcases hb with rfl | hb
      · exact absurd e (by decide)
      · exact (sesD_no (g4 y hy) b hb).2 e
  have e : (snT x).data.toList = (sI x.Count).data.toList ++ 44 :: ((sI x.Digest).data.toList ++ 44 :: (mchT x.Machine).data.toList) := by
    rw [snT, if_pos h]
    simp
  rw [cutB, List.length_map, e, pcs_cons 44 _ _ [] (no _ h1.1), pcs_cons 44 _ _ [] (no _ h2.1), pcs_none 44 _ [] nm]
  rfl
theorem sn3_eq {s a b c : ByteArray} (hs : 1 ≤ s.size) : (if snT (sn3 pNum3 a b c) = s then (sn3 pNum3 a b c, true) else (zeroSn, false)) = if snT (sn3 pNum a b c) = s then (sn3 pNum a b c, true) else (zeroSn, false) := by
  by_cases h0 : pNum a < 0 ∨ pNum b < 0
  · have n1 : ¬ snT (sn3 pNum a b c) = s := fun e => by
      obtain ⟨e1, e2, _⟩ := snOk_spec (snT_pos e hs)
      simp only [sn3] at e1 e2
      omega
    have n2 : ¬ snT (sn3 pNum3 a b c) = s := fun e => by
      obtain ⟨e1, e2, _⟩ := snOk_spec (snT_pos e hs)
      simp only [sn3, pNum_eq] at e1 e2
      rcases h0 with h0 | h0
      · rw [if_pos h0] at e1
        omega
      · rw [if_pos h0] at e2
        omega
    rw [if_neg n1, if_neg n2]
  · have e : sn3 pNum3 a b c = sn3 pNum a b c := by
      simp only [sn3, pNum_eq]
      rw [if_neg (fun h => h0 (.inl h)), if_neg (fun h => h0 (.inr h))]
    rw [e]
theorem pSn_spec (s : ByteArray) : pSnL pNum3 s (cutB 44 s) = pSn s := by
  by_cases h : (cutB 44 s).length = 3
  · obtain ⟨a, b, c, e⟩ := three h
    have hs : 1 ≤ s.size := by
      have := (cutB_len 44 s).1
      omega
    rw [pSn, e, pSnL, pSnL]
    exact sn3_eq hs
  · rw [pSn, pSnL_no h, pSnL_no h]
theorem pSn_impl (s : ByteArray) : pSnL pNum s (cut3 s) = pSn s := by
  by_cases h : (cutB 44 s).length = 3
  · rw [cut3_eq h, pSn]
  · rw [pSn, pSnL_no h]
    by_cases h3 : (cut3 s).length = 3
    · obtain ⟨a, b, c, e⟩ := three h3
      rw [e, pSnL, if_neg]
      intro e2
      have hs : 1 ≤ s.size := by
        have := Lib.splitB_length_le ⟨#[44]⟩ 0 (min 3 (s.size + 1) - 1) s
        unfold cut3 at h3
        omega
      have := cut_snT (snT_pos e2 hs)
      rw [e2] at this
      exact h this
    · exact pSnL_no h3
theorem pM_b (c : ByteArray) : bMachine (pM c).1 := by
  have hz : bMachine zeroM := ⟨(by decide : 0 * 8 ≤ 140737488351232), (by decide : 0 * 32 ≤ 140737488351232)⟩
  unfold pM pMg
  split
  · exact hz
  · rename_i v r e
    cases h : allW r with
    | none => exact hz
    | some l =>
      rw [pMf]
      by_cases hb : c = ⟨#[]⟩ ∨ mchT ⟨sv v, l⟩ ≠ c
      · rw [if_pos hb]
        exact hz
      · rw [if_neg hb]
        have hv := mchT_pos (m := ⟨sv v, l⟩) (s := c) (Classical.byContradiction (fun e => hb (.inr e))) (fun e => hb (.inl e))
        obtain ⟨h1, _, h3, _⟩ := validM_spec hv
        exact ⟨by show (sv v).length * 8 ≤ 140737488351232; have h1 : (sv v).length = 3 := h1; omega, by show l.length * 32 ≤ 140737488351232; have h3 : l.length ≤ 3 := h3; omega⟩
theorem pSn_b (s : ByteArray) : bSnapshot (pSn s).1 := by
  have hz : bMachine zeroM := ⟨(by decide : 0 * 8 ≤ 140737488351232), (by decide : 0 * 32 ≤ 140737488351232)⟩
  unfold pSn pSnL
  split
  · split
    · exact pM_b _
    · exact hz
  · exact hz
theorem led_zeroSn : LeD (.agg [.int .i64 (fun _ => 0), .int .i64 (fun _ => 0), .nil, .nil]) (aGSnapshot zeroSn) :=
  .agg rfl (led_cons (.same _) (led_cons (.same _) (led_cons (.nil rfl) (led_cons (.nil rfl) led_nil))))
theorem led_sn (p q : Int) (m : GMachine) : LeD (.agg [.int .i64 (fun _ => p), .int .i64 (fun _ => q), .sl 1 (encI .i64) (fun _ => List.take m.Objects.length (List.drop 0 m.Objects)), .sl 4 eGSession (fun _ => List.take m.Sessions.length (List.drop 0 m.Sessions))]) (aGSnapshot ⟨p, q, m⟩) :=
  .agg rfl (led_cons (.same _) (led_cons (.same _) (led_cons (.sl (tkdr _)) (led_cons (.sl (tkdr _)) led_nil))))

theorem w_spec_ParseSnapshot (s : ByteArray) (hs : s.size ≤ 1048576) : Fn Pr n_spec_ParseSnapshot [.str (fun _ => s)] (.tup [aGSnapshot (pSn s).1, .bo (pSn s).2]) := by
  have HSP := w_spec_l2Cut 44 s hs
  have hmem := fun x (hx : x ∈ cutB 44 s) => cutB_size hx
  have hl3 := (0 : Nat)
  rw [← pSn_spec]
  generalize cutB 44 s = L at HSP hmem hl3
  refine k_spec_ParseSnapshot.fn (by kernel_rfl) ?_
  conv => arg 4; cbv
  refine Sat.call HSP rfl ledA ?_
  conv => arg 4; cbv
  refine Sat.cmp (fun h => ?_) (fun h => ?_) <;> simp only [Cmp.holds] at h
  rotate_left
  · have h4 : L.length ≠ 3 := by intro e; exact h (by rw [e]; rfl)
    conv => arg 4; cbv
    refine Sat.done ?_
    rw [pSnL_no h4]
    exact .tup rfl (led_cons led_zeroSn (led_cons (.same _) led_nil))
  have h3 : L.length = 3 := by exact arA
  obtain ⟨a, b, c, rfl⟩ := three h3
  have ha := hmem a (by simp)
  have hb := hmem b (by simp)
  have hc := hmem c (by simp)
  have hcb : bSnapshot (sn3 pNum3 a b c) := pM_b c
  have WM := w_spec_ParseMachine c (by omega)
  rw [pSnL]
  have esn : sn3 pNum3 a b c = ⟨pNum3 a, pNum3 b, (pM c).1⟩ := rfl
  rw [esn] at hcb ⊢
  generalize pM c = q at *
  obtain ⟨mm, ok⟩ := q
  dsimp only at WM hcb ⊢
  conv => arg 4; cbv
  refine Sat.need (by (try dsimp only); exact arA) ?_
  conv => arg 4; cbv
  refine Sat.idx (by (try dsimp only); exact arA) (fun v hv => ?_)
  obtain rfl : v = c := (Option.some.inj hv).symm
  conv => arg 4; cbv
  refine Sat.call WM rfl ledA ?_
  conv => arg 4; cbv
  refine Sat.need (by (try dsimp only); exact arA) ?_
  conv => arg 4; cbv
  refine Sat.idx (by (try dsimp only); exact arA) (fun v2 hv2 => ?_)
  obtain rfl : v2 = a := (Option.some.inj hv2).symm
  conv => arg 4; cbv
  refine Sat.call (w_spec_l3Num v2 (by omega)) rfl ledA ?_
  conv => arg 4; cbv
  refine Sat.need (by (try dsimp only); exact arA) ?_
  conv => arg 4; cbv
  refine Sat.idx (by (try dsimp only); exact arA) (fun v3 hv3 => ?_)
  obtain rfl : v3 = b := (Option.some.inj hv3).symm
  conv => arg 4; cbv
  refine Sat.call (w_spec_l3Num v3 (by omega)) rfl ledA ?_
  conv => arg 4; cbv
  refine Sat.call (w_spec_SnapshotText ⟨pNum3 v2, pNum3 v3, mm⟩ hcb) rfl (led_one (led_sn _ _ mm)) ?_
  conv => arg 4; cbv
  refine Sat.test (fun h => ?_) (fun h => ?_)
  · have h : snT ⟨pNum3 v2, pNum3 v3, mm⟩ = s := of_decide_eq_true h
    conv => arg 4; cbv
    refine Sat.done ?_
    rw [if_pos h]
    exact .tup rfl (led_cons (led_sn _ _ mm) (led_cons (.same _) led_nil))
  · have h : ¬ snT ⟨pNum3 v2, pNum3 v3, mm⟩ = s := of_decide_eq_false h
    conv => arg 4; cbv
    refine Sat.done ?_
    rw [if_neg h]
    exact .tup rfl (led_cons led_zeroSn (led_cons (.same _) led_nil))

theorem w_impl_ParseSnapshot (s : ByteArray) (hs : s.size ≤ 1048576) : Fn Pr n_impl_ParseSnapshot [.str (fun _ => s)] (.tup [aGSnapshot (pSn s).1, .bo (pSn s).2]) := by
  have HSP := w_strings_SplitN 44 3 s (by omega) (by omega) (by omega)
  change Fn Pr n_strings_SplitN _ (.sl 1 encS (fun _ => cut3 s)) at HSP
  have hmem := fun x (hx : x ∈ cut3 s) => splitB_mem _ _ s x hx
  have hl3 := cut3_len s
  rw [← pSn_impl]
  generalize cut3 s = L at HSP hmem hl3
  refine k_impl_ParseSnapshot.fn (by kernel_rfl) ?_
  conv => arg 4; cbv
  refine Sat.call HSP rfl ledA ?_
  conv => arg 4; cbv
  refine Sat.cmp (fun h => ?_) (fun h => ?_) <;> simp only [Cmp.holds] at h
  · have h4 : L.length ≠ 3 := by exact arA
    conv => arg 4; cbv
    refine Sat.done ?_
    rw [pSnL_no h4]
    exact .tup rfl (led_cons led_zeroSn (led_cons (.same _) led_nil))
  have h3 : L.length = 3 := by exact arA
  obtain ⟨a, b, c, rfl⟩ := three h3
  have ha := hmem a (by simp)
  have hb := hmem b (by simp)
  have hc := hmem c (by simp)
  have hcb : bSnapshot (sn3 pNum a b c) := pM_b c
  have WM := w_impl_ParseMachine c (by omega)
  rw [pSnL]
  have esn : sn3 pNum a b c = ⟨pNum a, pNum b, (pM c).1⟩ := rfl
  rw [esn] at hcb ⊢
  generalize pM c = q at *
  obtain ⟨mm, ok⟩ := q
  dsimp only at WM hcb ⊢
  conv => arg 4; cbv
  refine Sat.need (by (try dsimp only); exact arA) ?_
  conv => arg 4; cbv
  refine Sat.idx (by (try dsimp only); exact arA) (fun v hv => ?_)
  obtain rfl : v = c := (Option.some.inj hv).symm
  conv => arg 4; cbv
  refine Sat.call WM rfl ledA ?_
  conv => arg 4; cbv
  refine Sat.need (by (try dsimp only); exact arA) ?_
  conv => arg 4; cbv
  refine Sat.idx (by (try dsimp only); exact arA) (fun v2 hv2 => ?_)
  obtain rfl : v2 = a := (Option.some.inj hv2).symm
  conv => arg 4; cbv
  refine Sat.call (w_impl_number v2 (by omega)) rfl ledA ?_
  conv => arg 4; cbv
  refine Sat.need (by (try dsimp only); exact arA) ?_
  conv => arg 4; cbv
  refine Sat.idx (by (try dsimp only); exact arA) (fun v3 hv3 => ?_)
  obtain rfl : v3 = b := (Option.some.inj hv3).symm
  conv => arg 4; cbv
  refine Sat.call (w_impl_number v3 (by omega)) rfl ledA ?_
  conv => arg 4; cbv
  refine Sat.call (w_impl_SnapshotText ⟨pNum v2, pNum v3, mm⟩ hcb) rfl (led_one (led_sn _ _ mm)) ?_
  conv => arg 4; cbv
  refine Sat.test (fun h => ?_) (fun h => ?_)
  · have h : snT ⟨pNum v2, pNum v3, mm⟩ = s := of_decide_eq_true h
    conv => arg 4; cbv
    refine Sat.done ?_
    rw [if_pos h]
    exact .tup rfl (led_cons (led_sn _ _ mm) (led_cons (.same _) led_nil))
  · have h : ¬ snT ⟨pNum v2, pNum v3, mm⟩ = s := of_decide_eq_false h
    conv => arg 4; cbv
    refine Sat.done ?_
    rw [if_neg h]
    exact .tup rfl (led_cons led_zeroSn (led_cons (.same _) led_nil))

set_option maxHeartbeats 4000000 in
theorem w_laws_FnExactParseSnapshot (s_ : ByteArray) {A0 G : Prop} (F : A0 ∧ G) : Fn Pr n_laws_FnExactParseSnapshot [.str (fun _ => s_)] (.bo true) := by
  by_cases hsz : 1048576 < s_.size
  · clear F
    refine k_laws_FnExactParseSnapshot.fn (by kernel_rfl) ?_
    conv => arg 4; cbv
    refine Sat.cmp (fun h => ?_) (fun h => ?_) <;> simp only [Cmp.holds] at h
    · conv => arg 4; cbv
      exact Sat.done (.same _)
    · exfalso
      exact arA
  have hs : s_.size ≤ 1048576 := by omega
  clear F
  have HS := w_spec_ParseSnapshot s_ hs
  have HI := w_impl_ParseSnapshot s_ hs
  have hc0 : bSnapshot (pSn s_).1 := pSn_b s_
  generalize pSn s_ = p at *
  obtain ⟨g0, g1⟩ := p
  dsimp only at HS HI hc0
  have hd0 := nSnapshot_rng hc0
  cases g1
  all_goals refine k_laws_FnExactParseSnapshot.fn (by kernel_rfl) ?_
  all_goals (conv => arg 4; cbv)
  repeat' first
    | (refine Sat.cmp (fun h => ?_) (fun h => ?_) <;> simp only [Cmp.holds] at h <;> (conv => arg 4; cbv))
    | (refine Sat.callb (HS) rfl ledA (fun h => ?_) (fun h => ?_) <;> (try simp only [decide_eq_true_eq, decide_eq_false_iff_not] at h) <;> (conv => arg 4; cbv))
    | (refine Sat.call (HS) rfl ledA ?_; conv => arg 4; cbv)
    | (refine Sat.callb (HI) rfl ledA (fun h => ?_) (fun h => ?_) <;> (try simp only [decide_eq_true_eq, decide_eq_false_iff_not] at h) <;> (conv => arg 4; cbv))
    | (refine Sat.call (HI) rfl ledA ?_; conv => arg 4; cbv)
    | (refine Sat.callb (w_laws_eqSnapshot g0 g0 hc0) rfl ledA (fun h => ?_) (fun h => ?_) <;> (try simp only [decide_eq_true_eq, decide_eq_false_iff_not] at h) <;> (conv => arg 4; cbv))
    | (refine Sat.callm (w_laws_markSnapshot g0 1 hc0 (by exact arA)) rfl ledA rfl ledA ?_; conv => arg 4; cbv)
    | (refine Sat.call (w_laws_heldSnapshot_mk g0 1 hc0 (by exact arA)) rfl ledA ?_; conv => arg 4; cbv)
    | (refine Sat.need ndA ?_; conv => arg 4; cbv)
    | (refine Sat.need (by (repeat' (first | exact trivial | refine And.intro ?_ ?_ | rfl | (dsimp only; simp [genL_length]; done))); (first | done | fail)) ?_; conv => arg 4; cbv)
    | (refine Sat.idxk (by assumption) ?_; conv => arg 4; cbv) | (refine Sat.idx ndA (fun v_ hv_ => ?_); conv => arg 4; cbv)
    | (refine Sat.ari64 ndA ndA ?_; conv => arg 4; cbv)
    | (refine Sat.pop ?_; conv => arg 4; cbv)
    | refine Sat.done ?_
  all_goals refine led_bo ?_
  all_goals first | rfl | contradiction | (exfalso; (try simp only [ncast] at *); omega) | (exfalso; simp_all; done)

end Go.V.T
