/- Contracts of the functions that FnSnapshots reaches: what each returns. Conditions: those that each theorem states. -/
import Derived.Test.YtbmbdfkeecifiaaGreatDoorWLSnapshots2
namespace Go.V.T
open Go Go.V Go.RowKit
set_option maxRecDepth 100000
set_option linter.unusedVariables false
set_option linter.unusedSimpArgs false
theorem w_spec_Checksum (s : ByteArray) (hs : s.size ≤ 1048576) : Fn Pr n_spec_Checksum [.str (fun _ => s)] (.int .i64 (fun _ => ckS s)) := by
 refine k_spec_Checksum.fn (by kernel_rfl) ?_
 conv=>arg 4;cbv
 refine Sat.loopP (ι := Nat × Int) (fun p => [(3, .int .i64 (fun _ => p.2)), (4, .int .i64 (fun _ => (p.1 : Int)))]) (fun p => []) (fun p => p.1 ≤ s.size ∧ p.2 = (s.data.toList.take p.1).foldl ckB 5) (fun p => s.size - p.1) (0, 5) ?_ ⟨Nat.zero_le _, rfl⟩ (fun p hp => ?_)
 ·exact lesA
 have hr := ck_rng (s.data.toList.take p.1)
 rw [← hp.2] at hr
 conv=>arg 4;cbv
 refine Sat.cmp (fun h5 => ?_) (fun h5 => ?_) <;> simp only [Cmp.holds] at h5
 ·have hi2 : p.1 < s.size := by exact arA
  have hb : s.data.toList[p.1]? = some (s.get! (Int.toNat (p.1 : Int))) := byte_at hi2
  have hq : (s.get! (Int.toNat (p.1 : Int))).toNat < 256 := UInt8.toNat_lt _
  have hv : (p.2 * 257 + ((s.get! (Int.toNat (p.1 : Int))).toNat : Int) + 1).tmod 9949 = (s.data.toList.take (p.1 + 1)).foldl ckB 5 := by
   rw [ck_snoc hb, ← hp.2, tm_eq (by omega), ckB]
   all_goals first | rfl | (congr 1; omega)
  have hr2 := ck_rng (s.data.toList.take (p.1 + 1))
  rw [← hv] at hr2
  conv=>arg 4;cbv
  repeat' first
   | (refine Sat.need ndA ?_; conv=>arg 4;cbv)
   | (refine Sat.ari64 ndA ndA ?_; conv=>arg 4;cbv)
   | refine Sat.next (p.1 + 1, (p.2 * 257 + ((s.get! (Int.toNat (p.1 : Int))).toNat : Int) + 1).tmod 9949) ?_ ⟨by exact arA, hv⟩ (by (try dsimp only); exact arA)
  exact lesA
 ·conv=>arg 4;cbv
  (refine Sat.pop ?_; conv=>arg 4;cbv)
  refine Sat.done (.int ?_)
  rw [hp.2, show p.1 = s.size by (have := hp.1; exact arA)]
  show List.foldl ckB 5 (List.take s.data.toList.length s.data.toList) = _
  rw [List.take_length]
  rfl
set_option maxHeartbeats 1000000 in
theorem w_impl_ReplayLog (l : List GEntry) (hb : bEntryS l) : Fn Pr n_impl_ReplayLog [.sl 7 eGEntry (fun _ => l)] (.tup [aGMachine (if isLog l = true then repO zeroMa l else ⟨[], []⟩), .bo (isLog l)]) := by
 have h0 : l.length * 56 ≤ 140737488351232 := hb
 refine k_impl_ReplayLog.fn (by kernel_rfl) ?_
 conv=>arg 4;cbv
 refine Sat.callb (w_impl_IsLog l hb) rfl ledA (fun hL => ?_) (fun hL => ?_)
 rotate_left
 ·rw [if_neg (by rw [hL]; exact Bool.false_ne_true), hL]
  conv=>arg 4;cbv
  refine Sat.done (.tup rfl (led_cons led_zeroM (led_cons (.same _) led_nil)))
 rw [if_pos hL, hL]
 have hlen := (isLog_spec hL).1
 conv=>arg 4;cbv
 refine Sat.call w_impl_NewMachine rfl ledA ?_
 conv=>arg 4;cbv
 refine Sat.loopP (ι := Nat × GMachine) (fun p => [(14, .int .i64 (fun _ => (p.1 : Int)))]) (fun p => [(96, .lit 0 [.ref 80 (fun _ => 0) (fun _ => p.2.Objects.length), .ref 81 (fun _ => 0) (fun _ => p.2.Sessions.length)]), (80, .row 1 (encI .i64) (fun _ => p.2.Objects) false), (81, .row 4 eGSession (fun _ => p.2.Sessions) false)]) (fun p => p.1 ≤ l.length ∧ p.2 = repO zeroMa (l.take p.1)) (fun p => l.length - p.1) (0, zeroMa) ?_ ⟨Nat.zero_le _, rfl⟩ (fun p hp => ?_)
 ·refine les_of ?_ ?_ rfl
  iterate 2 (focus repeat' (first | exact trivial | refine And.intro ?_ ?_ | exact levA | refine lev_cons ?_ ?_ | refine LeV.agg rfl ?_ | exact Nat.le_of_ble_eq_true rfl | exact Or.inl ⟨_, rfl, .row rfl⟩ | refine Or.inl ⟨_, rfl, .row ?_⟩ | refine Or.inl ⟨_, rfl, .lit rfl ?_⟩ | exact Or.inr ⟨rfl, rfl⟩ | (first | exact .nilref (fun h => nomatch h) rfl rfl rfl | rfl)))
 have hm := repO_len zeroMa (l.take p.1)
 rw [← hp.2, List.length_take] at hm
 have hb2 : bMachine p.2 := ⟨by show p.2.Objects.length * 8 ≤ _; have := hm.1; rw [this]; decide, by show p.2.Sessions.length * 32 ≤ _; have := hm.2; have e : zeroMa.Sessions.length = 0 := rfl; omega⟩
 conv=>arg 4;cbv
 refine Sat.cmp (fun hn => ?_) (fun hn => ?_) <;> simp only [Cmp.holds] at hn <;> (conv=>arg 4;cbv)
 ·refine Sat.need (by (try dsimp only); exact arA) ?_
  conv=>arg 4;cbv
  refine Sat.idx (by (try dsimp only); exact arA) (fun e he => ?_)
  have he : l[p.1]? = some e := by simpa using he
  have hs := repO_snoc (m := zeroMa) he
  rw [← hp.2] at hs
  conv=>arg 4;cbv
  refine Sat.call (w_impl_ApplyOp p.2 e.Op hb2) rfl (led_cons (.agg rfl (led_cons (.sl (tkdr _)) (led_cons (.sl (tkdr _)) led_nil))) (led_cons (.same _) led_nil)) ?_
  generalize aplO p.2 e.Op = A at *
  conv=>arg 4;cbv
  (refine Sat.ari64 ndA ndA ?_; conv=>arg 4;cbv)
  refine Sat.nextR2 307 80 308 81 (p.1 + 1, A.1) rfl rfl rfl rfl rfl rfl rfl rfl ?_ ⟨by exact arA, hs.symm⟩ (by (try dsimp only); exact arA)
  exact lesA
 ·(refine Sat.pop ?_; conv=>arg 4;cbv)
  refine Sat.done (.tup rfl (led_cons ?_ (led_cons (.same _) led_nil)))
  have e1 : p.2 = repO zeroMa l := by rw [hp.2, show p.1 = l.length by (have := hp.1; exact arA), List.take_length]
  rw [← e1]
  exact led_mch _ _
set_option maxHeartbeats 1000000 in
theorem w_spec_ReplayLog (l : List GEntry) (hb : bEntryS l) : Fn Pr n_spec_ReplayLog [.sl 7 eGEntry (fun _ => l)] (.tup [aGMachine (if isLog l = true then repO zeroMa l else ⟨[], []⟩), .bo (isLog l)]) := by
 have h0 : l.length * 56 ≤ 140737488351232 := hb
 refine k_spec_ReplayLog.fn (by kernel_rfl) ?_
 conv=>arg 4;cbv
 refine Sat.call w_spec_NewMachine rfl ledA ?_
 conv=>arg 4;cbv
 refine Sat.callb (w_spec_IsLog l hb) rfl ledA (fun hL => ?_) (fun hL => ?_)
 rotate_left
 ·rw [if_neg (by rw [hL]; exact Bool.false_ne_true), hL]
  conv=>arg 4;cbv
  refine Sat.done (.tup rfl (led_cons led_zeroM (led_cons (.same _) led_nil)))
 rw [if_pos hL, hL]
 have hlen := (isLog_spec hL).1
 conv=>arg 4;cbv
 refine Sat.loopP (ι := Nat × GMachine) (fun p => [(5, .int .i64 (fun _ => (p.1 : Int)))]) (fun p => [(48, .lit 0 [.ref 32 (fun _ => 0) (fun _ => p.2.Objects.length), .ref 33 (fun _ => 0) (fun _ => p.2.Sessions.length)]), (32, .row 1 (encI .i64) (fun _ => p.2.Objects) false), (33, .row 4 eGSession (fun _ => p.2.Sessions) false)]) (fun p => p.1 ≤ l.length ∧ p.2 = repO zeroMa (l.take p.1)) (fun p => l.length - p.1) (0, zeroMa) ?_ ⟨Nat.zero_le _, rfl⟩ (fun p hp => ?_)
 ·refine les_of ?_ ?_ rfl
  iterate 2 (focus repeat' (first | exact trivial | refine And.intro ?_ ?_ | exact levA | refine lev_cons ?_ ?_ | refine LeV.agg rfl ?_ | exact Nat.le_of_ble_eq_true rfl | exact Or.inl ⟨_, rfl, .row rfl⟩ | refine Or.inl ⟨_, rfl, .row ?_⟩ | refine Or.inl ⟨_, rfl, .lit rfl ?_⟩ | exact Or.inr ⟨rfl, rfl⟩ | (first | exact .nilref (fun h => nomatch h) rfl rfl rfl | rfl)))
 have hm := repO_len zeroMa (l.take p.1)
 rw [← hp.2, List.length_take] at hm
 have hb2 : bMachine p.2 := ⟨by show p.2.Objects.length * 8 ≤ _; have := hm.1; rw [this]; decide, by show p.2.Sessions.length * 32 ≤ _; have := hm.2; have e : zeroMa.Sessions.length = 0 := rfl; omega⟩
 conv=>arg 4;cbv
 refine Sat.cmp (fun hn => ?_) (fun hn => ?_) <;> simp only [Cmp.holds] at hn <;> (conv=>arg 4;cbv)
 ·refine Sat.need (by (try dsimp only); exact arA) ?_
  conv=>arg 4;cbv
  refine Sat.idx (by (try dsimp only); exact arA) (fun e he => ?_)
  have he : l[p.1]? = some e := by simpa using he
  have hs := repO_snoc (m := zeroMa) he
  rw [← hp.2] at hs
  conv=>arg 4;cbv
  refine Sat.call (w_spec_ApplyOp p.2 e.Op hb2) rfl (led_cons (.agg rfl (led_cons (.sl (tkdr _)) (led_cons (.sl (tkdr _)) led_nil))) (led_cons (.same _) led_nil)) ?_
  generalize aplO p.2 e.Op = A at *
  conv=>arg 4;cbv
  (refine Sat.ari64 ndA ndA ?_; conv=>arg 4;cbv)
  refine Sat.nextR2 307 32 308 33 (p.1 + 1, A.1) rfl rfl rfl rfl rfl rfl rfl rfl ?_ ⟨by exact arA, hs.symm⟩ (by (try dsimp only); exact arA)
  exact lesA
 ·(refine Sat.pop ?_; conv=>arg 4;cbv)
  refine Sat.done (.tup rfl (led_cons ?_ (led_cons (.same _) led_nil)))
  have e1 : p.2 = repO zeroMa l := by rw [hp.2, show p.1 = l.length by (have := hp.1; exact arA), List.take_length]
  rw [← e1]
  exact led_mch _ _
theorem one_e {l : List GEntry} {i : Nat} {e : GEntry} (h : l[i]? = some e) (j k : Nat) (hj : j = i) (hk : k = 1) : List.take k (List.drop j l) = [e] := by
 subst hj hk
 obtain ⟨h1, h2⟩ := List.getElem?_eq_some_iff.1 h
 rw [List.drop_eq_getElem_cons h1, h2]
 rfl
theorem logT_sz (l : List GEntry) : (logT l).size ≤ 1000 := by
 unfold logT
 split
 ·rename_i h
  obtain ⟨h1, h2⟩ := isLog_spec h
  split
  ·exact Nat.le_trans (show noneT.size ≤ 4 from Nat.le_refl 4) (by omega)
  ·have := logL_len h2
   show (logL l).length ≤ 1000
   omega
 ·exact Nat.zero_le _
set_option maxHeartbeats 1000000 in
theorem w_impl_DigestList (l : List GEntry) (hb : bEntryS l) : Fn Pr n_impl_DigestList [.sl 7 eGEntry (fun _ => l)] (.sl 1 (encI .i64) (fun _ => if isLog l = true then digs l else [])) := by
 have h0 : l.length * 56 ≤ 140737488351232 := hb
 refine k_impl_DigestList.fn (by kernel_rfl) ?_
 conv=>arg 4;cbv
 refine Sat.callb (w_impl_IsLog l hb) rfl ledA (fun hL => ?_) (fun hL => ?_)
 rotate_left
 ·rw [if_neg (by rw [hL]; exact Bool.false_ne_true)]
  conv=>arg 4;cbv
  refine Sat.done ?_
  first | exact .emp rfl | exact .sl rfl | exact .nil rfl
 rw [if_pos hL]
 have hlen := (isLog_spec hL).1
 conv=>arg 4;cbv
 refine Sat.loopP (ι := Nat × List Int × Int) (fun p => [(3, .ref 64 (fun _ => 0) (fun _ => p.2.1.length)), (12, .int .i64 (fun _ => (p.1 : Int)))]) (fun p => [(64, .row 1 (encI .i64) (fun _ => p.2.1) false)]) (fun p => p.1 ≤ l.length ∧ p.2.1 = digs (l.take p.1) ∧ p.2.2 = dgL (l.take p.1)) (fun p => l.length - p.1) (0, [11], 11) ?_ ⟨Nat.zero_le _, rfl, rfl⟩ (fun p hp => ?_)
 ·refine les_of ?_ ?_ rfl
  iterate 2 (focus repeat' (first | exact trivial | refine And.intro ?_ ?_ | exact levA | refine lev_cons ?_ ?_ | refine LeV.agg rfl ?_ | exact Nat.le_of_ble_eq_true rfl | exact Or.inl ⟨_, rfl, .row rfl⟩ | refine Or.inl ⟨_, rfl, .row ?_⟩ | refine Or.inl ⟨_, rfl, .lit rfl ?_⟩ | exact Or.inr ⟨rfl, rfl⟩ | (first | exact .ref (fun h => nomatch h) (fun h => nomatch h) rfl rfl | rfl)))
 obtain ⟨i, xs, d⟩ := p
 have hi : i ≤ l.length := hp.1
 have hxs : xs = digs (l.take i) := hp.2.1
 have hdd : d = dgL (l.take i) := hp.2.2
 clear hp
 have hl2 : xs.length = i + 1 := by rw [hxs, digs_len, List.length_take]; have := hi; omega
 have hd : xs[0 + (i : Int).toNat]? = some d := by
  rw [show 0 + (i : Int).toNat = i by omega, hxs, hdd, digs_at (by rw [List.length_take]; have := hi; omega), List.take_take, Nat.min_self]
 have hr := dgL_rng (l.take i)
 rw [← hdd] at hr
 conv=>arg 4;cbv
 refine Sat.cmp (fun hn => ?_) (fun hn => ?_) <;> simp only [Cmp.holds] at hn <;> (conv=>arg 4;cbv)
 ·obtain ⟨e, he⟩ : ∃ e, l[i]? = some e := ⟨_, List.getElem?_eq_getElem (by exact arA)⟩
  have hs := digs_snoc he
  have hs2 := dgL_snoc he
  rw [← hxs, ← hdd] at hs
  rw [← hdd] at hs2
  have hk := ckS_rng (logT [e])
  have hz := logT_sz [e]
  have hone : List.take (((i : Int) + 1).toNat - (i : Int).toNat) (List.drop (i : Int).toNat l) = [e] := one_e he _ _ (by omega) (by omega)
  have HF := w_impl_FormatLog [e] (show bEntryS [e] from (by show 1 * 56 ≤ 140737488351232; decide))
  have HC := w_impl_Checksum (logT [e]) (by omega)
  have hv : (31 * d + ckS (logT [e])).tmod 9973 = dgE d e := by
   rw [tm_eq (by omega), dgE]
   all_goals first | rfl | (congr 1; omega)
  have hr2 : 0 ≤ dgE d e ∧ dgE d e < 9973 := by rw [dgE]; omega
  repeat' first
   | (refine Sat.idxk hd ?_; conv=>arg 4;cbv)
   | (refine Sat.call HF rfl (led_cons (.sl hone) led_nil) ?_; conv=>arg 4;cbv)
   | (refine Sat.call HC rfl ledA ?_; conv=>arg 4;cbv)
   | (refine Sat.need ⟨rfl, fun y _ => flat_encI .i64 y, by exact arA⟩ ?_; conv=>arg 4;cbv)
   | (refine Sat.same ?_; conv=>arg 4;cbv)
   | (refine Sat.need ndA ?_; conv=>arg 4;cbv)
   | (refine Sat.ari64 ndA ndA ?_; conv=>arg 4;cbv)
   | refine Sat.next (i + 1, xs ++ [(31 * d + ckS (logT [e])).tmod 9973], (31 * d + ckS (logT [e])).tmod 9973) ?_ ⟨by exact arA, by (try dsimp only); rw [hv]; exact hs.symm, by (try dsimp only); rw [hv]; exact hs2.symm⟩ (by (try dsimp only); exact arA)
  refine les_of ?_ ?_ rfl
  iterate 2 (focus repeat' (first | exact trivial | refine And.intro ?_ ?_ | exact levA | refine lev_cons ?_ ?_ | refine LeV.agg rfl ?_ | exact Nat.le_of_ble_eq_true rfl | exact Or.inl ⟨_, rfl, .row rfl⟩ | refine Or.inl ⟨_, rfl, .row ?_⟩ | refine Or.inl ⟨_, rfl, .lit rfl ?_⟩ | exact Or.inr ⟨rfl, rfl⟩ | (first | exact .ref (fun h => nomatch h) (fun h => nomatch h) rfl (by simp) | (simp; done))))
 ·(refine Sat.pop ?_; conv=>arg 4;cbv)
  refine Sat.done (.sl ?_)
  rw [hxs, show i = l.length by (have := hi; exact arA), List.take_length]
  simp
set_option maxHeartbeats 1000000 in
theorem w_spec_DigestList (l : List GEntry) (hb : bEntryS l) : Fn Pr n_spec_DigestList [.sl 7 eGEntry (fun _ => l)] (.sl 1 (encI .i64) (fun _ => if isLog l = true then digs l else [])) := by
 have h0 : l.length * 56 ≤ 140737488351232 := hb
 refine k_spec_DigestList.fn (by kernel_rfl) ?_
 conv=>arg 4;cbv
 refine Sat.callb (w_spec_IsLog l hb) rfl ledA (fun hL => ?_) (fun hL => ?_)
 rotate_left
 ·rw [if_neg (by rw [hL]; exact Bool.false_ne_true)]
  conv=>arg 4;cbv
  refine Sat.done ?_
  first | exact .emp rfl | exact .sl rfl | exact .nil rfl
 rw [if_pos hL]
 have hlen := (isLog_spec hL).1
 conv=>arg 4;cbv
 repeat' first
  | (refine Sat.typ (encI .i64) (11 : Int) tcA ?_; conv=>arg 4;cbv)
  | (refine Sat.need ⟨fun y _ => flat_encI .i64 y, by exact arA⟩ ?_; conv=>arg 4;cbv)
  | (refine Sat.need ndA ?_; conv=>arg 4;cbv)
 refine Sat.loopP (ι := Nat × List Int × Int) (fun p => [(3, .ref 160 (fun _ => 0) (fun _ => p.2.1.length)), (4, .int .i64 (fun _ => p.2.2)), (5, .int .i64 (fun _ => (p.1 : Int)))]) (fun p => [(160, .row 1 (encI .i64) (fun _ => p.2.1) false)]) (fun p => p.1 ≤ l.length ∧ p.2.1 = digs (l.take p.1) ∧ p.2.2 = dgL (l.take p.1)) (fun p => l.length - p.1) (0, [11], 11) ?_ ⟨Nat.zero_le _, rfl, rfl⟩ (fun p hp => ?_)
 ·refine les_of ?_ ?_ rfl
  iterate 2 (focus repeat' (first | exact trivial | refine And.intro ?_ ?_ | exact levA | refine lev_cons ?_ ?_ | refine LeV.agg rfl ?_ | exact Nat.le_of_ble_eq_true rfl | exact Or.inl ⟨_, rfl, .row rfl⟩ | refine Or.inl ⟨_, rfl, .row ?_⟩ | refine Or.inl ⟨_, rfl, .lit rfl ?_⟩ | exact Or.inr ⟨rfl, rfl⟩ | (first | exact .ref (fun h => nomatch h) (fun h => nomatch h) rfl rfl | rfl)))
 obtain ⟨i, xs, d⟩ := p
 have hi : i ≤ l.length := hp.1
 have hxs : xs = digs (l.take i) := hp.2.1
 have hdd : d = dgL (l.take i) := hp.2.2
 clear hp
 have hl2 : xs.length = i + 1 := by rw [hxs, digs_len, List.length_take]; have := hi; omega
 have hd : xs[0 + (i : Int).toNat]? = some d := by
  rw [show 0 + (i : Int).toNat = i by omega, hxs, hdd, digs_at (by rw [List.length_take]; have := hi; omega), List.take_take, Nat.min_self]
 have hr := dgL_rng (l.take i)
 rw [← hdd] at hr
 conv=>arg 4;cbv
 refine Sat.cmp (fun hn => ?_) (fun hn => ?_) <;> simp only [Cmp.holds] at hn <;> (conv=>arg 4;cbv)
 ·obtain ⟨e, he⟩ : ∃ e, l[i]? = some e := ⟨_, List.getElem?_eq_getElem (by exact arA)⟩
  have hs := digs_snoc he
  have hs2 := dgL_snoc he
  rw [← hxs, ← hdd] at hs
  rw [← hdd] at hs2
  have hk := ckS_rng (logT [e])
  have hz := logT_sz [e]
  have hone : List.take (((i : Int) + 1).toNat - (i : Int).toNat) (List.drop (i : Int).toNat l) = [e] := one_e he _ _ (by omega) (by omega)
  have HF := w_spec_FormatLog [e] (show bEntryS [e] from (by show 1 * 56 ≤ 140737488351232; decide))
  have HC := w_spec_Checksum (logT [e]) (by omega)
  have hv : (d * 31 + ckS (logT [e])).tmod 9973 = dgE d e := by
   rw [tm_eq (by omega), dgE]
   all_goals first | rfl | (congr 1; omega)
  have hr2 : 0 ≤ dgE d e ∧ dgE d e < 9973 := by rw [dgE]; omega
  repeat' first
   | (refine Sat.idxk hd ?_; conv=>arg 4;cbv)
   | (refine Sat.call HF rfl (led_cons (.sl hone) led_nil) ?_; conv=>arg 4;cbv)
   | (refine Sat.call HC rfl ledA ?_; conv=>arg 4;cbv)
   | (refine Sat.need ⟨rfl, fun y _ => flat_encI .i64 y, by exact arA⟩ ?_; conv=>arg 4;cbv)
   | (refine Sat.same ?_; conv=>arg 4;cbv)
   | (refine Sat.need ndA ?_; conv=>arg 4;cbv)
   | (refine Sat.ari64 ndA ndA ?_; conv=>arg 4;cbv)
   | refine Sat.next (i + 1, xs ++ [(d * 31 + ckS (logT [e])).tmod 9973], (d * 31 + ckS (logT [e])).tmod 9973) ?_ ⟨by exact arA, by (try dsimp only); rw [hv]; exact hs.symm, by (try dsimp only); rw [hv]; exact hs2.symm⟩ (by (try dsimp only); exact arA)
  refine les_of ?_ ?_ rfl
  iterate 2 (focus repeat' (first | exact trivial | refine And.intro ?_ ?_ | exact levA | refine lev_cons ?_ ?_ | refine LeV.agg rfl ?_ | exact Nat.le_of_ble_eq_true rfl | exact Or.inl ⟨_, rfl, .row rfl⟩ | refine Or.inl ⟨_, rfl, .row ?_⟩ | refine Or.inl ⟨_, rfl, .lit rfl ?_⟩ | exact Or.inr ⟨rfl, rfl⟩ | (first | exact .ref (fun h => nomatch h) (fun h => nomatch h) rfl (by simp) | (simp; done))))
 ·(refine Sat.pop ?_; conv=>arg 4;cbv)
  refine Sat.done (.sl ?_)
  rw [hxs, show i = l.length by (have := hi; exact arA), List.take_length]
  simp
def takeOk (l : List GEntry) (c : Int) : Bool := isLog l && decide (0 ≤ c ∧ c ≤ (l.length : Int))
def takeS (l : List GEntry) (c : Int) : GSnapshot := if takeOk l c = true then ⟨c, dgL (l.take c.toNat), repO zeroMa (l.take c.toNat)⟩ else ⟨0, 0, ⟨[], []⟩⟩
theorem takeOk_spec {l : List GEntry} {c : Int} (h : takeOk l c = true) : isLog l = true ∧ 0 ≤ c ∧ c ≤ (l.length : Int) := by
 rw [takeOk, Bool.and_eq_true, decide_eq_true_eq] at h
 exact ⟨h.1, h.2.1, h.2.2⟩
theorem takeS_b (l : List GEntry) (c : Int) : bSnapshot (takeS l c) := by
 unfold takeS
 split
 ·rename_i h
  obtain ⟨h1, h2, h3⟩ := takeOk_spec h
  have h4 := (isLog_spec h1).1
  have hm := repO_len zeroMa (l.take c.toNat)
  have e1 : zeroMa.Objects.length = 3 := rfl
  have e2 : zeroMa.Sessions.length = 0 := rfl
  rw [List.length_take, e1, e2] at hm
  exact ⟨by show (repO zeroMa (l.take c.toNat)).Objects.length * 8 ≤ _; omega, by show (repO zeroMa (l.take c.toNat)).Sessions.length * 32 ≤ _; omega⟩
 ·exact ⟨by show 0 * 8 ≤ 140737488351232; decide, by show 0 * 32 ≤ 140737488351232; decide⟩
theorem w_impl_DigestOf (l : List GEntry) (c : Int) (hb : bEntryS l) (hL : isLog l = true) (hc : 0 ≤ c ∧ c ≤ (l.length : Int)) : Fn Pr n_impl_DigestOf [.sl 7 eGEntry (fun _ => l), .int .i64 (fun _ => c)] (.int .i64 (fun _ => dgL (l.take c.toNat))) := by
 have hlen := (isLog_spec hL).1
 have HD := w_impl_DigestList l hb
 rw [if_pos hL] at HD
 have hdl := digs_len l
 have hd : (digs l)[0 + c.toNat]? = some (dgL (l.take c.toNat)) := by rw [Nat.zero_add, digs_at (by omega)]
 generalize dgL (l.take c.toNat) = d at hd ⊢
 refine k_impl_DigestOf.fn (by kernel_rfl) ?_
 conv=>arg 4;cbv
 refine Sat.call HD rfl ledA ?_
 conv=>arg 4;cbv
 repeat' first
  | (refine Sat.callb (w_impl_within _ _ _) rfl ledA (fun h => ?_) (fun h => ?_) <;> (try simp only [decide_eq_true_eq, decide_eq_false_iff_not] at h) <;> (conv=>arg 4;cbv))
  | (refine Sat.idxk hd ?_; conv=>arg 4;cbv)
  | (refine Sat.need ndA ?_; conv=>arg 4;cbv)
  | (refine Sat.ari64 ndA ndA ?_; conv=>arg 4;cbv)
  | refine Sat.done ?_
 all_goals first
  | exact .same _
  | (exfalso; simp only [ncast] at h; omega)
theorem w_impl_TakeSnapshot (l : List GEntry) (c : Int) (hb : bEntryS l) : Fn Pr n_impl_TakeSnapshot [.sl 7 eGEntry (fun _ => l), .int .i64 (fun _ => c)] (.tup [aGSnapshot (takeS l c), .bo (takeOk l c)]) := by
 have h0 : l.length * 56 ≤ 140737488351232 := hb
 refine k_impl_TakeSnapshot.fn (by kernel_rfl) ?_
 conv=>arg 4;cbv
 refine Sat.callb (w_impl_IsLog l hb) rfl ledA (fun hL => ?_) (fun hL => ?_)
 rotate_left
 ·have hk : takeOk l c = false := by rw [takeOk, hL]; rfl
  rw [takeS, if_neg (by rw [hk]; exact Bool.false_ne_true), hk]
  conv=>arg 4;cbv
  refine Sat.done (.tup rfl (led_cons ?_ (led_cons (.same _) led_nil)))
  exact .agg rfl (led_cons (.same _) (led_cons (.same _) (led_cons (.nil rfl) (led_cons (.nil rfl) led_nil))))
 conv=>arg 4;cbv
 refine Sat.callb (w_impl_within _ _ _) rfl ledA (fun hC => ?_) (fun hC => ?_) <;> (try simp only [decide_eq_true_eq, decide_eq_false_iff_not] at hC)
 rotate_left
 ·have hk : takeOk l c = false := by rw [takeOk, hL, decide_eq_false hC]; rfl
  rw [takeS, if_neg (by rw [hk]; exact Bool.false_ne_true), hk]
  conv=>arg 4;cbv
  refine Sat.done (.tup rfl (led_cons ?_ (led_cons (.same _) led_nil)))
  exact .agg rfl (led_cons (.same _) (led_cons (.same _) (led_cons (.nil rfl) (led_cons (.nil rfl) led_nil))))
 have hk : takeOk l c = true := by rw [takeOk, hL, decide_eq_true hC]; rfl
 rw [takeS, if_pos hk, hk]
 have hlen := (isLog_spec hL).1
 have hC : 0 ≤ c ∧ c ≤ (l.length : Int) := hC
 have HR := w_impl_ReplayLog (l.take c.toNat) (by show (l.take c.toNat).length * 56 ≤ _; rw [List.length_take]; omega)
 rw [isLog_take hL, if_pos rfl] at HR
 have HD := w_impl_DigestOf l c hb hL hC
 conv=>arg 4;cbv
 refine Sat.need (by (try dsimp only); omega) ?_
 conv=>arg 4;cbv
 refine Sat.call HR rfl (led_cons (.sl (by simp)) led_nil) ?_
 conv=>arg 4;cbv
 refine Sat.call HD rfl ledA ?_
 conv=>arg 4;cbv
 refine Sat.done (.tup rfl (led_cons ?_ (led_cons (.same _) led_nil)))
 exact .agg rfl (led_cons (.same _) (led_cons (.same _) (led_cons (.sl (tkdr _)) (led_cons (.sl (tkdr _)) led_nil))))
theorem w_spec_DigestOf (l : List GEntry) (c : Int) (hb : bEntryS l) (hL : isLog l = true) (hc : 0 ≤ c ∧ c ≤ (l.length : Int)) : Fn Pr n_spec_DigestOf [.sl 7 eGEntry (fun _ => l), .int .i64 (fun _ => c)] (.int .i64 (fun _ => dgL (l.take c.toNat))) := by
 have hlen := (isLog_spec hL).1
 have HD := w_spec_DigestList l hb
 rw [if_pos hL] at HD
 have hdl := digs_len l
 have hd : (digs l)[0 + c.toNat]? = some (dgL (l.take c.toNat)) := by rw [Nat.zero_add, digs_at (by omega)]
 generalize dgL (l.take c.toNat) = d at hd ⊢
 refine k_spec_DigestOf.fn (by kernel_rfl) ?_
 conv=>arg 4;cbv
 refine Sat.call HD rfl ledA ?_
 conv=>arg 4;cbv
 repeat' first
  | (refine Sat.callb (w_spec_l1In _ _ _) rfl ledA (fun h => ?_) (fun h => ?_) <;> (try simp only [decide_eq_true_eq, decide_eq_false_iff_not] at h) <;> (conv=>arg 4;cbv))
  | (refine Sat.idxk hd ?_; conv=>arg 4;cbv)
  | (refine Sat.need ndA ?_; conv=>arg 4;cbv)
  | (refine Sat.ari64 ndA ndA ?_; conv=>arg 4;cbv)
  | refine Sat.done ?_
 all_goals first
  | exact .same _
  | (exfalso; simp only [ncast] at h; omega)
theorem w_spec_TakeSnapshot (l : List GEntry) (c : Int) (hb : bEntryS l) : Fn Pr n_spec_TakeSnapshot [.sl 7 eGEntry (fun _ => l), .int .i64 (fun _ => c)] (.tup [aGSnapshot (takeS l c), .bo (takeOk l c)]) := by
 have h0 : l.length * 56 ≤ 140737488351232 := hb
 refine k_spec_TakeSnapshot.fn (by kernel_rfl) ?_
 conv=>arg 4;cbv
 refine Sat.callb (w_spec_IsLog l hb) rfl ledA (fun hL => ?_) (fun hL => ?_)
 rotate_left
 ·have hk : takeOk l c = false := by rw [takeOk, hL]; rfl
  rw [takeS, if_neg (by rw [hk]; exact Bool.false_ne_true), hk]
  conv=>arg 4;cbv
  refine Sat.done (.tup rfl (led_cons ?_ (led_cons (.same _) led_nil)))
  exact .agg rfl (led_cons (.same _) (led_cons (.same _) (led_cons (.nil rfl) (led_cons (.nil rfl) led_nil))))
 conv=>arg 4;cbv
 refine Sat.callb (w_spec_l1In _ _ _) rfl ledA (fun hC => ?_) (fun hC => ?_) <;> (try simp only [decide_eq_true_eq, decide_eq_false_iff_not] at hC)
 rotate_left
 ·have hk : takeOk l c = false := by rw [takeOk, hL, decide_eq_false hC]; rfl
  rw [takeS, if_neg (by rw [hk]; exact Bool.false_ne_true), hk]
  conv=>arg 4;cbv
  refine Sat.done (.tup rfl (led_cons ?_ (led_cons (.same _) led_nil)))
  exact .agg rfl (led_cons (.same _) (led_cons (.same _) (led_cons (.nil rfl) (led_cons (.nil rfl) led_nil))))
 have hk : takeOk l c = true := by rw [takeOk, hL, decide_eq_true hC]; rfl
 rw [takeS, if_pos hk, hk]
 have hlen := (isLog_spec hL).1
 have hC : 0 ≤ c ∧ c ≤ (l.length : Int) := hC
 have HR := w_spec_ReplayLog (l.take c.toNat) (by show (l.take c.toNat).length * 56 ≤ _; rw [List.length_take]; omega)
 rw [isLog_take hL, if_pos rfl] at HR
 have HD := w_spec_DigestOf l c hb hL hC
 conv=>arg 4;cbv
 refine Sat.need (by (try dsimp only); omega) ?_
 conv=>arg 4;cbv
 refine Sat.call HR rfl (led_cons (.sl (by simp)) led_nil) ?_
 conv=>arg 4;cbv
 refine Sat.call HD rfl ledA ?_
 conv=>arg 4;cbv
 refine Sat.done (.tup rfl (led_cons ?_ (led_cons (.same _) led_nil)))
 exact .agg rfl (led_cons (.same _) (led_cons (.same _) (led_cons (.sl (tkdr _)) (led_cons (.sl (tkdr _)) led_nil))))
def chH (i n : Int) (p : ByteArray) : ByteArray := sI i ++ ⟨#[47]⟩ ++ sI n ++ ⟨#[58]⟩ ++ p
def chT (i n : Int) (p : ByteArray) : ByteArray := chH i n p ++ ⟨#[35]⟩ ++ sI (ckS (chH i n p))
def lastB (c : UInt8) : List UInt8 → Int
 | [] => -1
 | b :: r => if lastB c r = -1 then (if b = c then 0 else -1) else lastB c r + 1
theorem lastB_none {c : UInt8} : ∀ {l : List UInt8}, (∀ b ∈ l, b ≠ c) → lastB c l = -1
 | [], _ => rfl
 | b :: r, h => by
   rw [lastB, if_pos (lastB_none (fun x hx => h x (List.mem_cons_of_mem _ hx))), if_neg (h b (List.mem_cons_self ..))]
theorem lastB_at {c : UInt8} {q : List UInt8} (h : ∀ b ∈ q, b ≠ c) : ∀ (p : List UInt8), lastB c (p ++ c :: q) = (p.length : Int)
 | [] => by rw [List.nil_append, lastB, if_pos (lastB_none h), if_pos rfl]; rfl
 | b :: r => by
   have h1 := lastB_at h r
   rw [List.cons_append, lastB, if_neg (by rw [h1]; omega), h1, List.length_cons]
   omega
theorem lastB_hit {c : UInt8} {l : List UInt8} {i : Nat} (hi : l[i]? = some c) (h : ∀ b ∈ l.drop (i + 1), b ≠ c) : lastB c l = (i : Int) := by
 have e : l = l.take i ++ c :: l.drop (i + 1) := by
  obtain ⟨h1, h2⟩ := List.getElem?_eq_some_iff.1 hi
  rw [← h2, List.getElem_cons_drop h1, List.take_append_drop]
 have hl : (l.take i).length = i := by
  have := (List.getElem?_eq_some_iff.1 hi).1
  rw [List.length_take]
  omega
 rw [e, lastB_at h, hl]
def partB (s : ByteArray) (z : Nat) (i : Nat) : ByteArray := ⟨((s.data.toList.drop (i * z)).take z).toArray⟩
def chN (s : ByteArray) (z : Nat) : Nat := max 1 ((s.size + z - 1) / z)
def chs (s : ByteArray) (z : Nat) : List ByteArray := (List.range (chN s z)).map (fun i : Nat => chT (i : Int) (chN s z : Int) (partB s z i))
theorem chs_len (s : ByteArray) (z : Nat) : (chs s z).length = chN s z := by rw [chs, List.length_map, List.length_range]
theorem chs_at {s : ByteArray} {z i : Nat} (h : i < chN s z) : (chs s z)[i]? = some (chT i (chN s z) (partB s z i)) := by
 rw [chs, List.getElem?_map, List.getElem?_range h]
 rfl
theorem part_step (s : ByteArray) (z i : Nat) : s.data.toList.take (i * z) ++ (partB s z i).data.toList = s.data.toList.take ((i + 1) * z) := by
 rw [partB, List.toList_toArray, Nat.add_mul, Nat.one_mul, List.take_add]
theorem chN_cover {s : ByteArray} {z : Nat} (hz : 0 < z) : s.size ≤ chN s z * z := by
 have h1 : (s.size + z - 1) / z * z + z > s.size + z - 1 := by
  have := Nat.div_add_mod (s.size + z - 1) z
  have h2 := Nat.mod_lt (s.size + z - 1) hz
  rw [Nat.mul_comm] at this
  omega
 have h3 : (s.size + z - 1) / z * z ≤ chN s z * z := Nat.mul_le_mul_right _ (Nat.le_max_right _ _)
 omega
theorem part_ne {s : ByteArray} {z i : Nat} (hz : 0 < z) (hi : i < chN s z) (h1 : 1 < chN s z) : 0 < (partB s z i).size := by
 have h2 : i * z < s.size := by
  have h3 : chN s z = (s.size + z - 1) / z := by unfold chN at h1 ⊢; omega
  have h4 : (i + 1) * z ≤ (s.size + z - 1) / z * z := Nat.mul_le_mul_right _ (by omega)
  have h5 := Nat.div_mul_le_self (s.size + z - 1) z
  rw [Nat.add_mul] at h4
  omega
 show 0 < ((s.data.toList.drop (i * z)).take z).length
 have h6 : s.data.toList.length = s.size := rfl
 rw [List.length_take, List.length_drop, h6]
 omega
def chR (n : Int) (p k : ByteArray) : ByteArray := sI n ++ ⟨#[58]⟩ ++ (p ++ ⟨#[35]⟩ ++ k)
theorem chT_list (i n : Int) (p : ByteArray) : (chT i n p).data.toList = (sI i).data.toList ++ 47 :: (chR n p (sI (ckS (chH i n p)))).data.toList := by
 simp [chT, chR, chH]
theorem chR_list (n : Int) (p k : ByteArray) : (chR n p k).data.toList = (sI n).data.toList ++ 58 :: (p ++ ⟨#[35]⟩ ++ k : ByteArray).data.toList := by
 simp [chR]
theorem chT_cut {i n : Int} {p : ByteArray} (hi : 0 ≤ i) : ctA 47 (chT i n p) = sI i ∧ ctZ 47 (chT i n p) = chR n p (sI (ckS (chH i n p))) := ct_at (chT_list i n p) (sI_ne hi (.inl (by decide)))
theorem chR_cut {n : Int} {p k : ByteArray} (hn : 0 ≤ n) : ctA 58 (chR n p k) = sI n ∧ ctZ 58 (chR n p k) = p ++ ⟨#[35]⟩ ++ k := ct_at (chR_list n p k) (sI_ne hn (.inr (by decide)))
theorem ch_last {p : ByteArray} {k : Int} (hk : 0 ≤ k) : lastB 35 (p ++ ⟨#[35]⟩ ++ sI k : ByteArray).data.toList = (p.size : Int) := by
 have e : (p ++ ⟨#[35]⟩ ++ sI k : ByteArray).data.toList = p.data.toList ++ 35 :: (sI k).data.toList := by simp
 rw [e, lastB_at (sI_ne hk (.inl (by decide)))]
 rfl
theorem chH_size {i n : Int} {p : ByteArray} (hi : 0 ≤ i ∧ i < 100) (hn : 0 ≤ n ∧ n < 100) : (chH i n p).size ≤ p.size + 6 := by
 have h1 := (sI_size hi.1 hi.2).2
 have h2 := (sI_size hn.1 hn.2).2
 have e1 : (⟨#[47]⟩ : ByteArray).size = 1 := rfl
 have e2 : (⟨#[58]⟩ : ByteArray).size = 1 := rfl
 simp only [chH, ByteArray.size_append]
 omega
theorem chT_size {i n : Int} {p : ByteArray} (hi : 0 ≤ i ∧ i < 100) (hn : 0 ≤ n ∧ n < 100) : (chT i n p).size ≤ p.size + 13 ∧ 1 ≤ (chT i n p).size := by
 have h1 := chH_size (p := p) hi hn
 have h2 := ckS_rng (chH i n p)
 have h3 := sI_size9 (n := ckS (chH i n p)) h2.1 (by omega)
 have e1 : (⟨#[35]⟩ : ByteArray).size = 1 := rfl
 simp only [chT, ByteArray.size_append]
 omega
def prt (L : List ByteArray) (k : Nat) : List ByteArray := if k = L.length then [] else List.replicate k emT ++ L.drop k
def prtB (L : List ByteArray) (k : Nat) : List ByteArray := List.replicate k emT ++ L.drop k
theorem prt_some {L : List ByteArray} {k : Nat} (h : k ≠ L.length) : prt L k = prtB L k := if_neg h
theorem prtB_len {L : List ByteArray} {k : Nat} (h : k ≤ L.length) : (prtB L k).length = L.length := by
 rw [prtB, List.length_append, List.length_replicate, List.length_drop]
 omega
theorem prtB_all (L : List ByteArray) : prtB L L.length = List.replicate L.length emT := by rw [prtB, List.drop_length, List.append_nil]
theorem prt_zero {L : List ByteArray} (h : 0 < L.length) : prt L 0 = L := by
 rw [prt, if_neg (by omega)]
 rfl
theorem prtB_at {L : List ByteArray} {k : Nat} : (prtB L (k + 1))[k]? = some emT := by
 rw [prtB, List.getElem?_append_left (by rw [List.length_replicate]; omega), List.getElem?_replicate, if_pos (by omega)]
theorem prtB_set {L : List ByteArray} {k : Nat} {x : ByteArray} (h : L[k]? = some x) : (prtB L (k + 1)).set k x = prt L k := by
 obtain ⟨h1, h2⟩ := List.getElem?_eq_some_iff.1 h
 rw [prt_some (by omega), prtB, prtB, List.set_append_left _ _ (by rw [List.length_replicate]; omega), List.replicate_succ', List.set_append_right _ _ (by rw [List.length_replicate]; omega), List.length_replicate, Nat.sub_self, List.drop_eq_getElem_cons h1, h2, List.append_assoc]
 rfl
def mis (l : List ByteArray) : Int := match l.findIdx? (fun x => decide (x = emT)) with | some i => (i : Int) | none => -1
theorem mis_prt {L : List ByteArray} {k : Nat} (h : k + 1 ≠ L.length) : mis (prt L (k + 1)) = 0 := by
 rw [prt_some h, prtB, List.replicate_succ, List.cons_append, mis, List.findIdx?_cons]
 rfl
theorem mis_none {L : List ByteArray} (h : ∀ x ∈ L, 1 ≤ x.size) : mis L = -1 := by
 have e : L.findIdx? (fun x => decide (x = emT)) = none := by
  rw [List.findIdx?_eq_none_iff]
  intro x hx
  have h1 := h x hx
  exact decide_eq_false (fun e => by subst e; exact absurd h1 (by decide))
 rw [mis, e]
def jT (s : ByteArray) (z k : Nat) : ByteArray := ⟨(s.data.toList.take (k * z)).toArray⟩
theorem jT_zero (s : ByteArray) (z : Nat) : jT s z 0 = emT := by rw [jT, Nat.zero_mul]; rfl
theorem jT_step (s : ByteArray) (z k : Nat) : jT s z k ++ partB s z k = jT s z (k + 1) := by
 refine bytes_ext ?_
 rw [ByteArray.data_append, Array.toList_append, jT, jT, List.toList_toArray, List.toList_toArray, part_step]
theorem jT_all {s : ByteArray} {z : Nat} (hz : 0 < z) : jT s z (chN s z) = s := by
 refine bytes_ext ?_
 rw [jT, List.toList_toArray, List.take_of_length_le (chN_cover hz)]
theorem pNum_sI9 {n : Int} (h0 : 0 ≤ n) (h1 : n < 100000) : pNum (sI n) = n := by
 obtain ⟨f1, _, f3⟩ := sI_form (s := sI n) rfl
 have hS : pS (sI n) = 1 := if_neg (f3 h0)
 have hV : pV (sI n) = n := by
  rw [pV, hS, f1, dv_dec]
  omega
 have hl := sI_size9 h0 h1
 have hz : (pT (sI n)).length = (sI n).size := by
  rw [f1, Lib.decDigits_length]
  have e : (sI n).data.toList.length = (sI n).size := rfl
  rw [← e, sI_list, Lib.itoa, if_neg (by omega), Lib.decDigits_length]
  congr 1
  omega
 have h1l : 1 ≤ (pT (sI n)).length := by
  rw [f1, Lib.decDigits_length]
  by_cases hs : n.natAbs < 10
  ·rw [Lib.nDigits_small hs]; omega
  ·rw [Lib.nDigits_big hs]; omega
 have hy : pI (sI n) = (n, true) := by
  rw [pI_yes ⟨h1l, by omega, ?_, by rw [hV]⟩, hV]
  exact List.all_eq_true.2 (fun b hb => dec_isD _ b (by rw [← f1]; exact hb))
 exact (pI_yes1 hy).1
theorem pSn_back {x : GSnapshot} (h : snOk x = true) : pSn (snT x) = (x, true) := by
 obtain ⟨h1, h2, h3⟩ := snOk_spec h
 obtain ⟨g1, g2, g3, g4, g5⟩ := validM_spec h3
 have no : ∀ n : Int, 0 ≤ n → ∀ b ∈ (sI n).data.toList, b ≠ 44 := fun n hn b hb e => by
  have := (sI_digs hn b hb).1
  rw [e] at this
  exact absurd this (by decide)
 have nm : ∀ b ∈ (mchT x.Machine).data.toList, b ≠ 44 := fun b hb e => by
  rw [mchT, if_pos h3] at hb
  have hb : b ∈ (fS x.Machine.Objects).data.toList ++ sesL x.Machine.Sessions := by simpa using hb
  rw [List.mem_append, fS_digs g2, List.mem_map, sesL, List.mem_flatMap] at hb
  rcases hb with ⟨v, hv, rfl⟩ | ⟨y, hy, hb⟩
  ·exact dg_ne (g2 v hv) (b := 44) (by decide) e
  ·rw [sesT_list (g4 y hy), List.mem_cons] at hb
   rcases hb with rfl | hb
   ·exact absurd e (by decide)
   ·exact (sesD_no (g4 y hy) b hb).2 e
 have e : cutB 44 (snT x) = [sI x.Count, sI x.Digest, mchT x.Machine] := by
  refine cut_texts 44 [sI x.Digest, mchT x.Machine] (sI x.Count) (snT x) (no _ h1.1) (fun y hy => ?_) ?_
  ·simp only [List.mem_cons, List.not_mem_nil, or_false] at hy
   rcases hy with rfl | rfl
   ·exact no _ h2.1
   ·exact nm
  ·rw [snT, if_pos h]
   simp
 have e2 : sn3 pNum (sI x.Count) (sI x.Digest) (mchT x.Machine) = x := by
  rw [sn3, pNum_sI9 h1.1 (by omega), pNum_sI9 h2.1 (by omega), pM_back h3]
 rw [pSn, e, pSnL, e2, if_pos rfl]
theorem pSn_snT (x : GSnapshot) : pSn (snT x) = if snOk x = true then (x, true) else (zeroSn, false) := by
 by_cases h : snOk x = true
 ·rw [if_pos h, pSn_back h]
 ·rw [if_neg h, snT, if_neg h]
  rfl
theorem snT_ne {x : GSnapshot} : snT x = emT ↔ ¬ snOk x = true := by
 constructor
 ·intro e h
  have h1 := cut_snT h
  rw [e] at h1
  exact absurd h1 (by decide)
 ·intro h
  rw [snT, if_neg h]
  rfl
theorem w_laws_at0 (code : List Int) (hb : code.length * 1 ≤ 140737488351232) (hw : ∀ x ∈ code, 0 ≤ x ∧ x ≤ 255) : ∃ v : Int, (0 ≤ v ∧ v ≤ 255) ∧ Fn Pr n_laws_at [.sl 1 (encI .u8) (fun _ => code), .int .i64 (fun _ => 0)] (.int .i64 (fun _ => v)) := by
 cases code with
 | nil =>
   refine ⟨0, ⟨by decide, by decide⟩, ?_⟩
   refine k_laws_at.fn (by kernel_rfl) ?_
   conv=>arg 4;cbv
   repeat' first
    | (refine Sat.cmp (fun h => ?_) (fun h => ?_) <;> simp only [Cmp.holds] at h <;> (conv=>arg 4;cbv))
    | (refine Sat.need ndA ?_; conv=>arg 4;cbv)
    | (refine Sat.ari64 ndA ndA ?_; conv=>arg 4;cbv)
    | refine Sat.done ?_
   all_goals first | exact .int rfl | (exfalso; (try simp only [ncast] at *); simp at *; done)
 | cons x r =>
   have hx := hw x (List.mem_cons_self ..)
   refine ⟨x, hx, ?_⟩
   refine k_laws_at.fn (by kernel_rfl) ?_
   conv=>arg 4;cbv
   repeat' first
    | (refine Sat.cmp (fun h => ?_) (fun h => ?_) <;> simp only [Cmp.holds] at h <;> (conv=>arg 4;cbv))
    | (refine Sat.idxk (x := x) rfl ?_; conv=>arg 4;cbv)
    | (refine Sat.need ndA ?_; conv=>arg 4;cbv)
    | (refine Sat.ari64 ndA ndA ?_; conv=>arg 4;cbv)
    | refine Sat.done ?_
   all_goals first | exact .int rfl | (exfalso; (try simp only [ncast] at *); (try simp only [List.length_cons] at *); omega)
theorem w_impl_EqualSnapshots (x y : GSnapshot) (hb : bSnapshot x) (hb' : bSnapshot y) : Fn Pr n_impl_EqualSnapshots [aGSnapshot x, aGSnapshot y] (.bo (decide (x = y))) := by
 refine k_impl_EqualSnapshots.fn (by kernel_rfl) ?_
 conv=>arg 4;cbv
 refine Sat.cmp (fun h1 => ?_) (fun h1 => ?_) <;> simp only [Cmp.holds] at h1 <;> (conv=>arg 4;cbv)
 ·refine Sat.cmp (fun h2 => ?_) (fun h2 => ?_) <;> simp only [Cmp.holds] at h2 <;> (conv=>arg 4;cbv)
  ·refine Sat.callb (w_impl_EqualMachines x.Machine y.Machine hb hb') rfl ledA (fun h3 => ?_) (fun h3 => ?_) <;> (try simp only [decide_eq_true_eq, decide_eq_false_iff_not] at h3) <;> (conv=>arg 4;cbv)
   ·refine Sat.done (led_bo (Eq.symm (decide_eq_true ?_)))
    cases x; cases y
    subst h1 h2 h3
    rfl
   ·exact Sat.done (led_bo (Eq.symm (decide_eq_false (fun e => h3 (by rw [e])))))
  ·exact Sat.done (led_bo (Eq.symm (decide_eq_false (fun e => h2 (by rw [e])))))
 ·exact Sat.done (led_bo (Eq.symm (decide_eq_false (fun e => h1 (by rw [e])))))
theorem mis_hit {l : List ByteArray} {i : Nat} (h : ∀ x ∈ l.take i, x ≠ emT) (he : l[i]? = some emT) : mis l = (i : Int) := by
 have e : l.findIdx? (fun x => decide (x = emT)) = some i := by
  obtain ⟨h1, h2⟩ := List.getElem?_eq_some_iff.1 he
  rw [List.findIdx?_eq_some_iff_getElem]
  refine ⟨h1, decide_eq_true h2, fun j hj => ?_⟩
  have h3 : l[j]'(by omega) ∈ l.take i := by
   rw [List.mem_take_iff_getElem]
   exact ⟨j, by omega, rfl⟩
  simpa using h _ h3
 rw [mis, e]
theorem mis_end {l : List ByteArray} (h : ∀ x ∈ l, x ≠ emT) : mis l = -1 := by
 have e : l.findIdx? (fun x => decide (x = emT)) = none := by
  rw [List.findIdx?_eq_none_iff]
  exact fun x hx => decide_eq_false (h x hx)
 rw [mis, e]
theorem take_no {l : List ByteArray} {i : Nat} {x : ByteArray} (h : ∀ x ∈ l.take i, x ≠ emT) (he : l[i]? = some x) (hx : x ≠ emT) : ∀ x ∈ l.take (i + 1), x ≠ emT := fun y hy => by
 rw [List.take_add_one, he, List.mem_append] at hy
 rcases hy with hy | hy
 ·exact h y hy
 ·simp at hy
  rw [hy]
  exact hx
theorem w_slices_Index_stringstring (l : List ByteArray) (hl : l.length ≤ 1000000) : Fn Pr n_slices_Index_stringstring [.sl 1 encS (fun _ => l), .str (fun _ => ⟨#[]⟩)] (.int .i64 (fun _ => mis l)) := by
 refine k_slices_Index_stringstring.fn (by kernel_rfl) ?_
 conv=>arg 4;cbv
 refine Sat.loopP (ι := Nat) (fun i => [(8, .int .i64 (fun _ => (i : Int)))]) (fun i => []) (fun i => i ≤ l.length ∧ ∀ x ∈ l.take i, x ≠ emT) (fun i => l.length - i) 0 ?_ ⟨Nat.zero_le _, by simp⟩ (fun i hi => ?_)
 ·exact lesA
 conv=>arg 4;cbv
 refine Sat.cmp (fun h5 => ?_) (fun h5 => ?_) <;> simp only [Cmp.holds] at h5
 ·conv=>arg 4;cbv
  refine Sat.need (by (try dsimp only); exact arA) ?_
  conv=>arg 4;cbv
  refine Sat.idx (by (try dsimp only); exact arA) (fun x hx => ?_)
  have hx : l[i]? = some x := by simpa using hx
  conv=>arg 4;cbv
  refine Sat.test (fun h6 => ?_) (fun h6 => ?_)
  ·have h6 : emT = x := of_decide_eq_true h6
   have hm := mis_hit hi.2 (by rw [h6]; exact hx)
   generalize mis l = q at hm ⊢
   conv=>arg 4;cbv
   repeat' first
    | (refine Sat.pop ?_; conv=>arg 4;cbv)
    | refine Sat.done ?_
   exact .int hm.symm
  ·have h6 : ¬ emT = x := of_decide_eq_false h6
   conv=>arg 4;cbv
   repeat' first
    | (refine Sat.ari64 ndA ndA ?_; conv=>arg 4;cbv)
    | refine Sat.next (i + 1) ?_ ⟨by exact arA, take_no hi.2 hx (fun e => h6 e.symm)⟩ (by (try dsimp only); exact arA)
   exact lesA
 ·have hm := mis_end (l := l) (fun x hx => hi.2 x (by rw [List.take_of_length_le (by (have := hi.1; exact arA))]; exact hx))
  generalize mis l = q at hm ⊢
  conv=>arg 4;cbv
  (refine Sat.pop ?_; conv=>arg 4;cbv)
  exact Sat.done (.int hm.symm)
theorem w_slices_Clone_stringstring (l : List ByteArray) (hl : l.length ≤ 1000000) : Fn Pr n_slices_Clone_stringstring [.sl 1 encS (fun _ => l)] (.sl 1 encS (fun _ => l)) := by
 refine k_slices_Clone_stringstring.fn (by kernel_rfl) ?_
 conv=>arg 4;cbv
 repeat' first
  | (refine Sat.cmp (fun h => ?_) (fun h => ?_) <;> simp only [Cmp.holds] at h <;> (conv=>arg 4;cbv))
  | (refine Sat.need ⟨fun y _ j _ => rfl, by exact arA⟩ ?_; conv=>arg 4;cbv)
  | (refine Sat.may (fun h => ?_) ?_ <;> (conv=>arg 4;cbv))
  | (refine Sat.need ndA ?_; conv=>arg 4;cbv)
  | (refine Sat.idxk (by assumption) ?_; conv=>arg 4;cbv) | (refine Sat.idx ndA (fun v_ hv_ => ?_); conv=>arg 4;cbv)
  | (refine Sat.ari64 ndA ndA ?_; conv=>arg 4;cbv)
  | (refine Sat.pop ?_; conv=>arg 4;cbv)
  | refine Sat.done ?_
 all_goals first | exact .nil (by assumption) | exact .sl (by simp)
theorem w_internal_bytealg_LastIndexByteString (s : ByteArray) (hs : s.size ≤ 1048576) : Fn Pr n_internal_bytealg_LastIndexByteString [.str (fun _ => s), .int .u8 (fun _ => 35)] (.int .i64 (fun _ => lastB 35 s.data.toList)) := by
 refine k_internal_bytealg_LastIndexByteString.fn (by kernel_rfl) ?_
 conv=>arg 4;cbv
 (refine Sat.ari64 ndA ndA ?_; conv=>arg 4;cbv)
 refine Sat.loopP (ι := Nat) (fun k => [(5, .int .i64 (fun _ => (k : Int) - 1))]) (fun k => []) (fun k => k ≤ s.size ∧ ∀ b ∈ s.data.toList.drop k, b ≠ 35) (fun k => k) s.size ?_ ⟨Nat.le_refl _, fun b hb => by rw [show s.data.toList.drop s.size = [] from List.drop_of_length_le (Nat.le_refl _)] at hb; cases hb⟩ (fun k hk => ?_)
 ·exact lesA
 conv=>arg 4;cbv
 refine Sat.cmp (fun h5 => ?_) (fun h5 => ?_) <;> simp only [Cmp.holds] at h5
 ·obtain ⟨j, rfl⟩ : ∃ j, k = j + 1 := ⟨k - 1, by exact arA⟩
  have hj : j < s.size := hk.1
  have hb := byte_at hj
  have e1 : (((j + 1 : Nat) : Int) - 1).toNat = j := by omega
  conv=>arg 4;cbv
  refine Sat.need (by (try dsimp only); exact arA) ?_
  conv=>arg 4;cbv
  refine Sat.cmp (fun h6 => ?_) (fun h6 => ?_) <;> simp only [Cmp.holds] at h6
  ·have h7 : s.get! j = 35 := UInt8.toNat_inj.1 (by rw [← e1]; exact Int.ofNat.inj h6)
   have hm := lastB_hit (c := 35) (by rw [hb, h7]) hk.2
   generalize lastB 35 s.data.toList = q at hm ⊢
   conv=>arg 4;cbv
   repeat' first
    | (refine Sat.pop ?_; conv=>arg 4;cbv)
    | refine Sat.done ?_
   exact .int (by rw [hm]; (try dsimp only); (try simp only [ncast]); omega)
  ·have h7 : s.get! j ≠ 35 := fun e => h6 (by (try dsimp only); rw [e1, e]; rfl)
   conv=>arg 4;cbv
   repeat' first
    | (refine Sat.ari64 ndA ndA ?_; conv=>arg 4;cbv)
    | refine Sat.next j ?_ ⟨by omega, fun b hb2 => ?_⟩ (by (try dsimp only); omega)
   ·refine les_of ?_ ?_ rfl
    iterate 2 (focus repeat' (first | exact trivial | refine And.intro ?_ ?_ | exact levA | refine lev_cons ?_ ?_ | refine LeV.agg rfl ?_ | exact Nat.le_of_ble_eq_true rfl | exact Or.inl ⟨_, rfl, .row rfl⟩ | refine Or.inl ⟨_, rfl, .row ?_⟩ | refine Or.inl ⟨_, rfl, .lit rfl ?_⟩ | exact Or.inr ⟨rfl, rfl⟩ | (first | exact .int (by (try dsimp only); (try simp only [ncast]); omega) | exact .int rfl)))
   ·obtain ⟨g1, g2⟩ := List.getElem?_eq_some_iff.1 hb
    rw [List.drop_eq_getElem_cons g1, g2, List.mem_cons] at hb2
    rcases hb2 with rfl | hb2
    ·exact h7
    ·exact hk.2 b hb2
 ·have hm := lastB_none (c := 35) (l := s.data.toList) (fun b hb => hk.2 b (by rw [show k = 0 by exact arA]; exact hb))
  generalize lastB 35 s.data.toList = q at hm ⊢
  conv=>arg 4;cbv
  (refine Sat.pop ?_; conv=>arg 4;cbv)
  exact Sat.done (.int hm.symm)
theorem w_impl_chunkText (i n : Int) (p : ByteArray) (hi : 0 ≤ i ∧ i < 100) (hn : 0 ≤ n ∧ n < 100) (hp : p.size ≤ 1000) : Fn Pr n_impl_chunkText [.int .i64 (fun _ => i), .int .i64 (fun _ => n), .str (fun _ => p)] (.str (fun _ => chT i n p)) := by
 have h1 := sI_size hi.1 hi.2
 have h2 := sI_size hn.1 hn.2
 have h3 := chH_size (p := p) hi hn
 have h4 := ckS_rng (chH i n p)
 have h5 := sI_size9 (n := ckS (chH i n p)) h4.1 (by omega)
 have HC := w_impl_Checksum (chH i n p) (by omega)
 have HF := w_impl_FormatIntG (ckS (chH i n p)) (by omega) (by omega)
 have e1 : (⟨#[47]⟩ : ByteArray).size = 1 := rfl
 have e2 : (⟨#[58]⟩ : ByteArray).size = 1 := rfl
 have e3 : (⟨#[35]⟩ : ByteArray).size = 1 := rfl
 refine k_impl_chunkText.fn (by kernel_rfl) ?_
 conv=>arg 4;cbv
 repeat' first
  | (refine Sat.call (w_impl_FormatIntG i (by omega) (by omega)) rfl ledA ?_; conv=>arg 4;cbv)
  | (refine Sat.call (w_impl_FormatIntG n (by omega) (by omega)) rfl ledA ?_; conv=>arg 4;cbv)
  | (refine Sat.call HC rfl (led_cons (.str rfl) led_nil) ?_; conv=>arg 4;cbv)
  | (refine Sat.call HF rfl ledA ?_; conv=>arg 4;cbv)
  | (refine Sat.need (by (try dsimp only); simp only [ByteArray.size_append, e1, e2, e3]; omega) ?_; conv=>arg 4;cbv)
  | (refine Sat.need (by show (chH i n p).size + _ ≤ _; simp only [e3]; omega) ?_; conv=>arg 4;cbv)
  | refine Sat.done ?_
 all_goals exact .str rfl
theorem w_strings_LastIndexByte (s : ByteArray) (hs : s.size ≤ 1048576) : Fn Pr n_strings_LastIndexByte [.str (fun _ => s), .int .u8 (fun _ => 35)] (.int .i64 (fun _ => lastB 35 s.data.toList)) := by
 have H := w_internal_bytealg_LastIndexByteString s hs
 generalize lastB 35 s.data.toList = q at H ⊢
 refine k_strings_LastIndexByte.fn (by kernel_rfl) ?_
 conv=>arg 4;cbv
 repeat' first
  | (refine Sat.cmp (fun h => ?_) (fun h => ?_) <;> simp only [Cmp.holds] at h <;> (conv=>arg 4;cbv))
  | (refine Sat.callb (H) rfl ledA (fun h => ?_) (fun h => ?_) <;> (try simp only [decide_eq_true_eq, decide_eq_false_iff_not] at h) <;> (conv=>arg 4;cbv))
  | (refine Sat.call (H) rfl ledA ?_; conv=>arg 4;cbv)
  | (refine Sat.need ndA ?_; conv=>arg 4;cbv)
  | (refine Sat.idxk (by assumption) ?_; conv=>arg 4;cbv) | (refine Sat.idx ndA (fun v_ hv_ => ?_); conv=>arg 4;cbv)
  | (refine Sat.ari64 ndA ndA ?_; conv=>arg 4;cbv)
  | (refine Sat.pop ?_; conv=>arg 4;cbv)
  | refine Sat.done ?_
 all_goals exact .same _
theorem w_impl_readChunk (i n : Int) (p : ByteArray) (hi : 0 ≤ i ∧ i < n) (hn : 1 ≤ n ∧ n ≤ 40) (hp : p.size ≤ 1000) (hp1 : n = 1 ∨ 1 ≤ p.size) : Fn Pr n_impl_readChunk [.str (fun _ => chT i n p)] (.tup [.int .i64 (fun _ => i), .int .i64 (fun _ => n), .str (fun _ => p), .bo true]) := by
 have hs := chT_size (i := i) (n := n) (p := p) ⟨hi.1, by omega⟩ ⟨by omega, by omega⟩
 have hc1 := chT_cut (i := i) (n := n) (p := p) hi.1
 have hk := ckS_rng (chH i n p)
 have W1 := w_strings_Cut 47 (chT i n p) (by omega)
 have z1 := (ct_size 47 (chT i n p)).2
 have WT := w_impl_chunkText i n p ⟨hi.1, by omega⟩ ⟨by omega, by omega⟩ hp
 rw [hc1.1, hc1.2] at W1
 rw [hc1.2] at z1
 generalize ctF 47 (chT i n p) = f1 at W1
 generalize chT i n p = t at *
 have hl := ch_last (p := p) hk.1
 have hex : (p ++ ⟨#[35]⟩ ++ sI (ckS (chH i n p)) : ByteArray).extract 0 p.size = p := by
  refine bytes_ext ?_
  simp
 have hc2 := chR_cut (n := n) (p := p) (k := sI (ckS (chH i n p))) (by omega)
 generalize sI (ckS (chH i n p)) = k at *
 have W2 := w_strings_Cut 58 (chR n p k) (by omega)
 have z2 := (ct_size 58 (chR n p k)).2
 rw [hc2.1, hc2.2] at W2
 rw [hc2.2] at z2
 generalize ctF 58 (chR n p k) = f2 at W2
 generalize chR n p k = r at *
 have W3 := w_strings_LastIndexByte (p ++ ⟨#[35]⟩ ++ k) (by omega)
 rw [hl] at W3
 have hps : p.size ≤ (p ++ ⟨#[35]⟩ ++ k : ByteArray).size := by simp only [ByteArray.size_append]; omega
 generalize (p ++ ⟨#[35]⟩ ++ k : ByteArray) = q at *
 have si := sI_size hi.1 (by omega)
 have sn := sI_size (n := n) (by omega) (by omega)
 have W4 := w_impl_number (sI i) (by omega)
 rw [(pNum_sI hi.1 (by omega)).1] at W4
 have W5 := w_impl_number (sI n) (by omega)
 rw [(pNum_sI (n := n) (by omega) (by omega)).1] at W5
 generalize sI i = a at *
 generalize sI n = b at *
 refine k_impl_readChunk.fn (by kernel_rfl) ?_
 conv=>arg 4;cbv
 repeat' first
  | (refine Sat.call W1 rfl ledA ?_; conv=>arg 4;cbv)
  | (refine Sat.call W2 rfl ledA ?_; conv=>arg 4;cbv)
  | (refine Sat.call W3 rfl ledA ?_; conv=>arg 4;cbv)
  | (refine Sat.call W4 rfl ledA ?_; conv=>arg 4;cbv)
  | (refine Sat.call W5 rfl ledA ?_; conv=>arg 4;cbv)
  | (refine Sat.callb (w_impl_within _ _ _) rfl ledA (fun h => ?_) (fun h => ?_) <;> (try simp only [decide_eq_true_eq, decide_eq_false_iff_not] at h) <;> (conv=>arg 4;cbv))
  | (refine Sat.call WT rfl (led_cons (.same _) (led_cons (.same _) (led_cons (.str hex) led_nil))) ?_; conv=>arg 4;cbv)
  | (refine Sat.cmp (fun h => ?_) (fun h => ?_) <;> simp only [Cmp.holds] at h <;> (conv=>arg 4;cbv))
  | (refine Sat.need ndA ?_; conv=>arg 4;cbv)
  | (refine Sat.ari64 ndA ndA ?_; conv=>arg 4;cbv)
  | (refine Sat.test (fun h => ?_) (fun h => ?_) <;> (conv=>arg 4;cbv))
  | refine Sat.done ?_
 all_goals clear W1 W2 W3 W4 W5 WT
 all_goals first
  | exact .tup rfl (led_cons (.same _) (led_cons (.same _) (led_cons (.str hex) (led_cons (.same _) led_nil))))
  | (exfalso; (try simp only [ncast] at *); omega)
  | (exfalso; simp_all; done)
  | trace_state
theorem chN_int (s : ByteArray) {z : Nat} (hz : 2 ≤ z) : max 1 (((s.size : Int) - 1).tdiv (z : Int) + 1) = (chN s z : Int) := by
 unfold chN
 by_cases h : s.size = 0
 ·rw [h, Nat.zero_add, Nat.div_eq_of_lt (by omega)]
  have e : (((0 : Nat) : Int) - 1).tdiv (z : Int) = 0 := by
   rw [show ((0 : Nat) : Int) - 1 = -1 from rfl, Int.neg_tdiv, Int.tdiv_eq_zero_of_lt (by omega) (by omega)]
   rfl
  rw [e]
  rfl
 ·have e : ((s.size : Int) - 1).tdiv (z : Int) = (((s.size - 1) / z : Nat) : Int) := by
   rw [show (s.size : Int) - 1 = ((s.size - 1 : Nat) : Int) by omega]
   exact (Int.ofNat_tdiv _ _).symm
  have e2 : s.size + z - 1 = s.size - 1 + z := by omega
  rw [e, e2, Nat.add_div_right _ (by omega)]
  omega
theorem chN_big {s : ByteArray} {z : Nat} (hz : 2 ≤ z) (h : (40 : Int) < (s.size : Int).tdiv (z : Int)) : 40 < chN s z := by
 have e : (s.size : Int).tdiv (z : Int) = ((s.size / z : Nat) : Int) := (Int.ofNat_tdiv _ _).symm
 rw [e] at h
 have h1 : s.size / z ≤ (s.size + z - 1) / z := Nat.div_le_div_right (by omega)
 unfold chN
 omega
theorem td_rng (s : ByteArray) {z : Nat} (hz : 2 ≤ z) (hs : s.size ≤ 1000) : (0 ≤ (s.size : Int).tdiv (z : Int) ∧ (s.size : Int).tdiv (z : Int) ≤ 1000) ∧ (0 ≤ ((s.size : Int) - 1).tdiv (z : Int) ∧ ((s.size : Int) - 1).tdiv (z : Int) ≤ 1000) := by
 constructor
 ·rw [show (s.size : Int).tdiv (z : Int) = ((s.size / z : Nat) : Int) from (Int.ofNat_tdiv _ _).symm]
  have := Nat.div_le_self s.size z
  generalize s.size / z = q at *
  omega
 ·by_cases h : s.size = 0
  ·rw [h, show ((0 : Nat) : Int) - 1 = -1 from rfl, Int.neg_tdiv, Int.tdiv_eq_zero_of_lt (by omega) (by omega)]
   omega
  ·rw [show (s.size : Int) - 1 = ((s.size - 1 : Nat) : Int) by omega, show ((s.size - 1 : Nat) : Int).tdiv (z : Int) = (((s.size - 1) / z : Nat) : Int) from (Int.ofNat_tdiv _ _).symm]
   have := Nat.div_le_self (s.size - 1) z
   generalize (s.size - 1) / z = q at *
   omega
theorem part_le {s : ByteArray} {z i : Nat} (hz : 0 < z) (hi : i < chN s z) : i * z ≤ s.size := by
 by_cases h1 : 1 < chN s z
 ·have := part_ne hz hi h1
  have h2 : 0 < ((s.data.toList.drop (i * z)).take z).length := this
  have h6 : s.data.toList.length = s.size := rfl
  rw [List.length_take, List.length_drop, h6] at h2
  omega
 ·rw [show i = 0 by omega, Nat.zero_mul]
  exact Nat.zero_le _
theorem part_ext (s : ByteArray) (z i : Nat) (hi : i * z ≤ s.size) : s.extract ((i : Int) * (z : Int)).toNat (min (s.size : Int) ((i : Int) * (z : Int) + min (z : Int) (s.size : Int))).toNat = partB s z i := by
 have e1 : ((i : Int) * (z : Int)).toNat = i * z := by rw [← Int.natCast_mul]; rfl
 have e3 : (i : Int) * (z : Int) = ((i * z : Nat) : Int) := by rw [Int.natCast_mul]
 have e4 : (partB s z i).data.toList = (s.data.toList.drop (i * z)).take z := rfl
 refine bytes_ext ?_
 rw [e1, e3, e4]
 clear e1 e3 e4
 generalize i * z = a at *
 have e2 : (min (s.size : Int) ((a : Int) + min (z : Int) (s.size : Int))).toNat = min s.size (a + min z s.size) := by omega
 have hl : s.data.toList.length = s.size := rfl
 rw [e2, ByteArray.data_extract, Array.toList_extract, List.extract_eq_take_drop, List.take_eq_take_iff, List.length_drop, hl]
 omega
theorem w_impl_EncodeChunks (s : ByteArray) (z : Nat) (hs : s.size ≤ 1000) (hz : 2 ≤ z ∧ z ≤ 8) : Fn Pr n_impl_EncodeChunks [.str (fun _ => s), .int .i64 (fun _ => (z : Int))] (.sl 1 encS (fun _ => if chN s z ≤ 40 then chs s z else [])) := by
 have hT := chN_int s hz.1
 have hbig := chN_big (s := s) hz.1
 have hr := td_rng s hz.1 hs
 refine k_impl_EncodeChunks.fn (by kernel_rfl) ?_
 conv=>arg 4;cbv
 (refine Sat.cmp (fun h => ?_) (fun h => ?_) <;> simp only [Cmp.holds] at h <;> (conv=>arg 4;cbv))
 ·exfalso
  simp only [ncast] at *
  omega
 (refine Sat.need ndA ?_; conv=>arg 4;cbv)
 (refine Sat.ari64 ndA ndA ?_; conv=>arg 4;cbv)
 (refine Sat.cmp (fun h => ?_) (fun h => ?_) <;> simp only [Cmp.holds] at h <;> (conv=>arg 4;cbv))
 ·have hb2 := hbig h
  rw [if_neg (by omega)]
  exact Sat.done (.emp rfl)
 repeat' first
  | (refine Sat.need ndA ?_; conv=>arg 4;cbv)
  | (refine Sat.ari64 ndA ndA ?_; conv=>arg 4;cbv)
 (refine Sat.cmp (fun h => ?_) (fun h => ?_) <;> simp only [Cmp.holds] at h <;> (conv=>arg 4;cbv))
 ·rw [hT] at h
  rw [if_neg (by (try simp only [ncast] at h); omega)]
  exact Sat.done (.emp rfl)
 have h40 : chN s z ≤ 40 := by rw [hT] at h; (try simp only [ncast] at h); omega
 rw [if_pos h40]
 refine Sat.loopP (ι := Nat) (fun i => [(5, .ref 7 (fun _ => 0) (fun _ => i)), (6, .int .i64 (fun _ => (chN s z : Int))), (29, .int .i64 (fun _ => (chN s z : Int))), (30, .int .i64 (fun _ => (i : Int)))]) (fun i => [(7, .row 1 encS (fun _ => (chs s z).take i) false)]) (fun i => i ≤ chN s z) (fun i => chN s z - i) 0 ?_ (Nat.zero_le _) (fun i hi => ?_)
 ·refine les_of ?_ ?_ rfl
  iterate 2 (focus repeat' (first | exact trivial | refine And.intro ?_ ?_ | exact levA | refine lev_cons ?_ ?_ | refine LeV.agg rfl ?_ | exact Nat.le_of_ble_eq_true rfl | exact Or.inl ⟨_, rfl, .row rfl⟩ | refine Or.inl ⟨_, rfl, .row ?_⟩ | refine Or.inl ⟨_, rfl, .lit rfl ?_⟩ | exact Or.inr ⟨rfl, rfl⟩ | (first | exact .empref (fun h => nomatch h) rfl rfl rfl | exact .int hT | rfl)))
 conv=>arg 4;cbv
 refine Sat.cmp (fun h5 => ?_) (fun h5 => ?_) <;> simp only [Cmp.holds] at h5 <;> (conv=>arg 4;cbv)
 ·have hi2 : i < chN s z := by exact arA
  have hle := part_le (by omega) hi2
  have hxe := part_ext s z i hle
  have hm1 : (i : Int) * (z : Int) = ((i * z : Nat) : Int) := by rw [Int.natCast_mul]
  have hm0 : 0 ≤ (i : Int) * (z : Int) ∧ (i : Int) * (z : Int) ≤ 1000 := by rw [hm1]; generalize i * z = q at *; omega
  have hm2 : (i : Int) * (z : Int) ≤ (s.size : Int) := by rw [hm1]; generalize i * z = q at *; omega
  have hps : (partB s z i).size ≤ 1000 := by
   show ((s.data.toList.drop (i * z)).take z).length ≤ 1000
   rw [List.length_take]
   omega
  have WT := w_impl_chunkText (i : Int) (chN s z : Int) (partB s z i) ⟨by omega, by omega⟩ ⟨by omega, by omega⟩ hps
  have hat := chs_at hi2
  have htk : (chs s z).take (i + 1) = (chs s z).take i ++ [chT (i : Int) (chN s z : Int) (partB s z i)] := by rw [List.take_add_one, hat]; rfl
  repeat' first
   | (refine Sat.call WT rfl (led_cons (.same _) (led_cons (.same _) (led_cons (.str hxe) led_nil))) ?_; conv=>arg 4;cbv)
   | (refine Sat.need ⟨rfl, fun y _ j _ => rfl, by exact arA⟩ ?_; conv=>arg 4;cbv)
   | (refine Sat.same ?_; conv=>arg 4;cbv)
   | (refine Sat.need ndA ?_; conv=>arg 4;cbv)
   | (refine Sat.ari64 ndA ndA ?_; conv=>arg 4;cbv)
  have e7 : (chs s z).take (i + 1) = List.take i (List.take i (chs s z)) ++ List.take 1 (List.drop 0 [chT (i : Int) (chN s z : Int) (partB s z i)]) := by rw [htk, List.take_take, Nat.min_self]; rfl
  refine Sat.next (i + 1) ?_ (by exact arA) (by (try dsimp only); exact arA)
  refine les_of ?_ ?_ rfl
  iterate 2 (focus repeat' (first | exact trivial | refine And.intro ?_ ?_ | exact levA | refine lev_cons ?_ ?_ | refine LeV.agg rfl ?_ | exact Nat.le_of_ble_eq_true rfl | exact Or.inl ⟨_, rfl, .row rfl⟩ | refine Or.inl ⟨_, rfl, .row ?_⟩ | refine Or.inl ⟨_, rfl, .lit rfl ?_⟩ | exact Or.inr ⟨rfl, rfl⟩ | (first | exact .ref (fun h => nomatch h) (fun h => nomatch h) rfl (by simp) | exact e7.symm)))
 ·have hie : i = chN s z := by exact arA
  repeat' first
   | (refine Sat.pop ?_; conv=>arg 4;cbv)
   | refine Sat.done ?_
  refine .sl ?_
  rw [hie, ← chs_len s z, List.take_length]
  simp
theorem w_impl_MissingChunk (l : List ByteArray) (T : Int) (hl : l.length ≤ 1000000) : Fn Pr n_impl_MissingChunk [.sl 1 encS (fun _ => l), .int .i64 (fun _ => T)] (.int .i64 (fun _ => if l.length = 0 ∧ 0 < T then 0 else mis l)) := by
 have HI := w_slices_Index_stringstring l hl
 generalize hm : mis l = q at HI ⊢
 refine k_impl_MissingChunk.fn (by kernel_rfl) ?_
 conv=>arg 4;cbv
 repeat' first
  | (refine Sat.cmp (fun h => ?_) (fun h => ?_) <;> simp only [Cmp.holds] at h <;> (conv=>arg 4;cbv))
  | (refine Sat.call HI rfl ledA ?_; conv=>arg 4;cbv)
  | refine Sat.done ?_
 all_goals refine .int ?_
 all_goals (try dsimp only)
 all_goals first
  | (rw [if_pos (by (try simp only [ncast] at *); omega)]; done)
  | (rw [if_neg (by (try simp only [ncast] at *); omega)]; done)
theorem jT_size (s : ByteArray) (z k : Nat) : (jT s z k).size ≤ s.size := by
 show (s.data.toList.take (k * z)).length ≤ s.data.toList.length
 rw [List.length_take]
 omega
theorem w_impl_JoinChunks (s : ByteArray) (z : Nat) (hs : s.size ≤ 1000) (hz : 2 ≤ z) (h40 : chN s z ≤ 40) : Fn Pr n_impl_JoinChunks [.sl 1 encS (fun _ => chs s z), .int .i64 (fun _ => (chN s z : Int))] (.tup [.str (fun _ => s), .bo true]) := by
 have hl := chs_len s z
 have h1 : 1 ≤ chN s z := Nat.le_max_left _ _
 refine k_impl_JoinChunks.fn (by kernel_rfl) ?_
 conv=>arg 4;cbv
 repeat' first
  | (refine Sat.cmp (fun h => ?_) (fun h => (by exfalso; simp only [Cmp.holds] at h; (try simp only [ncast] at h); omega)) <;> simp only [Cmp.holds] at h <;> (conv=>arg 4;cbv))
  | (refine Sat.cmp (fun h => (by exfalso; simp only [Cmp.holds] at h; (try simp only [ncast] at h); omega)) (fun h => ?_) <;> simp only [Cmp.holds] at h <;> (conv=>arg 4;cbv))
 refine Sat.loopP (ι := Nat) (fun i => [(6, .str (fun _ => jT s z i)), (23, .int .i64 (fun _ => (i : Int)))]) (fun i => []) (fun i => i ≤ chN s z) (fun i => chN s z - i) 0 ?_ (Nat.zero_le _) (fun i hi => ?_)
 ·refine les_of ?_ ?_ rfl
  iterate 2 (focus repeat' (first | exact trivial | refine And.intro ?_ ?_ | exact levA | refine lev_cons ?_ ?_ | refine LeV.agg rfl ?_ | exact Nat.le_of_ble_eq_true rfl | exact Or.inl ⟨_, rfl, .row rfl⟩ | refine Or.inl ⟨_, rfl, .row ?_⟩ | refine Or.inl ⟨_, rfl, .lit rfl ?_⟩ | exact Or.inr ⟨rfl, rfl⟩ | (first | exact .str (jT_zero s z).symm | exact .str rfl)))
 have hjs := jT_size s z i
 conv=>arg 4;cbv
 refine Sat.cmp (fun h5 => ?_) (fun h5 => ?_) <;> simp only [Cmp.holds] at h5 <;> (conv=>arg 4;cbv)
 ·have hi2 : i < chN s z := by (try simp only [ncast] at h5); omega
  have hat := chs_at hi2
  have hps : (partB s z i).size ≤ 1000 := by
   show ((s.data.toList.drop (i * z)).take z).length ≤ 1000
   have h6 : s.data.toList.length = s.size := rfl
   rw [List.length_take, List.length_drop, h6]
   omega
  have WR := w_impl_readChunk (i : Int) (chN s z : Int) (partB s z i) ⟨by omega, by omega⟩ ⟨by omega, by omega⟩ hps (by
   by_cases hc : chN s z = 1
   ·exact .inl (by rw [hc]; rfl)
   ·exact .inr (part_ne (by omega) hi2 (by omega)))
  have hst := jT_step s z i
  have hn1 := jT_size s z (i + 1)
  rw [← hst, ByteArray.size_append] at hn1
  generalize chT (i : Int) (chN s z : Int) (partB s z i) = t at hat WR
  generalize partB s z i = q at *
  refine Sat.need (by (try dsimp only); (try simp only [ncast]); omega) ?_
  conv=>arg 4;cbv
  refine Sat.idxk hat ?_
  conv=>arg 4;cbv
  refine Sat.call WR rfl ledA ?_
  conv=>arg 4;cbv
  repeat' first
   | (refine Sat.cmp (fun h => ?_) (fun h => (by exfalso; exact h rfl)) <;> (conv=>arg 4;cbv))
   | (refine Sat.need (by (try dsimp only); omega) ?_; conv=>arg 4;cbv)
   | (refine Sat.ari64 ndA ndA ?_; conv=>arg 4;cbv)
   | refine Sat.next (i + 1) ?_ (by omega) (by (try dsimp only); omega)
  refine les_of ?_ ?_ rfl
  iterate 2 (focus repeat' (first | exact trivial | refine And.intro ?_ ?_ | exact levA | refine lev_cons ?_ ?_ | refine LeV.agg rfl ?_ | exact Nat.le_of_ble_eq_true rfl | exact Or.inl ⟨_, rfl, .row rfl⟩ | refine Or.inl ⟨_, rfl, .row ?_⟩ | refine Or.inl ⟨_, rfl, .lit rfl ?_⟩ | exact Or.inr ⟨rfl, rfl⟩ | (first | exact .str hst | exact .str rfl)))
 ·have hie : i = chN s z := by (try simp only [ncast] at h5); omega
  repeat' first
   | (refine Sat.pop ?_; conv=>arg 4;cbv)
   | refine Sat.done ?_
  refine .tup rfl (led_cons (.str ?_) (led_cons (.same _) led_nil))
  rw [hie]
  exact jT_all (by omega)
set_option maxHeartbeats 1000000 in
theorem w_impl_ReceiveChunk (L : List ByteArray) (k : Nat) (p : ByteArray) (hL : L.length ≤ 40) (hk : L[k]? = some (chT (k : Int) (L.length : Int) p)) (hp : p.size ≤ 1000) (hp1 : (L.length : Int) = 1 ∨ 1 ≤ p.size) : Fn Pr n_impl_ReceiveChunk [.sl 1 encS (fun _ => prt L (k + 1)), .str (fun _ => chT (k : Int) (L.length : Int) p)] (.tup [.sl 1 encS (fun _ => prt L k), .bo true]) := by
 have hkl : k < L.length := (List.getElem?_eq_some_iff.1 hk).1
 have WR := w_impl_readChunk (k : Int) (L.length : Int) p ⟨by omega, by omega⟩ ⟨by omega, by omega⟩ hp hp1
 have hset := prtB_set hk
 have hat := prtB_at (L := L) (k := k)
 have hbl := prtB_len (L := L) (k := k + 1) (by omega)
 generalize chT (k : Int) (L.length : Int) p = t at *
 generalize hq : prt L k = q at *
 by_cases hf : k + 1 = L.length
 ·have e0 : prt L (k + 1) = [] := if_pos hf
  have e1 : prtB L (k + 1) = List.replicate L.length emT := by rw [hf, prtB_all]
  rw [e0]
  rw [e1] at hset hat hbl
  have WC := w_slices_Clone_stringstring [] (by decide)
  have hfin : List.take (L.length : Int).toNat (List.drop 0 (setAt (List.replicate (L.length : Int).toNat emT) (0 + (k : Int).toNat) t)) = q := by
   rw [show 0 + (k : Int).toNat = k by omega, show (L.length : Int).toNat = L.length by omega, List.drop_zero, setAt, hset, List.take_of_length_le (by rw [← hset, List.length_set, List.length_replicate]; exact Nat.le_refl _)]
  refine k_impl_ReceiveChunk.fn (by kernel_rfl) ?_
  conv=>arg 4;cbv
  refine Sat.call WC rfl ledA ?_
  conv=>arg 4;cbv
  refine Sat.call WR rfl ledA ?_
  conv=>arg 4;cbv
  repeat' first
   | (refine Sat.cmp (fun h => ?_) (fun h => ?_) <;> simp only [Cmp.holds] at h <;> (conv=>arg 4;cbv))
   | (refine Sat.typ encS emT tcA ?_; conv=>arg 4;cbv)
   | (refine Sat.idxk (x := emT) (show (List.replicate L.length emT)[0 + (k : Int).toNat]? = some emT by rw [show 0 + (k : Int).toNat = k by omega]; exact hat) ?_; conv=>arg 4;cbv)
   | (refine Sat.typed t tcA ?_; conv=>arg 4;cbv)
   | (refine Sat.test (fun h => ?_) (fun h => ?_) <;> (conv=>arg 4;cbv))
   | (refine Sat.need ndA ?_; conv=>arg 4;cbv)
   | (refine Sat.idxk (by assumption) ?_; conv=>arg 4;cbv) | (refine Sat.idx ndA (fun v_ hv_ => ?_); conv=>arg 4;cbv)
   | refine Sat.done ?_
  all_goals clear WC WR
  all_goals first
   | exact .tup rfl (led_cons (.sl hfin) (led_cons (.same _) led_nil))
   | (exfalso; (try simp only [ncast] at *); (try simp only [List.length_nil] at *); omega)
   | (exfalso; simp_all; done)
   | trace_state
 ·have e0 : prt L (k + 1) = prtB L (k + 1) := if_neg hf
  rw [e0]
  generalize prtB L (k + 1) = b at *
  have WC := w_slices_Clone_stringstring b (by omega)
  refine k_impl_ReceiveChunk.fn (by kernel_rfl) ?_
  conv=>arg 4;cbv
  refine Sat.call WC rfl ledA ?_
  conv=>arg 4;cbv
  refine Sat.call WR rfl ledA ?_
  conv=>arg 4;cbv
  have hfin : List.take b.length (List.drop 0 (setAt b (0 + (k : Int).toNat) t)) = q := by
   rw [show 0 + (k : Int).toNat = k by omega, List.drop_zero, setAt, hset, List.take_of_length_le (by rw [← hset, List.length_set]; exact Nat.le_refl _)]
  repeat' first
   | (refine Sat.cmp (fun h => ?_) (fun h => ?_) <;> simp only [Cmp.holds] at h <;> (conv=>arg 4;cbv))
   | (refine Sat.typ encS emT tcA ?_; conv=>arg 4;cbv)
   | (refine Sat.idxk (x := emT) (show b[0 + (k : Int).toNat]? = some emT by rw [show 0 + (k : Int).toNat = k by omega]; exact hat) ?_; conv=>arg 4;cbv)
   | (refine Sat.typed t tcA ?_; conv=>arg 4;cbv)
   | (refine Sat.test (fun h => ?_) (fun h => ?_) <;> (conv=>arg 4;cbv))
   | (refine Sat.need ndA ?_; conv=>arg 4;cbv)
   | (refine Sat.idxk (by assumption) ?_; conv=>arg 4;cbv) | (refine Sat.idx ndA (fun v_ hv_ => ?_); conv=>arg 4;cbv)
   | refine Sat.done ?_
  all_goals clear WC WR
  all_goals first
   | exact .tup rfl (led_cons (.sl hfin) (led_cons (.same _) led_nil))
   | (exfalso; (try simp only [ncast] at *); omega)
   | (exfalso; simp_all; done)
   | trace_state
theorem takeS_len (l : List GEntry) (c : Int) : (takeS l c).Machine.Objects.length ≤ 3 ∧ (takeS l c).Machine.Sessions.length ≤ 16 := by
 unfold takeS
 split
 ·rename_i h
  obtain ⟨h1, h2, h3⟩ := takeOk_spec h
  have h4 := (isLog_spec h1).1
  have hm := repO_len zeroMa (l.take c.toNat)
  have e1 : zeroMa.Objects.length = 3 := rfl
  have e2 : zeroMa.Sessions.length = 0 := rfl
  rw [List.length_take, e1, e2] at hm
  exact ⟨by show (repO zeroMa (l.take c.toNat)).Objects.length ≤ 3; omega, by show (repO zeroMa (l.take c.toNat)).Sessions.length ≤ 16; omega⟩
 ·exact ⟨Nat.zero_le _, Nat.zero_le _⟩
def isSp : AV → Prop := fun r => ∃ x : GSnapshot, r = aGSnapshot x ∧ x.Machine.Objects.length ≤ 3 ∧ x.Machine.Sessions.length ≤ 16
set_option maxHeartbeats 4000000 in
theorem w_spec_l7Snap (code : List Int) (hc : code.length ≤ 1048576) (i h : Int) (hi : 0 ≤ i ∧ i ≤ (code.length : Int)) : FnP Pr n_spec_l7Snap [.ptr 0 0] [curA code i h] (Dr code isSp) := by
 refine k_spec_l7Snap.fnp (by kernel_rfl) ?_
 conv=>arg 4;cbv
 refine Sat.draw (w_spec_l5Log code hc) hi (fun ret ia ha hia hR => ?_)
 obtain ⟨l, rfl, hl⟩ := hR
 conv=>arg 4;cbv
 (refine Sat.ari64 ndA ndA ?_; conv=>arg 4;cbv)
 refine Sat.draw (w_spec_l1Below code hc _) hia (fun ret ib hb hib hR => ?_)
 obtain ⟨v, rfl, v0, v1⟩ := hR
 conv=>arg 4;cbv
 refine Sat.call (w_spec_TakeSnapshot l v (by unfold bEntryS; omega)) rfl (led_cons (.sl (tkdr _)) (led_cons (.same _) led_nil)) ?_
 have hx := takeS_len l v
 generalize takeS l v = x at *
 generalize takeOk l v = b at *
 conv=>arg 4;cbv
 refine Sat.draw (w_spec_l1Below code hc 14) hib (fun ret ic hd hic hR => ?_)
 obtain ⟨q, rfl, q0, q1⟩ := hR
 conv=>arg 4;cbv
 repeat' first
  | (refine Sat.cmp (fun h => ?_) (fun h => ?_) <;> simp only [Cmp.holds] at h <;> (conv=>arg 4;cbv))
  | (refine Sat.draw (w_spec_l1PickInt code hc [-1, 16, 17] (by decide) (by decide)) hic (fun ret ij hj hij hR => ?_); obtain ⟨u, rfl⟩ := hR; conv=>arg 4;cbv)
  | (refine Sat.draw (w_spec_l1PickInt code hc [-1, 9972, 9973] (by decide) (by decide)) hic (fun ret ij hj hij hR => ?_); obtain ⟨u, rfl⟩ := hR; conv=>arg 4;cbv)
  | (refine Sat.draw (w_spec_l4Any code hc) hic (fun ret ij hj hij hR => ?_); obtain ⟨m, rfl, m1, m2⟩ := hR; conv=>arg 4;cbv)
  | (refine Sat.need ndA ?_; conv=>arg 4;cbv)
  | (refine Sat.ari64 ndA ndA ?_; conv=>arg 4;cbv)
 all_goals first
  | exact Sat.done (dr_end (ret := aGSnapshot { x with Count := u }) ⟨_, rfl, hx.1, hx.2⟩ (.agg rfl (led_cons (.same _) (led_cons (.same _) (led_cons (.sl (tkdr _)) (led_cons (.sl (tkdr _)) led_nil))))) hij rfl)
  | exact Sat.done (dr_end (ret := aGSnapshot { x with Digest := u }) ⟨_, rfl, hx.1, hx.2⟩ (.agg rfl (led_cons (.same _) (led_cons (.same _) (led_cons (.sl (tkdr _)) (led_cons (.sl (tkdr _)) led_nil))))) hij rfl)
  | exact Sat.done (dr_end (ret := aGSnapshot { x with Machine := m }) ⟨_, rfl, m1, Nat.le_trans m2 (by decide)⟩ (.agg rfl (led_cons (.same _) (led_cons (.same _) (led_cons (.sl (tkdr _)) (led_cons (.sl (tkdr _)) led_nil))))) hij rfl)
  | exact Sat.done (dr_end (ret := aGSnapshot x) ⟨_, rfl, hx.1, hx.2⟩ (.agg rfl (led_cons (.same _) (led_cons (.same _) (led_cons (.sl (tkdr _)) (led_cons (.sl (tkdr _)) led_nil))))) hic rfl)
  | trace_state
theorem w_spec_DrawSnapshotText (code : List Int) (hc : code.length ≤ 1048576) : FnP Pr n_spec_DrawSnapshotText [.sl 1 (encI .u8) (fun _ => code)] [] (fun ret outs => outs = [] ∧ ∃ x : GSnapshot, ret = aGSnapshot x ∧ x.Machine.Objects.length ≤ 3 ∧ x.Machine.Sessions.length ≤ 16) := by
 refine k_spec_DrawSnapshotText.fnq (by kernel_rfl) ?_
 conv=>arg 4;cbv
 refine Sat.newv (w_spec_l1New code hc) (fun cs hcs => ?_)
 obtain ⟨i, h, hi, rfl⟩ := hcs
 conv=>arg 4;cbv
 refine Sat.draw (w_spec_l7Snap code hc) hi (fun ret ia ha hia hR => ?_)
 obtain ⟨x, rfl, x1, x2⟩ := hR
 conv=>arg 4;cbv
 exact Sat.done ⟨aGSnapshot x, ⟨rfl, x, rfl, x1, x2⟩, .agg rfl (led_cons (.same _) (led_cons (.same _) (led_cons (.sl (tkdr _)) (led_cons (.sl (tkdr _)) led_nil))))⟩
theorem w_spec_DrawTakeSnapshot (code : List Int) (hc : code.length ≤ 1048576) : FnP Pr n_spec_DrawTakeSnapshot [.sl 1 (encI .u8) (fun _ => code)] [] (fun ret outs => outs = [] ∧ ∃ (l : List GEntry) (c : Int), ret = .tup [.sl 7 eGEntry (fun _ => l), .int .i64 (fun _ => c)] ∧ l.length ≤ 17) := by
 refine k_spec_DrawTakeSnapshot.fnq (by kernel_rfl) ?_
 conv=>arg 4;cbv
 refine Sat.newv (w_spec_l1New code hc) (fun cs hcs => ?_)
 obtain ⟨i, h, hi, rfl⟩ := hcs
 conv=>arg 4;cbv
 refine Sat.draw (w_spec_l5Any code hc) hi (fun ret ia ha hia hR => ?_)
 obtain ⟨l, rfl, hl⟩ := hR
 conv=>arg 4;cbv
 (refine Sat.ari64 ndA ndA ?_; conv=>arg 4;cbv)
 refine Sat.draw (w_spec_l1Below code hc _) hia (fun ret ib hb hib hR => ?_)
 obtain ⟨v, rfl, v0, v1⟩ := hR
 conv=>arg 4;cbv
 (refine Sat.ari64 ndA ndA ?_; conv=>arg 4;cbv)
 exact Sat.done ⟨.tup [.sl 7 eGEntry (fun _ => l), .int .i64 (fun _ => v - 1)], ⟨rfl, l, v - 1, rfl, hl⟩, .tup rfl (led_cons (.sl (tkdr _)) (led_cons (.same _) led_nil))⟩
theorem w_impl_JoinChunks_nil : Fn Pr n_impl_JoinChunks [.sl 1 encS (fun _ => []), .int .i64 (fun _ => 0)] (.tup [.str (fun _ => ⟨#[]⟩), .bo false]) := by
 refine k_impl_JoinChunks.fn (by kernel_rfl) ?_
 conv=>arg 4;cbv
 repeat' first
  | (refine Sat.cmp (fun h => ?_) (fun h => ?_) <;> simp only [Cmp.holds] at h <;> (conv=>arg 4;cbv))
  | refine Sat.done ?_
 all_goals first
  | exact .same _
  | (exfalso; simp at h; done)
  | (exfalso; (try simp only [ncast, List.length_nil] at *); omega)
theorem chs_ne {s : ByteArray} {z : Nat} (h40 : chN s z ≤ 40) : ∀ x ∈ chs s z, 1 ≤ x.size := fun x hx => by
 rw [chs, List.mem_map] at hx
 obtain ⟨i, hi, rfl⟩ := hx
 have := List.mem_range.1 hi
 exact (chT_size ⟨by omega, by omega⟩ ⟨by omega, by omega⟩).2
theorem snT_size (x : GSnapshot) : (snT x).size ≤ 300 := by
 by_cases h : snOk x = true
 ·obtain ⟨h1, h2, h3⟩ := snOk_spec h
  have z1 := sI_size9 (n := x.Count) (by omega) (by omega)
  have z2 := sI_size9 (n := x.Digest) (by omega) (by omega)
  have z3 := mchT_size h3
  have e : (⟨#[44]⟩ : ByteArray).size = 1 := rfl
  rw [snT, if_pos h]
  simp only [ByteArray.size_append, e]
  omega
 ·rw [snT, if_neg h]
  exact Nat.zero_le _
theorem snap_mch (x : GSnapshot) : (pSn (snT x)).2 = snOk x ∧ (snOk x = true → (pSn (snT x)).1 = x) ∧ snOk x = !decide (snT x = emT) := by
 rw [pSn_snT]
 have h := snT_ne (x := x)
 cases hx : snOk x
 ·exact ⟨rfl, fun h => (nomatch h), by rw [decide_eq_true (h.2 (by rw [hx]; exact Bool.false_ne_true))]; rfl⟩
 ·exact ⟨rfl, fun _ => rfl, by rw [decide_eq_false (fun e => h.1 e hx)]; rfl⟩
theorem chs_part {s : ByteArray} {z : Nat} (hs : s.size ≤ 1000) (hz : 0 < z) {i : Nat} (hi : i < chN s z) : (partB s z i).size ≤ 1000 ∧ ((((chs s z).length : Nat) : Int) = 1 ∨ 1 ≤ (partB s z i).size) := by
 constructor
 ·show ((s.data.toList.drop (i * z)).take z).length ≤ 1000
  have h6 : s.data.toList.length = s.size := rfl
  rw [List.length_take, List.length_drop, h6]
  omega
 ·rw [chs_len]
  have : 1 ≤ chN s z := Nat.le_max_left _ _
  by_cases hc : chN s z = 1
  ·exact .inl (by rw [hc]; rfl)
  ·exact .inr (part_ne hz hi (by omega))
theorem rcv_at {s : ByteArray} {z : Nat} (hs : s.size ≤ 1000) (hz : 2 ≤ z) (h40 : chN s z ≤ 40) {k : Nat} {t : ByteArray} (hk : (chs s z)[k]? = some t) : Fn Pr n_impl_ReceiveChunk [.sl 1 encS (fun _ => prt (chs s z) (k + 1)), .str (fun _ => t)] (.tup [.sl 1 encS (fun _ => prt (chs s z) k), .bo true]) := by
 have hl := chs_len s z
 have hkl : k < chN s z := by rw [← hl]; exact (List.getElem?_eq_some_iff.1 hk).1
 have hp := chs_part hs (by omega) hkl
 have hat := chs_at hkl
 rw [hk] at hat
 obtain rfl : t = _ := Option.some.inj hat
 rw [← hl] at hk ⊢
 exact w_impl_ReceiveChunk (chs s z) k (partB s z k) (by omega) hk hp.1 hp.2
theorem prt_full (L : List ByteArray) : prt L L.length = [] := if_pos rfl
theorem prt_length {L : List ByteArray} {k : Nat} (h : k ≤ L.length) : (prt L k).length ≤ L.length := by
 by_cases hk : k = L.length
 ·rw [hk, prt_full]
  exact Nat.zero_le _
 ·rw [prt_some hk, prtB_len h]
  exact Nat.le_refl _
theorem mis_at {L : List ByteArray} (hL : L.length ≤ 40) {k : Nat} (hk : k < L.length) : Fn Pr n_impl_MissingChunk [.sl 1 encS (fun _ => prt L (k + 1)), .int .i64 (fun _ => (L.length : Int))] (.int .i64 (fun _ => 0)) := by
 have h1 := prt_length (L := L) (k := k + 1) (by omega)
 have H := w_impl_MissingChunk (prt L (k + 1)) (L.length : Int) (by omega)
 have e : (if (prt L (k + 1)).length = 0 ∧ 0 < (L.length : Int) then 0 else mis (prt L (k + 1))) = 0 := by
  by_cases hf : k + 1 = L.length
  ·rw [hf, prt_full]
   exact if_pos ⟨rfl, by omega⟩
  ·rw [mis_prt hf, ite_self]
 rw [e] at H
 exact H
theorem mis_all {s : ByteArray} {z : Nat} (h40 : chN s z ≤ 40) : Fn Pr n_impl_MissingChunk [.sl 1 encS (fun _ => chs s z), .int .i64 (fun _ => ((chs s z).length : Int))] (.int .i64 (fun _ => -1)) := by
 have hl := chs_len s z
 have h1 : 1 ≤ chN s z := Nat.le_max_left _ _
 have H := w_impl_MissingChunk (chs s z) ((chs s z).length : Int) (by omega)
 rw [if_neg (by omega), mis_none (chs_ne h40)] at H
 exact H
theorem join_all {s : ByteArray} {z : Nat} (hs : s.size ≤ 1000) (hz : 2 ≤ z) (h40 : chN s z ≤ 40) : Fn Pr n_impl_JoinChunks [.sl 1 encS (fun _ => chs s z), .int .i64 (fun _ => ((chs s z).length : Int))] (.tup [.str (fun _ => s), .bo true]) := by
 rw [chs_len]
 exact w_impl_JoinChunks s z hs hz h40
set_option maxHeartbeats 4000000 in
theorem w_laws_FnSnapshots (code_ : List Int) {G : Prop} (F : (code_.length ≤ maxLen ∧ code_.length * 1 ≤ 140737488351232 ∧ ∀ x ∈ code_, (Lit.int .u8 x).wf = true) ∧ G) : Fn Pr n_laws_FnSnapshots [.sl 1 (encI .u8) (fun _ => code_)] (.bo true) := by
 by_cases hc : (1048576 : Int) < code_.length
 ·have hB := w_laws_big code_ F.1.2.1
  rw [decide_eq_true hc] at hB
  refine k_laws_FnSnapshots.fn (by kernel_rfl) ?_
  conv=>arg 4;cbv
  refine Sat.call hB rfl ledA ?_
  conv=>arg 4;cbv
  exact Sat.done (.same _)
 have hB := w_laws_big code_ F.1.2.1
 rw [decide_eq_false hc] at hB
 obtain ⟨v, hv, hA⟩ := w_laws_at0 code_ F.1.2.1 (fun x hx => byte_rng (F.1.2.2 x hx))
 refine k_laws_FnSnapshots.fn (by kernel_rfl) ?_
 conv=>arg 4;cbv
 refine Sat.call hB rfl ledA ?_
 conv=>arg 4;cbv
 clear hB F
 refine Sat.rel (w_spec_DrawTakeSnapshot code_ (by omega)) (fun ret outs hR => ?_)
 obtain ⟨rfl, l, c, rfl, hl⟩ := hR
 have lb : bEntryS l := by unfold bEntryS; omega
 conv=>arg 4;cbv
 have f1 := w_impl_TakeSnapshot l c lb
 have f2 := w_spec_TakeSnapshot l c lb
 have f3 := takeS_b l c
 generalize takeS l c = s at f1 f2 f3
 generalize takeOk l c = b at f1 f2
 have f4 := w_impl_EqualSnapshots s s f3 f3
 rw [decide_eq_true rfl] at f4
 refine Sat.call f1 rfl (led_cons (.sl (tkdr _)) (led_cons (.same _) led_nil)) ?_
 conv=>arg 4;cbv
 refine Sat.call f2 rfl (led_cons (.sl (tkdr _)) (led_cons (.same _) led_nil)) ?_
 cases b <;> (conv=>arg 4;cbv)
 all_goals refine Sat.call f4 rfl (led_cons (.agg rfl (led_cons (.same _) (led_cons (.same _) (led_cons (.sl (tkdr _)) (led_cons (.sl (tkdr _)) led_nil))))) (led_cons (.agg rfl (led_cons (.same _) (led_cons (.same _) (led_cons (.sl (tkdr _)) (led_cons (.sl (tkdr _)) led_nil))))) led_nil)) ?_
 all_goals conv=>arg 4;cbv
 all_goals clear f1 f2 f3 f4
 all_goals refine Sat.rel (w_spec_DrawSnapshotText code_ (by omega)) (fun ret outs hR => ?_)
 all_goals obtain ⟨rfl, x, rfl, x1, x2⟩ := hR
 all_goals have xb : bSnapshot x := ⟨by show x.Machine.Objects.length * 8 ≤ _; omega, by show x.Machine.Sessions.length * 32 ≤ _; omega⟩
 all_goals have p1 := w_impl_SnapshotText x xb
 all_goals have p2 := w_spec_SnapshotText x xb
 all_goals have hsz := snT_size x
 all_goals have p3 := w_impl_ParseSnapshot (snT x) (by omega)
 all_goals obtain ⟨p4, p5, p6⟩ := snap_mch x
 all_goals have p7 := w_impl_EqualSnapshots x x xb xb
 all_goals rw [decide_eq_true rfl] at p7
 all_goals generalize snT x = T at *
 all_goals generalize pSn T = y at *
 all_goals obtain ⟨y, r⟩ := y
 all_goals obtain rfl : r = snOk x := p4
 all_goals generalize snOk x = r at *
 all_goals conv=>arg 4;cbv
 all_goals refine Sat.call p1 rfl (led_cons (.agg rfl (led_cons (.same _) (led_cons (.same _) (led_cons (.sl (tkdr _)) (led_cons (.sl (tkdr _)) led_nil))))) led_nil) ?_
 all_goals conv=>arg 4;cbv
 all_goals refine Sat.call p3 rfl ledA ?_
 all_goals conv=>arg 4;cbv
 all_goals refine Sat.call p2 rfl (led_cons (.agg rfl (led_cons (.same _) (led_cons (.same _) (led_cons (.sl (tkdr _)) (led_cons (.sl (tkdr _)) led_nil))))) led_nil) ?_
 all_goals dsimp only at p3 p5
 all_goals have pT : r = true ↔ ¬ T = emT := by rw [p6, Bool.not_eq_true', decide_eq_false_iff_not]
 all_goals clear p6
 all_goals cases r
 all_goals try obtain rfl : y = x := p5 rfl
 all_goals conv=>arg 4;cbv
 all_goals refine Sat.test (fun _ => ?_) (fun h => absurd rfl (of_decide_eq_false h))
 all_goals conv=>arg 4;cbv
 all_goals refine Sat.test (fun h => ?_) (fun h => ?_)
 all_goals first
  | (exfalso; exact Bool.false_ne_true (pT.2 (of_decide_eq_false h)))
  | (exfalso; exact pT.1 rfl (of_decide_eq_true h))
  | skip
 all_goals clear h p1 p2 p3 p5
 all_goals obtain ⟨n, rfl⟩ : ∃ n : Nat, v = n := ⟨v.toNat, by omega⟩
 all_goals obtain ⟨z, hz⟩ : ∃ z : Nat, z = 2 + n % 7 := ⟨_, rfl⟩
 all_goals have hz2 : 2 + (n : Int).tmod 7 = (z : Int) := by rw [hz, Int.tmod_eq_emod_of_nonneg (by omega)]; omega
 all_goals have WE := w_impl_EncodeChunks T z (by omega) ⟨by omega, by omega⟩
 all_goals conv=>arg 4;cbv
 all_goals repeat' first
  | (refine Sat.call p7 rfl (led_cons (.agg rfl (led_cons (.same _) (led_cons (.same _) (led_cons (.sl (tkdr _)) (led_cons (.sl (tkdr _)) led_nil))))) (led_cons (.agg rfl (led_cons (.same _) (led_cons (.same _) (led_cons (.sl (tkdr _)) (led_cons (.sl (tkdr _)) led_nil))))) led_nil)) ?_; conv=>arg 4;cbv)
  | (refine Sat.call hA rfl ledA ?_; conv=>arg 4;cbv)
  | (refine Sat.need ndA ?_; conv=>arg 4;cbv)
  | (refine Sat.ari64 ndA ndA ?_; conv=>arg 4;cbv)
 all_goals clear p7 xb x1 x2
 all_goals refine Sat.call WE rfl (led_cons (.str rfl) (led_cons (.int hz2) led_nil)) ?_
 all_goals by_cases h40 : chN T z ≤ 40
 iterate 4
  ·rw [if_pos h40]
   have hl := chs_len T z
   have h1 : 1 ≤ chN T z := Nat.le_max_left _ _
   have RC : ∀ (k : Nat) (t : ByteArray), (chs T z)[k]? = some t → _ := fun k t hk => rcv_at (s := T) (z := z) (by omega) (by omega) h40 hk
   have MC := fun k : Nat => @mis_at (chs T z) (by omega) k
   have MA := mis_all (s := T) (z := z) h40
   have JA := join_all (s := T) (z := z) (by omega) (by omega) h40
   generalize chs T z = L at *
   conv=>arg 4;cbv
   repeat' first
    | (refine Sat.need ndA ?_; conv=>arg 4;cbv)
    | (refine Sat.ari64 ndA ndA ?_; conv=>arg 4;cbv)
   refine Sat.loopP (ι := Nat) (fun k => [(15, .ref 1249 (fun _ => 0) (fun _ => (prt L k).length)), (16, .int .i64 (fun _ => (k : Int) - 1))]) (fun k => [(1249, .row 1 encS (fun _ => prt L k) false)]) (fun k => k ≤ L.length) (fun k => k) L.length ?_ (Nat.le_refl _) (fun k hk => ?_)
   ·rw [prt_full]
    refine les_of ?_ ?_ rfl
    iterate 2 (focus repeat' (first | exact trivial | refine And.intro ?_ ?_ | exact levA | refine lev_cons ?_ ?_ | refine LeV.agg rfl ?_ | exact Nat.le_of_ble_eq_true rfl | exact Or.inl ⟨_, rfl, .row rfl⟩ | refine Or.inl ⟨_, rfl, .row ?_⟩ | refine Or.inl ⟨_, rfl, .lit rfl ?_⟩ | exact Or.inr ⟨rfl, rfl⟩ | (first | exact .empref (fun h => nomatch h) rfl rfl rfl | rfl)))
   conv=>arg 4;cbv
   refine Sat.cmp (fun h5 => ?_) (fun h5 => ?_) <;> simp only [Cmp.holds] at h5
   ·obtain ⟨j, rfl⟩ : ∃ j, k = j + 1 := ⟨k - 1, by (try simp only [ncast] at h5); omega⟩
    obtain ⟨t, hat⟩ : ∃ t, L[j]? = some t := ⟨L[j]'hk, List.getElem?_eq_getElem hk⟩
    have R1 := RC j t hat
    have M1 := MC j hk
    generalize hp : prt L (j + 1) = p at *
    generalize hq : prt L j = q at *
    conv=>arg 4;cbv
    repeat' first
     | (refine Sat.idxk (x := t) (show L[0 + (((j + 1 : Nat) : Int) - 1).toNat]? = some t by rw [show 0 + (((j + 1 : Nat) : Int) - 1).toNat = j by omega]; exact hat) ?_; conv=>arg 4;cbv)
     | (refine Sat.need (by (try dsimp only); (try simp only [ncast]); omega) ?_; conv=>arg 4;cbv)
     | (refine Sat.call R1 rfl (led_cons (.sl (tkdr _)) (led_cons (.same _) led_nil)) ?_; conv=>arg 4;cbv)
     | (refine Sat.call M1 rfl (led_cons (.sl (tkdr _)) (led_cons (.same _) led_nil)) ?_; conv=>arg 4;cbv)
     | (refine Sat.cmp (fun h => ?_) (fun h => absurd rfl h) <;> (conv=>arg 4;cbv))
     | (refine Sat.cmp (fun h => absurd rfl h) (fun h => ?_) <;> (conv=>arg 4;cbv))
     | (refine Sat.ari64 ndA ndA ?_; conv=>arg 4;cbv)
    subst hq
    refine Sat.nextR 1489 1249 j rfl rfl rfl rfl ?_ (by omega) (by (try dsimp only); omega)
    refine les_of ?_ ?_ rfl
    iterate 2 (focus repeat' (first | exact trivial | refine And.intro ?_ ?_ | exact levA | refine lev_cons ?_ ?_ | refine LeV.agg rfl ?_ | exact Nat.le_of_ble_eq_true rfl | exact Or.inl ⟨_, rfl, .row rfl⟩ | refine Or.inl ⟨_, rfl, .row ?_⟩ | refine Or.inl ⟨_, rfl, .lit rfl ?_⟩ | exact Or.inr ⟨rfl, rfl⟩ | (first | exact .int (by (try dsimp only); (try simp only [ncast]); omega) | exact .int rfl | rfl)))
   ·obtain rfl : k = 0 := by (try simp only [ncast] at h5); omega
    rw [prt_zero (show 0 < L.length by omega)]
    conv=>arg 4;cbv
    repeat' first
     | (refine Sat.pop ?_; conv=>arg 4;cbv)
     | (refine Sat.call JA rfl (led_cons (.sl (tkdr _)) (led_cons (.same _) led_nil)) ?_; conv=>arg 4;cbv)
     | (refine Sat.call MA rfl (led_cons (.sl (tkdr _)) (led_cons (.same _) led_nil)) ?_; conv=>arg 4;cbv)
     | (refine Sat.test (fun h => ?_) (fun h => absurd rfl (of_decide_eq_false h)) <;> (conv=>arg 4;cbv))
     | (refine Sat.cmp (fun h => ?_) (fun h => ?_) <;> simp only [Cmp.holds] at h <;> (conv=>arg 4;cbv))
     | refine Sat.done ?_
    all_goals first
     | exact .same _
     | exact absurd trivial h
  ·rw [if_neg h40]
   conv=>arg 4;cbv
   repeat' first
    | (refine Sat.need ndA ?_; conv=>arg 4;cbv)
    | (refine Sat.ari64 ndA ndA ?_; conv=>arg 4;cbv)
   refine Sat.loopP (ι := Nat) (fun _ => []) (fun _ => []) (fun _ => True) (fun i => i) 0 ?_ trivial (fun i _ => ?_)
   ·exact lesA
   conv=>arg 4;cbv
   refine Sat.cmp (fun h5 => ?_) (fun h5 => ?_) <;> simp only [Cmp.holds] at h5
   ·exfalso
    (try simp only [ncast] at h5); (try simp only [List.length_nil] at h5); omega
   conv=>arg 4;cbv
   repeat' first
    | (refine Sat.pop ?_; conv=>arg 4;cbv)
    | (refine Sat.call w_impl_JoinChunks_nil rfl ledA ?_; conv=>arg 4;cbv)
    | (refine Sat.cmp (fun h => ?_) (fun h => absurd rfl h) <;> (conv=>arg 4;cbv))
   exact Sat.done (.same _)
end Go.V.T
