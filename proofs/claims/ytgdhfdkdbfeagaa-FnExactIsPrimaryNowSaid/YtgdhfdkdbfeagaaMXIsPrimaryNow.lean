/- The short code of the functions that FnExactIsPrimaryNow reaches, held against the program. Conditions: none. -/
import Derived.Test.YtgdhfdkdbfeagaaV5
import Derived.Test.YtgdhfdkdbfeagaaProg
namespace Go.V.T
open Go Go.V
noncomputable abbrev Pr := Go.Proofs.Try.prog
def mu : Nat → Bool := fun n => Nat.beq n 16 || Nat.beq n 17 || Nat.beq n 42 || Nat.beq n 43 || Nat.beq n 57 || Nat.beq n 112 || Nat.beq n 121 || Nat.beq n 122 || Nat.beq n 139 || Nat.beq n 145 || Nat.beq n 146 || Nat.beq n 147 || Nat.beq n 149 || Nat.beq n 150 || Nat.beq n 152 || Nat.beq n 153 || Nat.beq n 156
theorem hm : Pr.follows .mixedOrders = true := by kernel_rfl
def m_laws_FnExactIsPrimaryNow_1 : Unit → MCode := fun _ => .region [] [⟨(some 2), .box (.tmp 0), none, []⟩,
    ⟨(some 4), .mv (.const (.bool false)), none, []⟩] [1, 2]
def m_laws_FnExactIsPrimaryNow_2 : Unit → MCode := fun _ => .region [] [⟨(some 5), .mv (.const (.int .i64 1048576)), none, []⟩] [1, 2, 5]
def m_laws_FnExactIsPrimaryNow_3 : Unit → MCode := fun _ => .region [] [⟨(some 9), .ld (.tmp 2) 12 true, none, []⟩,
    ⟨(some 10), .mv (.tmp 5), none, []⟩,
    ⟨(some 11), .call 45 [(.tmp 9), (.tmp 10)], none, []⟩,
    ⟨(some 5), .mv (.tmp 11), none, []⟩] [1, 2, 5]
def m_laws_FnExactIsPrimaryNow_4 : Unit → MCode := fun _ => .region [] [⟨(some 12), .mv (.tmp 5), none, []⟩,
    ⟨(some 13), .bin .lss (.tmp 12) (.const (.int .i64 0)), none, []⟩] [1, 2, 13]
def m_laws_FnExactIsPrimaryNow_5 : Unit → MCode := fun _ => .region [] [⟨(some 4), .mv (.const (.bool true)), none, []⟩] [4]
def m_laws_FnExactIsPrimaryNow_6 : Unit → MCode := fun _ => .seq m_laws_FnExactIsPrimaryNow_5 (fun _ => .ret)
def m_laws_FnExactIsPrimaryNow_7 : Unit → MCode := fun _ => .cond (.tmp 13) m_laws_FnExactIsPrimaryNow_6 (fun _ => .skip)
def m_laws_FnExactIsPrimaryNow_8 : Unit → MCode := fun _ => .seq m_laws_FnExactIsPrimaryNow_4 m_laws_FnExactIsPrimaryNow_7
def m_laws_FnExactIsPrimaryNow_9 : Unit → MCode := fun _ => .region [] [⟨(some 14), .ld (.tmp 2) 12 true, none, []⟩,
    ⟨(some 15), .call 47 [(.tmp 14)], none, []⟩,
    ⟨(some 16), .mv (.tmp 1), none, []⟩,
    ⟨(some 17), .call 50 [(.tmp 15), (.tmp 16)], none, []⟩,
    ⟨(some 6), .mv (.tmp 17), none, []⟩] [1, 2, 6]
def m_laws_FnExactIsPrimaryNow_10 : Unit → MCode := fun _ => .region [] [⟨(some 18), .ld (.tmp 2) 12 true, none, []⟩,
    ⟨(some 19), .call 47 [(.tmp 18)], none, []⟩,
    ⟨(some 7), .alloc [.bool false, .bool false, .int .i64 0, .int .i64 0, .int .i64 0, .int .i64 0, .slice none 0 0, .slice none 0 0, .int .i64 0, .slice none 0 0, .int .i64 0, .slice none 0 0], none, []⟩,
    ⟨none, .sto (.tmp 7) (.tmp 19) 12, none, []⟩] [1, 2, 6, 7]
def m_laws_FnExactIsPrimaryNow_11 : Unit → MCode := fun _ => .region [] [⟨(some 20), .ld (.tmp 7) 12 true, none, []⟩,
    ⟨(some 21), .mv (.tmp 1), none, []⟩,
    ⟨(some 22), .call 51 [(.tmp 20), (.tmp 21)], none, []⟩,
    ⟨(some 8), .mv (.tmp 22), none, []⟩] [2, 6, 7, 8]
def m_laws_FnExactIsPrimaryNow_12 : Unit → MCode := fun _ => .region [] [⟨(some 23), .mv (.tmp 8), none, []⟩,
    ⟨(some 24), .mv (.tmp 6), none, []⟩,
    ⟨(some 25), .bbin .neq (.tmp 23) (.tmp 24), none, []⟩] [2, 7, 25]
def m_laws_FnExactIsPrimaryNow_13 : Unit → MCode := fun _ => .region [] [⟨(some 4), .mv (.const (.bool false)), none, []⟩] [4]
def m_laws_FnExactIsPrimaryNow_14 : Unit → MCode := fun _ => .seq m_laws_FnExactIsPrimaryNow_13 (fun _ => .ret)
def m_laws_FnExactIsPrimaryNow_15 : Unit → MCode := fun _ => .cond (.tmp 25) m_laws_FnExactIsPrimaryNow_14 (fun _ => .skip)
def m_laws_FnExactIsPrimaryNow_16 : Unit → MCode := fun _ => .seq m_laws_FnExactIsPrimaryNow_12 m_laws_FnExactIsPrimaryNow_15
def m_laws_FnExactIsPrimaryNow_17 : Unit → MCode := fun _ => .region [] [⟨(some 26), .ld (.tmp 7) 12 true, none, []⟩,
    ⟨(some 27), .ld (.tmp 2) 12 true, none, [0]⟩,
    ⟨(some 28), .call 47 [(.tmp 27)], none, [0]⟩,
    ⟨(some 29), .call 49 [(.tmp 26), (.tmp 28)], none, []⟩,
    ⟨(some 30), .not (.tmp 29), none, []⟩] [30]
def m_laws_FnExactIsPrimaryNow_18 : Unit → MCode := fun _ => .region [] [⟨(some 4), .mv (.const (.bool false)), none, []⟩] [4]
def m_laws_FnExactIsPrimaryNow_19 : Unit → MCode := fun _ => .seq m_laws_FnExactIsPrimaryNow_18 (fun _ => .ret)
def m_laws_FnExactIsPrimaryNow_20 : Unit → MCode := fun _ => .cond (.tmp 30) m_laws_FnExactIsPrimaryNow_19 (fun _ => .skip)
def m_laws_FnExactIsPrimaryNow_21 : Unit → MCode := fun _ => .seq m_laws_FnExactIsPrimaryNow_17 m_laws_FnExactIsPrimaryNow_20
def m_laws_FnExactIsPrimaryNow_22 : Unit → MCode := fun _ => .region [] [⟨(some 4), .mv (.const (.bool true)), none, []⟩] [4]
def m_laws_FnExactIsPrimaryNow_23 : Unit → MCode := fun _ => .seq m_laws_FnExactIsPrimaryNow_22 (fun _ => .ret)
def m_laws_FnExactIsPrimaryNow_24 : Unit → MCode := fun _ => .seq m_laws_FnExactIsPrimaryNow_21 m_laws_FnExactIsPrimaryNow_23
def m_laws_FnExactIsPrimaryNow_25 : Unit → MCode := fun _ => .seq m_laws_FnExactIsPrimaryNow_16 m_laws_FnExactIsPrimaryNow_24
def m_laws_FnExactIsPrimaryNow_26 : Unit → MCode := fun _ => .seq m_laws_FnExactIsPrimaryNow_11 m_laws_FnExactIsPrimaryNow_25
def m_laws_FnExactIsPrimaryNow_27 : Unit → MCode := fun _ => .seq m_laws_FnExactIsPrimaryNow_10 m_laws_FnExactIsPrimaryNow_26
def m_laws_FnExactIsPrimaryNow_28 : Unit → MCode := fun _ => .seq m_laws_FnExactIsPrimaryNow_9 m_laws_FnExactIsPrimaryNow_27
def m_laws_FnExactIsPrimaryNow_29 : Unit → MCode := fun _ => .seq m_laws_FnExactIsPrimaryNow_8 m_laws_FnExactIsPrimaryNow_28
def m_laws_FnExactIsPrimaryNow_30 : Unit → MCode := fun _ => .seq m_laws_FnExactIsPrimaryNow_3 m_laws_FnExactIsPrimaryNow_29
def m_laws_FnExactIsPrimaryNow_31 : Unit → MCode := fun _ => .seq m_laws_FnExactIsPrimaryNow_2 m_laws_FnExactIsPrimaryNow_30
def m_laws_FnExactIsPrimaryNow_32 : Unit → MCode := fun _ => .seq m_laws_FnExactIsPrimaryNow_1 m_laws_FnExactIsPrimaryNow_31
def m_laws_FnExactIsPrimaryNow : MCode := m_laws_FnExactIsPrimaryNow_32 ()
def h_laws_FnExactIsPrimaryNow : Hints := [(0, [1, 2], [], [], []), (1, [1, 2, 5], [], [], []), (2, [1, 2, 5], [], [], []), (3, [1, 2, 13], [], [], []), (4, [4], [], [], []), (5, [1, 2, 6], [], [], []), (6, [1, 2, 6, 7], [], [], []), (7, [2, 6, 7, 8], [], [], []), (8, [2, 7, 25], [], [], []), (9, [4], [], [], []), (10, [30], [[], [0], [0]], [], []), (11, [4], [], [], []), (12, [4], [], [], [])]
def r_laws_FnExactIsPrimaryNow : List RV := [.t 4]
abbrev n_laws_FnExactIsPrimaryNow : Nat := 7
theorem k_laws_FnExactIsPrimaryNow : Known Pr mu n_laws_FnExactIsPrimaryNow m_laws_FnExactIsPrimaryNow r_laws_FnExactIsPrimaryNow Go.Proofs.Try.f7.ntmps := .of h_laws_FnExactIsPrimaryNow hm Go.Proofs.Try.func7 (by kernel_rfl) (by kernel_rfl) (by kernel_rfl) (by kernel_rfl)
def m_laws_toIntS_1 : Unit → MCode := fun _ => .region [] [⟨(some 2), .mv (.const (.slice none 0 0)), none, []⟩] [0]
def m_laws_toIntS_2 : Unit → MCode := fun _ => .region [] [⟨(some 5), .mv (.tmp 0), none, []⟩,
    ⟨(some 6), .len false (.tmp 5), none, []⟩,
    ⟨(some 7), .mks 1 8 [.int .i64 0] (.tmp 6) (.tmp 6), none, []⟩,
    ⟨(some 3), .mv (.tmp 7), none, []⟩] [0, 3]
def m_laws_toIntS_3 : Unit → MCode := fun _ => .region [] [⟨(some 4), .mv (.const (.int .i64 0)), none, []⟩] [0, 3, 4]
def m_laws_toIntS_4 : Unit → MCode := fun _ => .region [] [⟨(some 8), .mv (.tmp 4), none, []⟩,
    ⟨(some 9), .mv (.tmp 0), none, []⟩,
    ⟨(some 10), .len false (.tmp 9), none, []⟩,
    ⟨(some 11), .bin .lss (.tmp 8) (.tmp 10), none, []⟩] [0, 3, 4, 11]
def m_laws_toIntS_5 : Unit → MCode := fun _ => .cond (.tmp 11) (fun _ => .skip) (fun _ => .exit 0)
def m_laws_toIntS_6 : Unit → MCode := fun _ => .seq m_laws_toIntS_4 m_laws_toIntS_5
def m_laws_toIntS_7 : Unit → MCode := fun _ => .region [] [⟨(some 14), .mv (.tmp 3), none, []⟩,
    ⟨(some 15), .mv (.tmp 4), none, []⟩,
    ⟨(some 16), .mv (.tmp 0), none, []⟩,
    ⟨(some 17), .mv (.tmp 4), none, []⟩,
    ⟨(some 18), .ia (.tmp 16) (.tmp 17) 1, none, []⟩,
    ⟨(some 19), .ld (.tmp 18) 1 false, none, []⟩,
    ⟨(some 20), .ia (.tmp 14) (.tmp 15) 1, none, []⟩,
    ⟨none, .sto (.tmp 20) (.tmp 19) 1, none, []⟩] [0, 3, 4]
def m_laws_toIntS_8 : Unit → MCode := fun _ => .block 1 m_laws_toIntS_7
def m_laws_toIntS_9 : Unit → MCode := fun _ => .region [] [⟨(some 12), .mv (.tmp 4), none, []⟩,
    ⟨(some 13), .bin .add (.tmp 12) (.const (.int .i64 1)), none, []⟩,
    ⟨(some 4), .mv (.tmp 13), none, []⟩] [0, 3, 4]
def m_laws_toIntS_10 : Unit → MCode := fun _ => .seq m_laws_toIntS_8 m_laws_toIntS_9
def m_laws_toIntS_11 : Unit → MCode := fun _ => .seq m_laws_toIntS_6 m_laws_toIntS_10
def m_laws_toIntS_12 : Unit → MCode := fun _ => .loop m_laws_toIntS_11
def m_laws_toIntS_13 : Unit → MCode := fun _ => .block 0 m_laws_toIntS_12
def m_laws_toIntS_14 : Unit → MCode := fun _ => .seq m_laws_toIntS_3 m_laws_toIntS_13
def m_laws_toIntS_15 : Unit → MCode := fun _ => .region [] [⟨(some 21), .mv (.tmp 3), none, []⟩,
    ⟨(some 2), .mv (.tmp 21), none, []⟩] [2]
def m_laws_toIntS_16 : Unit → MCode := fun _ => .seq m_laws_toIntS_15 (fun _ => .ret)
def m_laws_toIntS_17 : Unit → MCode := fun _ => .seq m_laws_toIntS_14 m_laws_toIntS_16
def m_laws_toIntS_18 : Unit → MCode := fun _ => .seq m_laws_toIntS_2 m_laws_toIntS_17
def m_laws_toIntS_19 : Unit → MCode := fun _ => .seq m_laws_toIntS_1 m_laws_toIntS_18
def m_laws_toIntS : MCode := m_laws_toIntS_19 ()
def h_laws_toIntS : Hints := [(0, [0], [], [], []), (1, [0, 3], [], [], []), (2, [0, 3, 4], [], [], []), (3, [0, 3, 4, 11], [], [], []), (5, [0, 3, 4], [], [], []), (4, [0, 3, 4], [], [], []), (6, [2], [], [], [])]
def r_laws_toIntS : List RV := [.t 2]
abbrev n_laws_toIntS : Nat := 12
theorem k_laws_toIntS : Known Pr mu n_laws_toIntS m_laws_toIntS r_laws_toIntS Go.Proofs.Try.f12.ntmps := .of h_laws_toIntS hm Go.Proofs.Try.func12 (by kernel_rfl) (by kernel_rfl) (by kernel_rfl) (by kernel_rfl)
def m_laws_eqIntS_1 : Unit → MCode := fun _ => .region [] [⟨(some 4), .mv (.const (.bool false)), none, []⟩] [0, 1]
def m_laws_eqIntS_2 : Unit → MCode := fun _ => .region [] [⟨(some 6), .mv (.tmp 0), none, []⟩,
    ⟨(some 7), .len false (.tmp 6), none, []⟩,
    ⟨(some 8), .mv (.tmp 1), none, []⟩,
    ⟨(some 9), .len false (.tmp 8), none, []⟩,
    ⟨(some 10), .bin .neq (.tmp 7) (.tmp 9), none, []⟩] [0, 1, 10]
def m_laws_eqIntS_3 : Unit → MCode := fun _ => .region [] [⟨(some 4), .mv (.const (.bool false)), none, []⟩] [4]
def m_laws_eqIntS_4 : Unit → MCode := fun _ => .seq m_laws_eqIntS_3 (fun _ => .ret)
def m_laws_eqIntS_5 : Unit → MCode := fun _ => .cond (.tmp 10) m_laws_eqIntS_4 (fun _ => .skip)
def m_laws_eqIntS_6 : Unit → MCode := fun _ => .seq m_laws_eqIntS_2 m_laws_eqIntS_5
def m_laws_eqIntS_7 : Unit → MCode := fun _ => .region [] [⟨(some 5), .mv (.const (.int .i64 0)), none, []⟩] [0, 1, 5]
def m_laws_eqIntS_8 : Unit → MCode := fun _ => .region [] [⟨(some 11), .mv (.tmp 5), none, []⟩,
    ⟨(some 12), .mv (.tmp 0), none, []⟩,
    ⟨(some 13), .len false (.tmp 12), none, []⟩,
    ⟨(some 14), .bin .lss (.tmp 11) (.tmp 13), none, []⟩] [0, 1, 5, 14]
def m_laws_eqIntS_9 : Unit → MCode := fun _ => .cond (.tmp 14) (fun _ => .skip) (fun _ => .exit 0)
def m_laws_eqIntS_10 : Unit → MCode := fun _ => .seq m_laws_eqIntS_8 m_laws_eqIntS_9
def m_laws_eqIntS_11 : Unit → MCode := fun _ => .region [] [⟨(some 17), .mv (.tmp 0), none, []⟩,
    ⟨(some 18), .mv (.tmp 5), none, []⟩,
    ⟨(some 19), .ia (.tmp 17) (.tmp 18) 1, none, []⟩,
    ⟨(some 20), .ld (.tmp 19) 1 false, none, []⟩,
    ⟨(some 21), .mv (.tmp 1), none, []⟩,
    ⟨(some 22), .mv (.tmp 5), none, []⟩,
    ⟨(some 23), .ia (.tmp 21) (.tmp 22) 1, none, [0, 1, 2, 3]⟩,
    ⟨(some 24), .ld (.tmp 23) 1 false, none, [0, 1, 2, 3]⟩,
    ⟨(some 25), .bin .neq (.tmp 20) (.tmp 24), none, []⟩] [0, 1, 5, 25]
def m_laws_eqIntS_12 : Unit → MCode := fun _ => .region [] [⟨(some 4), .mv (.const (.bool false)), none, []⟩] [4]
def m_laws_eqIntS_13 : Unit → MCode := fun _ => .seq m_laws_eqIntS_12 (fun _ => .ret)
def m_laws_eqIntS_14 : Unit → MCode := fun _ => .cond (.tmp 25) m_laws_eqIntS_13 (fun _ => .skip)
def m_laws_eqIntS_15 : Unit → MCode := fun _ => .seq m_laws_eqIntS_11 m_laws_eqIntS_14
def m_laws_eqIntS_16 : Unit → MCode := fun _ => .block 1 m_laws_eqIntS_15
def m_laws_eqIntS_17 : Unit → MCode := fun _ => .region [] [⟨(some 15), .mv (.tmp 5), none, []⟩,
    ⟨(some 16), .bin .add (.tmp 15) (.const (.int .i64 1)), none, []⟩,
    ⟨(some 5), .mv (.tmp 16), none, []⟩] [0, 1, 5]
def m_laws_eqIntS_18 : Unit → MCode := fun _ => .seq m_laws_eqIntS_16 m_laws_eqIntS_17
def m_laws_eqIntS_19 : Unit → MCode := fun _ => .seq m_laws_eqIntS_10 m_laws_eqIntS_18
def m_laws_eqIntS_20 : Unit → MCode := fun _ => .loop m_laws_eqIntS_19
def m_laws_eqIntS_21 : Unit → MCode := fun _ => .block 0 m_laws_eqIntS_20
def m_laws_eqIntS_22 : Unit → MCode := fun _ => .seq m_laws_eqIntS_7 m_laws_eqIntS_21
def m_laws_eqIntS_23 : Unit → MCode := fun _ => .region [] [⟨(some 4), .mv (.const (.bool true)), none, []⟩] [4]
def m_laws_eqIntS_24 : Unit → MCode := fun _ => .seq m_laws_eqIntS_23 (fun _ => .ret)
def m_laws_eqIntS_25 : Unit → MCode := fun _ => .seq m_laws_eqIntS_22 m_laws_eqIntS_24
def m_laws_eqIntS_26 : Unit → MCode := fun _ => .seq m_laws_eqIntS_6 m_laws_eqIntS_25
def m_laws_eqIntS_27 : Unit → MCode := fun _ => .seq m_laws_eqIntS_1 m_laws_eqIntS_26
def m_laws_eqIntS : MCode := m_laws_eqIntS_27 ()
def h_laws_eqIntS : Hints := [(0, [0, 1], [], [], []), (1, [0, 1, 10], [], [], []), (2, [4], [], [], []), (3, [0, 1, 5], [], [], []), (4, [0, 1, 5, 14], [], [], []), (6, [0, 1, 5, 25], [[], [], [], [], [], [], [0, 1, 2, 3], [0, 1, 2, 3]], [], []), (7, [4], [], [], []), (5, [0, 1, 5], [], [], []), (8, [4], [], [], [])]
def r_laws_eqIntS : List RV := [.t 4]
abbrev n_laws_eqIntS : Nat := 14
theorem k_laws_eqIntS : Known Pr mu n_laws_eqIntS m_laws_eqIntS r_laws_eqIntS Go.Proofs.Try.f14.ntmps := .of h_laws_eqIntS hm Go.Proofs.Try.func14 (by kernel_rfl) (by kernel_rfl) (by kernel_rfl) (by kernel_rfl)
def m_spec_AreServers_1 : Unit → MCode := fun _ => .region [] [⟨(some 2), .mv (.const (.bool false)), none, []⟩] [0]
def m_spec_AreServers_2 : Unit → MCode := fun _ => .region [] [⟨(some 3), .mv (.const (.int .i64 0)), none, []⟩] [0, 3]
def m_spec_AreServers_3 : Unit → MCode := fun _ => .region [] [⟨(some 4), .mv (.tmp 3), none, []⟩,
    ⟨(some 5), .mv (.tmp 0), none, []⟩,
    ⟨(some 6), .len false (.tmp 5), none, []⟩,
    ⟨(some 7), .bin .lss (.tmp 4) (.tmp 6), none, []⟩] [0, 3, 7]
def m_spec_AreServers_4 : Unit → MCode := fun _ => .cond (.tmp 7) (fun _ => .skip) (fun _ => .exit 0)
def m_spec_AreServers_5 : Unit → MCode := fun _ => .seq m_spec_AreServers_3 m_spec_AreServers_4
def m_spec_AreServers_6 : Unit → MCode := fun _ => .region [] [⟨(some 10), .mv (.tmp 0), none, []⟩,
    ⟨(some 11), .mv (.tmp 3), none, []⟩,
    ⟨(some 12), .ia (.tmp 10) (.tmp 11) 1, none, []⟩,
    ⟨(some 13), .ld (.tmp 12) 1 false, none, []⟩,
    ⟨(some 14), .call 59 [(.tmp 13), (.const (.int .i64 0)), (.const (.int .i64 4))], none, []⟩,
    ⟨(some 15), .not (.tmp 14), none, []⟩,
    ⟨(some 16), .mv (.tmp 15), none, []⟩,
    ⟨(some 17), .mv (.tmp 3), (some (16, false)), []⟩,
    ⟨(some 18), .bin .gtr (.tmp 17) (.const (.int .i64 0)), (some (16, false)), []⟩,
    ⟨(some 19), .mv (.tmp 18), (some (16, false)), []⟩,
    ⟨(some 20), .mv (.tmp 0), (some (19, true)), []⟩,
    ⟨(some 21), .mv (.tmp 3), (some (19, true)), []⟩,
    ⟨(some 22), .bin .sub (.tmp 21) (.const (.int .i64 1)), (some (19, true)), []⟩,
    ⟨(some 23), .ia (.tmp 20) (.tmp 22) 1, (some (19, true)), []⟩,
    ⟨(some 24), .ld (.tmp 23) 1 false, (some (19, true)), []⟩,
    ⟨(some 25), .mv (.tmp 0), (some (19, true)), []⟩,
    ⟨(some 26), .mv (.tmp 3), (some (19, true)), []⟩,
    ⟨(some 27), .ia (.tmp 25) (.tmp 26) 1, (some (19, true)), [10, 11, 12, 13, 14]⟩,
    ⟨(some 28), .ld (.tmp 27) 1 false, (some (19, true)), [10, 11, 12, 13, 14]⟩,
    ⟨(some 29), .bin .geq (.tmp 24) (.tmp 28), (some (19, true)), []⟩,
    ⟨(some 30), .pick (.tmp 19) (.tmp 29) (.const (.bool false)), (some (16, false)), []⟩,
    ⟨(some 31), .pick (.tmp 16) (.const (.bool true)) (.tmp 30), none, []⟩] [0, 3, 31]
def m_spec_AreServers_7 : Unit → MCode := fun _ => .region [] [⟨(some 2), .mv (.const (.bool false)), none, []⟩] [2]
def m_spec_AreServers_8 : Unit → MCode := fun _ => .seq m_spec_AreServers_7 (fun _ => .ret)
def m_spec_AreServers_9 : Unit → MCode := fun _ => .cond (.tmp 31) m_spec_AreServers_8 (fun _ => .skip)
def m_spec_AreServers_10 : Unit → MCode := fun _ => .seq m_spec_AreServers_6 m_spec_AreServers_9
def m_spec_AreServers_11 : Unit → MCode := fun _ => .block 1 m_spec_AreServers_10
def m_spec_AreServers_12 : Unit → MCode := fun _ => .region [] [⟨(some 8), .mv (.tmp 3), none, []⟩,
    ⟨(some 9), .bin .add (.tmp 8) (.const (.int .i64 1)), none, []⟩,
    ⟨(some 3), .mv (.tmp 9), none, []⟩] [0, 3]
def m_spec_AreServers_13 : Unit → MCode := fun _ => .seq m_spec_AreServers_11 m_spec_AreServers_12
def m_spec_AreServers_14 : Unit → MCode := fun _ => .seq m_spec_AreServers_5 m_spec_AreServers_13
def m_spec_AreServers_15 : Unit → MCode := fun _ => .loop m_spec_AreServers_14
def m_spec_AreServers_16 : Unit → MCode := fun _ => .block 0 m_spec_AreServers_15
def m_spec_AreServers_17 : Unit → MCode := fun _ => .seq m_spec_AreServers_2 m_spec_AreServers_16
def m_spec_AreServers_18 : Unit → MCode := fun _ => .region [] [⟨(some 2), .mv (.const (.bool true)), none, []⟩] [2]
def m_spec_AreServers_19 : Unit → MCode := fun _ => .seq m_spec_AreServers_18 (fun _ => .ret)
def m_spec_AreServers_20 : Unit → MCode := fun _ => .seq m_spec_AreServers_17 m_spec_AreServers_19
def m_spec_AreServers_21 : Unit → MCode := fun _ => .seq m_spec_AreServers_1 m_spec_AreServers_20
def m_spec_AreServers : MCode := m_spec_AreServers_21 ()
def h_spec_AreServers : Hints := [(0, [0], [], [], []), (1, [0, 3], [], [], []), (2, [0, 3, 7], [], [], []), (4, [0, 3, 31], [[], [], [], [], [], [], [], [], [], [], [], [], [], [], [], [], [], [10, 11, 12, 13, 14], [10, 11, 12, 13, 14]], [], []), (5, [2], [], [], []), (3, [0, 3], [], [], []), (6, [2], [], [], [])]
def r_spec_AreServers : List RV := [.t 2]
abbrev n_spec_AreServers : Nat := 23
theorem k_spec_AreServers : Known Pr mu n_spec_AreServers m_spec_AreServers r_spec_AreServers Go.Proofs.Try.f23.ntmps := .of h_spec_AreServers hm Go.Proofs.Try.func23 (by kernel_rfl) (by kernel_rfl) (by kernel_rfl) (by kernel_rfl)
def m_spec_CommonServers_1 : Unit → MCode := fun _ => .region [] [⟨(some 4), .mv (.const (.slice none 0 0)), none, []⟩] [0, 1]
def m_spec_CommonServers_2 : Unit → MCode := fun _ => .region [] [⟨(some 7), .bsl 1 0 [.int .i64 0] [], none, []⟩,
    ⟨(some 5), .mv (.tmp 7), none, []⟩] [0, 1, 5]
def m_spec_CommonServers_3 : Unit → MCode := fun _ => .region [] [⟨(some 6), .mv (.const (.int .i64 0)), none, []⟩] [0, 1, 5, 6]
def m_spec_CommonServers_4 : Unit → MCode := fun _ => .region [] [⟨(some 8), .mv (.tmp 6), none, []⟩,
    ⟨(some 9), .mv (.tmp 0), none, []⟩,
    ⟨(some 10), .len false (.tmp 9), none, []⟩,
    ⟨(some 11), .bin .lss (.tmp 8) (.tmp 10), none, []⟩] [0, 1, 5, 6, 11]
def m_spec_CommonServers_5 : Unit → MCode := fun _ => .cond (.tmp 11) (fun _ => .skip) (fun _ => .exit 0)
def m_spec_CommonServers_6 : Unit → MCode := fun _ => .seq m_spec_CommonServers_4 m_spec_CommonServers_5
def m_spec_CommonServers_7 : Unit → MCode := fun _ => .region [] [⟨(some 14), .mv (.tmp 1), none, []⟩,
    ⟨(some 15), .mv (.tmp 0), none, []⟩,
    ⟨(some 16), .mv (.tmp 6), none, []⟩,
    ⟨(some 17), .ia (.tmp 15) (.tmp 16) 1, none, []⟩,
    ⟨(some 18), .ld (.tmp 17) 1 false, none, []⟩,
    ⟨(some 19), .call 28 [(.tmp 14), (.tmp 18)], none, []⟩] [0, 1, 5, 6, 19]
def m_spec_CommonServers_8 : Unit → MCode := fun _ => .region [] [⟨(some 20), .mv (.tmp 5), none, []⟩,
    ⟨(some 21), .mv (.tmp 0), none, []⟩,
    ⟨(some 22), .mv (.tmp 6), none, []⟩,
    ⟨(some 23), .ia (.tmp 21) (.tmp 22) 1, none, []⟩,
    ⟨(some 24), .ld (.tmp 23) 1 false, none, []⟩,
    ⟨(some 25), .call 60 [(.tmp 20), (.tmp 24)], none, []⟩,
    ⟨(some 5), .mv (.tmp 25), none, []⟩] [0, 1, 5, 6]
def m_spec_CommonServers_9 : Unit → MCode := fun _ => .cond (.tmp 19) m_spec_CommonServers_8 (fun _ => .skip)
def m_spec_CommonServers_10 : Unit → MCode := fun _ => .seq m_spec_CommonServers_7 m_spec_CommonServers_9
def m_spec_CommonServers_11 : Unit → MCode := fun _ => .block 1 m_spec_CommonServers_10
def m_spec_CommonServers_12 : Unit → MCode := fun _ => .region [] [⟨(some 12), .mv (.tmp 6), none, []⟩,
    ⟨(some 13), .bin .add (.tmp 12) (.const (.int .i64 1)), none, []⟩,
    ⟨(some 6), .mv (.tmp 13), none, []⟩] [0, 1, 5, 6]
def m_spec_CommonServers_13 : Unit → MCode := fun _ => .seq m_spec_CommonServers_11 m_spec_CommonServers_12
def m_spec_CommonServers_14 : Unit → MCode := fun _ => .seq m_spec_CommonServers_6 m_spec_CommonServers_13
def m_spec_CommonServers_15 : Unit → MCode := fun _ => .loop m_spec_CommonServers_14
def m_spec_CommonServers_16 : Unit → MCode := fun _ => .block 0 m_spec_CommonServers_15
def m_spec_CommonServers_17 : Unit → MCode := fun _ => .seq m_spec_CommonServers_3 m_spec_CommonServers_16
def m_spec_CommonServers_18 : Unit → MCode := fun _ => .region [] [⟨(some 26), .mv (.tmp 5), none, []⟩,
    ⟨(some 4), .mv (.tmp 26), none, []⟩] [4]
def m_spec_CommonServers_19 : Unit → MCode := fun _ => .seq m_spec_CommonServers_18 (fun _ => .ret)
def m_spec_CommonServers_20 : Unit → MCode := fun _ => .seq m_spec_CommonServers_17 m_spec_CommonServers_19
def m_spec_CommonServers_21 : Unit → MCode := fun _ => .seq m_spec_CommonServers_2 m_spec_CommonServers_20
def m_spec_CommonServers_22 : Unit → MCode := fun _ => .seq m_spec_CommonServers_1 m_spec_CommonServers_21
def m_spec_CommonServers : MCode := m_spec_CommonServers_22 ()
def h_spec_CommonServers : Hints := [(0, [0, 1], [], [], []), (1, [0, 1, 5], [], [], []), (2, [0, 1, 5, 6], [], [], []), (3, [0, 1, 5, 6, 11], [], [], []), (5, [0, 1, 5, 6, 19], [], [], []), (6, [0, 1, 5, 6], [], [], []), (4, [0, 1, 5, 6], [], [], []), (7, [4], [], [], [])]
def r_spec_CommonServers : List RV := [.t 4]
abbrev n_spec_CommonServers : Nat := 24
theorem k_spec_CommonServers : Known Pr mu n_spec_CommonServers m_spec_CommonServers r_spec_CommonServers Go.Proofs.Try.f24.ntmps := .of h_spec_CommonServers hm Go.Proofs.Try.func24 (by kernel_rfl) (by kernel_rfl) (by kernel_rfl) (by kernel_rfl)
def m_spec_HasServer_1 : Unit → MCode := fun _ => .region [] [⟨(some 4), .mv (.const (.bool false)), none, []⟩] [0, 1]
def m_spec_HasServer_2 : Unit → MCode := fun _ => .region [] [⟨(some 5), .mv (.const (.int .i64 0)), none, []⟩] [0, 1, 5]
def m_spec_HasServer_3 : Unit → MCode := fun _ => .region [] [⟨(some 6), .mv (.tmp 5), none, []⟩,
    ⟨(some 7), .mv (.tmp 0), none, []⟩,
    ⟨(some 8), .len false (.tmp 7), none, []⟩,
    ⟨(some 9), .bin .lss (.tmp 6) (.tmp 8), none, []⟩] [0, 1, 5, 9]
def m_spec_HasServer_4 : Unit → MCode := fun _ => .cond (.tmp 9) (fun _ => .skip) (fun _ => .exit 0)
def m_spec_HasServer_5 : Unit → MCode := fun _ => .seq m_spec_HasServer_3 m_spec_HasServer_4
def m_spec_HasServer_6 : Unit → MCode := fun _ => .region [] [⟨(some 12), .mv (.tmp 0), none, []⟩,
    ⟨(some 13), .mv (.tmp 5), none, []⟩,
    ⟨(some 14), .ia (.tmp 12) (.tmp 13) 1, none, []⟩,
    ⟨(some 15), .ld (.tmp 14) 1 false, none, []⟩,
    ⟨(some 16), .mv (.tmp 1), none, []⟩,
    ⟨(some 17), .bin .eql (.tmp 15) (.tmp 16), none, []⟩] [0, 1, 5, 17]
def m_spec_HasServer_7 : Unit → MCode := fun _ => .region [] [⟨(some 4), .mv (.const (.bool true)), none, []⟩] [4]
def m_spec_HasServer_8 : Unit → MCode := fun _ => .seq m_spec_HasServer_7 (fun _ => .ret)
def m_spec_HasServer_9 : Unit → MCode := fun _ => .cond (.tmp 17) m_spec_HasServer_8 (fun _ => .skip)
def m_spec_HasServer_10 : Unit → MCode := fun _ => .seq m_spec_HasServer_6 m_spec_HasServer_9
def m_spec_HasServer_11 : Unit → MCode := fun _ => .block 1 m_spec_HasServer_10
def m_spec_HasServer_12 : Unit → MCode := fun _ => .region [] [⟨(some 10), .mv (.tmp 5), none, []⟩,
    ⟨(some 11), .bin .add (.tmp 10) (.const (.int .i64 1)), none, []⟩,
    ⟨(some 5), .mv (.tmp 11), none, []⟩] [0, 1, 5]
def m_spec_HasServer_13 : Unit → MCode := fun _ => .seq m_spec_HasServer_11 m_spec_HasServer_12
def m_spec_HasServer_14 : Unit → MCode := fun _ => .seq m_spec_HasServer_5 m_spec_HasServer_13
def m_spec_HasServer_15 : Unit → MCode := fun _ => .loop m_spec_HasServer_14
def m_spec_HasServer_16 : Unit → MCode := fun _ => .block 0 m_spec_HasServer_15
def m_spec_HasServer_17 : Unit → MCode := fun _ => .seq m_spec_HasServer_2 m_spec_HasServer_16
def m_spec_HasServer_18 : Unit → MCode := fun _ => .region [] [⟨(some 4), .mv (.const (.bool false)), none, []⟩] [4]
def m_spec_HasServer_19 : Unit → MCode := fun _ => .seq m_spec_HasServer_18 (fun _ => .ret)
def m_spec_HasServer_20 : Unit → MCode := fun _ => .seq m_spec_HasServer_17 m_spec_HasServer_19
def m_spec_HasServer_21 : Unit → MCode := fun _ => .seq m_spec_HasServer_1 m_spec_HasServer_20
def m_spec_HasServer : MCode := m_spec_HasServer_21 ()
def h_spec_HasServer : Hints := [(0, [0, 1], [], [], []), (1, [0, 1, 5], [], [], []), (2, [0, 1, 5, 9], [], [], []), (4, [0, 1, 5, 17], [], [], []), (5, [4], [], [], []), (3, [0, 1, 5], [], [], []), (6, [4], [], [], [])]
def r_spec_HasServer : List RV := [.t 4]
abbrev n_spec_HasServer : Nat := 28
theorem k_spec_HasServer : Known Pr mu n_spec_HasServer m_spec_HasServer r_spec_HasServer Go.Proofs.Try.f28.ntmps := .of h_spec_HasServer hm Go.Proofs.Try.func28 (by kernel_rfl) (by kernel_rfl) (by kernel_rfl) (by kernel_rfl)
def m_laws_eqConfig_1 : Unit → MCode := fun _ => .region [] [⟨(some 2), .box (.tmp 0), none, []⟩,
    ⟨(some 3), .box (.tmp 1), none, []⟩,
    ⟨(some 4), .mv (.const (.bool false)), none, []⟩] [2, 3]
def m_laws_eqConfig_2 : Unit → MCode := fun _ => .region [] [⟨(some 5), .fa (.tmp 2) 0, none, []⟩,
    ⟨(some 6), .ld (.tmp 5) 1 false, none, []⟩,
    ⟨(some 7), .fa (.tmp 3) 0, none, []⟩,
    ⟨(some 8), .ld (.tmp 7) 1 false, none, []⟩,
    ⟨(some 9), .bin .neq (.tmp 6) (.tmp 8), none, []⟩] [2, 3, 9]
def m_laws_eqConfig_3 : Unit → MCode := fun _ => .region [] [⟨(some 4), .mv (.const (.bool false)), none, []⟩] [4]
def m_laws_eqConfig_4 : Unit → MCode := fun _ => .seq m_laws_eqConfig_3 (fun _ => .ret)
def m_laws_eqConfig_5 : Unit → MCode := fun _ => .cond (.tmp 9) m_laws_eqConfig_4 (fun _ => .skip)
def m_laws_eqConfig_6 : Unit → MCode := fun _ => .seq m_laws_eqConfig_2 m_laws_eqConfig_5
def m_laws_eqConfig_7 : Unit → MCode := fun _ => .region [] [⟨(some 10), .fa (.tmp 2) 1, none, []⟩,
    ⟨(some 11), .ld (.tmp 10) 1 false, none, []⟩,
    ⟨(some 12), .fa (.tmp 3) 1, none, []⟩,
    ⟨(some 13), .ld (.tmp 12) 1 false, none, []⟩,
    ⟨(some 14), .bin .neq (.tmp 11) (.tmp 13), none, []⟩] [2, 3, 14]
def m_laws_eqConfig_8 : Unit → MCode := fun _ => .region [] [⟨(some 4), .mv (.const (.bool false)), none, []⟩] [4]
def m_laws_eqConfig_9 : Unit → MCode := fun _ => .seq m_laws_eqConfig_8 (fun _ => .ret)
def m_laws_eqConfig_10 : Unit → MCode := fun _ => .cond (.tmp 14) m_laws_eqConfig_9 (fun _ => .skip)
def m_laws_eqConfig_11 : Unit → MCode := fun _ => .seq m_laws_eqConfig_7 m_laws_eqConfig_10
def m_laws_eqConfig_12 : Unit → MCode := fun _ => .region [] [⟨(some 15), .fa (.tmp 2) 2, none, []⟩,
    ⟨(some 16), .ld (.tmp 15) 1 false, none, []⟩,
    ⟨(some 17), .fa (.tmp 3) 2, none, []⟩,
    ⟨(some 18), .ld (.tmp 17) 1 false, none, []⟩,
    ⟨(some 19), .call 14 [(.tmp 16), (.tmp 18)], none, []⟩,
    ⟨(some 20), .not (.tmp 19), none, []⟩] [2, 3, 20]
def m_laws_eqConfig_13 : Unit → MCode := fun _ => .region [] [⟨(some 4), .mv (.const (.bool false)), none, []⟩] [4]
def m_laws_eqConfig_14 : Unit → MCode := fun _ => .seq m_laws_eqConfig_13 (fun _ => .ret)
def m_laws_eqConfig_15 : Unit → MCode := fun _ => .cond (.tmp 20) m_laws_eqConfig_14 (fun _ => .skip)
def m_laws_eqConfig_16 : Unit → MCode := fun _ => .seq m_laws_eqConfig_12 m_laws_eqConfig_15
def m_laws_eqConfig_17 : Unit → MCode := fun _ => .region [] [⟨(some 21), .fa (.tmp 2) 3, none, []⟩,
    ⟨(some 22), .ld (.tmp 21) 1 false, none, []⟩,
    ⟨(some 23), .fa (.tmp 3) 3, none, []⟩,
    ⟨(some 24), .ld (.tmp 23) 1 false, none, []⟩,
    ⟨(some 25), .call 14 [(.tmp 22), (.tmp 24)], none, []⟩,
    ⟨(some 26), .not (.tmp 25), none, []⟩] [26]
def m_laws_eqConfig_18 : Unit → MCode := fun _ => .region [] [⟨(some 4), .mv (.const (.bool false)), none, []⟩] [4]
def m_laws_eqConfig_19 : Unit → MCode := fun _ => .seq m_laws_eqConfig_18 (fun _ => .ret)
def m_laws_eqConfig_20 : Unit → MCode := fun _ => .cond (.tmp 26) m_laws_eqConfig_19 (fun _ => .skip)
def m_laws_eqConfig_21 : Unit → MCode := fun _ => .seq m_laws_eqConfig_17 m_laws_eqConfig_20
def m_laws_eqConfig_22 : Unit → MCode := fun _ => .region [] [⟨(some 4), .mv (.const (.bool true)), none, []⟩] [4]
def m_laws_eqConfig_23 : Unit → MCode := fun _ => .seq m_laws_eqConfig_22 (fun _ => .ret)
def m_laws_eqConfig_24 : Unit → MCode := fun _ => .seq m_laws_eqConfig_21 m_laws_eqConfig_23
def m_laws_eqConfig_25 : Unit → MCode := fun _ => .seq m_laws_eqConfig_16 m_laws_eqConfig_24
def m_laws_eqConfig_26 : Unit → MCode := fun _ => .seq m_laws_eqConfig_11 m_laws_eqConfig_25
def m_laws_eqConfig_27 : Unit → MCode := fun _ => .seq m_laws_eqConfig_6 m_laws_eqConfig_26
def m_laws_eqConfig_28 : Unit → MCode := fun _ => .seq m_laws_eqConfig_1 m_laws_eqConfig_27
def m_laws_eqConfig : MCode := m_laws_eqConfig_28 ()
def h_laws_eqConfig : Hints := [(0, [2, 3], [], [], []), (1, [2, 3, 9], [], [], []), (2, [4], [], [], []), (3, [2, 3, 14], [], [], []), (4, [4], [], [], []), (5, [2, 3, 20], [], [], []), (6, [4], [], [], []), (7, [26], [], [], []), (8, [4], [], [], []), (9, [4], [], [], [])]
def r_laws_eqConfig : List RV := [.t 4]
abbrev n_laws_eqConfig : Nat := 40
theorem k_laws_eqConfig : Known Pr mu n_laws_eqConfig m_laws_eqConfig r_laws_eqConfig Go.Proofs.Try.f40.ntmps := .of h_laws_eqConfig hm Go.Proofs.Try.func40 (by kernel_rfl) (by kernel_rfl) (by kernel_rfl) (by kernel_rfl)
def m_laws_szServer_1 : Unit → MCode := fun _ => .region [] [⟨(some 2), .box (.tmp 0), none, []⟩,
    ⟨(some 4), .mv (.const (.int .i64 0)), none, []⟩] [1, 2]
def m_laws_szServer_2 : Unit → MCode := fun _ => .region [] [⟨(some 5), .fa (.tmp 2) 4, none, []⟩,
    ⟨(some 6), .ld (.tmp 5) 4 true, none, []⟩,
    ⟨(some 7), .mv (.tmp 1), none, []⟩,
    ⟨(some 8), .call 88 [(.tmp 6), (.tmp 7)], none, []⟩,
    ⟨(some 1), .mv (.tmp 8), none, []⟩] [1, 2]
def m_laws_szServer_3 : Unit → MCode := fun _ => .region [] [⟨(some 9), .mv (.tmp 1), none, []⟩,
    ⟨(some 10), .bin .lss (.tmp 9) (.const (.int .i64 0)), none, []⟩] [1, 2, 10]
def m_laws_szServer_4 : Unit → MCode := fun _ => .region [] [⟨(some 4), .mv (.const (.int .i64 (-1))), none, []⟩] [4]
def m_laws_szServer_5 : Unit → MCode := fun _ => .seq m_laws_szServer_4 (fun _ => .ret)
def m_laws_szServer_6 : Unit → MCode := fun _ => .cond (.tmp 10) m_laws_szServer_5 (fun _ => .skip)
def m_laws_szServer_7 : Unit → MCode := fun _ => .seq m_laws_szServer_3 m_laws_szServer_6
def m_laws_szServer_8 : Unit → MCode := fun _ => .region [] [⟨(some 11), .fa (.tmp 2) 9, none, []⟩,
    ⟨(some 12), .ld (.tmp 11) 1 false, none, []⟩,
    ⟨(some 13), .mv (.tmp 1), none, []⟩,
    ⟨(some 14), .call 89 [(.tmp 12), (.tmp 13)], none, []⟩,
    ⟨(some 1), .mv (.tmp 14), none, []⟩] [1, 2]
def m_laws_szServer_9 : Unit → MCode := fun _ => .region [] [⟨(some 15), .mv (.tmp 1), none, []⟩,
    ⟨(some 16), .bin .lss (.tmp 15) (.const (.int .i64 0)), none, []⟩] [1, 2, 16]
def m_laws_szServer_10 : Unit → MCode := fun _ => .region [] [⟨(some 4), .mv (.const (.int .i64 (-1))), none, []⟩] [4]
def m_laws_szServer_11 : Unit → MCode := fun _ => .seq m_laws_szServer_10 (fun _ => .ret)
def m_laws_szServer_12 : Unit → MCode := fun _ => .cond (.tmp 16) m_laws_szServer_11 (fun _ => .skip)
def m_laws_szServer_13 : Unit → MCode := fun _ => .seq m_laws_szServer_9 m_laws_szServer_12
def m_laws_szServer_14 : Unit → MCode := fun _ => .region [] [⟨(some 17), .fa (.tmp 2) 11, none, []⟩,
    ⟨(some 18), .ld (.tmp 17) 1 false, none, []⟩,
    ⟨(some 19), .mv (.tmp 1), none, []⟩,
    ⟨(some 20), .call 89 [(.tmp 18), (.tmp 19)], none, []⟩,
    ⟨(some 1), .mv (.tmp 20), none, []⟩] [1]
def m_laws_szServer_15 : Unit → MCode := fun _ => .region [] [⟨(some 21), .mv (.tmp 1), none, []⟩,
    ⟨(some 22), .bin .lss (.tmp 21) (.const (.int .i64 0)), none, []⟩] [1, 22]
def m_laws_szServer_16 : Unit → MCode := fun _ => .region [] [⟨(some 4), .mv (.const (.int .i64 (-1))), none, []⟩] [4]
def m_laws_szServer_17 : Unit → MCode := fun _ => .seq m_laws_szServer_16 (fun _ => .ret)
def m_laws_szServer_18 : Unit → MCode := fun _ => .cond (.tmp 22) m_laws_szServer_17 (fun _ => .skip)
def m_laws_szServer_19 : Unit → MCode := fun _ => .seq m_laws_szServer_15 m_laws_szServer_18
def m_laws_szServer_20 : Unit → MCode := fun _ => .region [] [⟨(some 23), .mv (.tmp 1), none, []⟩,
    ⟨(some 4), .mv (.tmp 23), none, []⟩] [4]
def m_laws_szServer_21 : Unit → MCode := fun _ => .seq m_laws_szServer_20 (fun _ => .ret)
def m_laws_szServer_22 : Unit → MCode := fun _ => .seq m_laws_szServer_19 m_laws_szServer_21
def m_laws_szServer_23 : Unit → MCode := fun _ => .seq m_laws_szServer_14 m_laws_szServer_22
def m_laws_szServer_24 : Unit → MCode := fun _ => .seq m_laws_szServer_13 m_laws_szServer_23
def m_laws_szServer_25 : Unit → MCode := fun _ => .seq m_laws_szServer_8 m_laws_szServer_24
def m_laws_szServer_26 : Unit → MCode := fun _ => .seq m_laws_szServer_7 m_laws_szServer_25
def m_laws_szServer_27 : Unit → MCode := fun _ => .seq m_laws_szServer_2 m_laws_szServer_26
def m_laws_szServer_28 : Unit → MCode := fun _ => .seq m_laws_szServer_1 m_laws_szServer_27
def m_laws_szServer : MCode := m_laws_szServer_28 ()
def h_laws_szServer : Hints := [(0, [1, 2], [], [], []), (1, [1, 2], [], [], []), (2, [1, 2, 10], [], [], []), (3, [4], [], [], []), (4, [1, 2], [], [], []), (5, [1, 2, 16], [], [], []), (6, [4], [], [], []), (7, [1], [], [], []), (8, [1, 22], [], [], []), (9, [4], [], [], []), (10, [4], [], [], [])]
def r_laws_szServer : List RV := [.t 4]
abbrev n_laws_szServer : Nat := 45
theorem k_laws_szServer : Known Pr mu n_laws_szServer m_laws_szServer r_laws_szServer Go.Proofs.Try.f45.ntmps := .of h_laws_szServer hm Go.Proofs.Try.func45 (by kernel_rfl) (by kernel_rfl) (by kernel_rfl) (by kernel_rfl)
def m_spec_IsValidServer_1 : Unit → MCode := fun _ => .region [] [⟨(some 2), .box (.tmp 0), none, []⟩,
    ⟨(some 4), .mv (.const (.bool false)), none, []⟩] [1, 2]
def m_spec_IsValidServer_2 : Unit → MCode := fun _ => .region [] [⟨(some 5), .fa (.tmp 2) 2, none, []⟩,
    ⟨(some 6), .ld (.tmp 5) 1 false, none, []⟩,
    ⟨(some 7), .call 59 [(.tmp 6), (.const (.int .i64 1)), (.const (.int .i64 2))], none, []⟩,
    ⟨(some 8), .not (.tmp 7), none, []⟩,
    ⟨(some 9), .mv (.tmp 8), none, []⟩,
    ⟨(some 10), .fa (.tmp 2) 3, (some (9, false)), []⟩,
    ⟨(some 11), .ld (.tmp 10) 1 false, (some (9, false)), []⟩,
    ⟨(some 12), .call 59 [(.tmp 11), (.const (.int .i64 0)), (.const (.int .i64 20))], (some (9, false)), []⟩,
    ⟨(some 13), .not (.tmp 12), (some (9, false)), []⟩,
    ⟨(some 14), .pick (.tmp 9) (.const (.bool true)) (.tmp 13), none, []⟩,
    ⟨(some 15), .mv (.tmp 14), none, []⟩,
    ⟨(some 16), .fa (.tmp 2) 9, (some (15, false)), []⟩,
    ⟨(some 17), .ld (.tmp 16) 1 false, (some (15, false)), []⟩,
    ⟨(some 18), .call 90 [(.tmp 17)], (some (15, false)), []⟩,
    ⟨(some 19), .not (.tmp 18), (some (15, false)), []⟩,
    ⟨(some 20), .pick (.tmp 15) (.const (.bool true)) (.tmp 19), none, []⟩,
    ⟨(some 21), .mv (.tmp 20), none, []⟩,
    ⟨(some 22), .fa (.tmp 2) 11, (some (21, false)), []⟩,
    ⟨(some 23), .ld (.tmp 22) 1 false, (some (21, false)), []⟩,
    ⟨(some 24), .call 90 [(.tmp 23)], (some (21, false)), []⟩,
    ⟨(some 25), .not (.tmp 24), (some (21, false)), []⟩,
    ⟨(some 26), .pick (.tmp 21) (.const (.bool true)) (.tmp 25), none, []⟩,
    ⟨(some 27), .mv (.tmp 26), none, []⟩,
    ⟨(some 28), .fa (.tmp 2) 8, (some (27, false)), []⟩,
    ⟨(some 29), .ld (.tmp 28) 1 false, (some (27, false)), []⟩,
    ⟨(some 30), .call 59 [(.tmp 29), (.const (.int .i64 0)), (.const (.int .i64 16))], (some (27, false)), []⟩,
    ⟨(some 31), .not (.tmp 30), (some (27, false)), []⟩,
    ⟨(some 32), .pick (.tmp 27) (.const (.bool true)) (.tmp 31), none, []⟩,
    ⟨(some 33), .mv (.tmp 32), none, []⟩,
    ⟨(some 34), .fa (.tmp 2) 8, (some (33, false)), []⟩,
    ⟨(some 35), .ld (.tmp 34) 1 false, (some (33, false)), []⟩,
    ⟨(some 36), .fa (.tmp 2) 9, (some (33, false)), []⟩,
    ⟨(some 37), .ld (.tmp 36) 1 false, (some (33, false)), []⟩,
    ⟨(some 38), .len false (.tmp 37), (some (33, false)), []⟩,
    ⟨(some 39), .bin .add (.tmp 35) (.tmp 38), (some (33, false)), []⟩,
    ⟨(some 40), .call 59 [(.tmp 39), (.const (.int .i64 0)), (.const (.int .i64 16))], (some (33, false)), []⟩,
    ⟨(some 41), .not (.tmp 40), (some (33, false)), []⟩,
    ⟨(some 42), .pick (.tmp 33) (.const (.bool true)) (.tmp 41), none, []⟩,
    ⟨(some 43), .mv (.tmp 42), none, []⟩,
    ⟨(some 44), .fa (.tmp 2) 10, (some (43, false)), []⟩,
    ⟨(some 45), .ld (.tmp 44) 1 false, (some (43, false)), []⟩,
    ⟨(some 46), .fa (.tmp 2) 8, (some (43, false)), []⟩,
    ⟨(some 47), .ld (.tmp 46) 1 false, (some (43, false)), []⟩,
    ⟨(some 48), .fa (.tmp 2) 9, (some (43, false)), []⟩,
    ⟨(some 49), .ld (.tmp 48) 1 false, (some (43, false)), []⟩,
    ⟨(some 50), .len false (.tmp 49), (some (43, false)), []⟩,
    ⟨(some 51), .bin .add (.tmp 47) (.tmp 50), (some (43, false)), []⟩,
    ⟨(some 52), .call 59 [(.tmp 45), (.const (.int .i64 0)), (.tmp 51)], (some (43, false)), []⟩,
    ⟨(some 53), .not (.tmp 52), (some (43, false)), []⟩,
    ⟨(some 54), .pick (.tmp 43) (.const (.bool true)) (.tmp 53), none, []⟩] [1, 2, 54]
def m_spec_IsValidServer_3 : Unit → MCode := fun _ => .region [] [⟨(some 4), .mv (.const (.bool false)), none, []⟩] [4]
def m_spec_IsValidServer_4 : Unit → MCode := fun _ => .seq m_spec_IsValidServer_3 (fun _ => .ret)
def m_spec_IsValidServer_5 : Unit → MCode := fun _ => .cond (.tmp 54) m_spec_IsValidServer_4 (fun _ => .skip)
def m_spec_IsValidServer_6 : Unit → MCode := fun _ => .seq m_spec_IsValidServer_2 m_spec_IsValidServer_5
def m_spec_IsValidServer_7 : Unit → MCode := fun _ => .region [] [⟨(some 55), .fa (.tmp 2) 4, none, []⟩,
    ⟨(some 56), .ld (.tmp 55) 4 true, none, []⟩,
    ⟨(some 57), .call 91 [(.tmp 56)], none, []⟩] [1, 2, 57]
def m_spec_IsValidServer_8 : Unit → MCode := fun _ => .region [] [⟨(some 58), .fa (.tmp 2) 8, none, []⟩,
    ⟨(some 59), .ld (.tmp 58) 1 false, none, []⟩,
    ⟨(some 60), .bin .eql (.tmp 59) (.const (.int .i64 0)), none, []⟩,
    ⟨(some 61), .mv (.tmp 60), none, []⟩,
    ⟨(some 62), .fa (.tmp 2) 9, (some (61, true)), []⟩,
    ⟨(some 63), .ld (.tmp 62) 1 false, (some (61, true)), []⟩,
    ⟨(some 64), .len false (.tmp 63), (some (61, true)), []⟩,
    ⟨(some 65), .bin .eql (.tmp 64) (.const (.int .i64 0)), (some (61, true)), []⟩,
    ⟨(some 66), .pick (.tmp 61) (.tmp 65) (.const (.bool false)), none, []⟩,
    ⟨(some 67), .mv (.tmp 66), none, []⟩,
    ⟨(some 68), .fa (.tmp 2) 10, (some (67, true)), []⟩,
    ⟨(some 69), .ld (.tmp 68) 1 false, (some (67, true)), []⟩,
    ⟨(some 70), .bin .eql (.tmp 69) (.const (.int .i64 0)), (some (67, true)), []⟩,
    ⟨(some 71), .pick (.tmp 67) (.tmp 70) (.const (.bool false)), none, []⟩,
    ⟨(some 4), .mv (.tmp 71), none, []⟩] [4]
def m_spec_IsValidServer_9 : Unit → MCode := fun _ => .seq m_spec_IsValidServer_8 (fun _ => .ret)
def m_spec_IsValidServer_10 : Unit → MCode := fun _ => .cond (.tmp 57) m_spec_IsValidServer_9 (fun _ => .skip)
def m_spec_IsValidServer_11 : Unit → MCode := fun _ => .seq m_spec_IsValidServer_7 m_spec_IsValidServer_10
def m_spec_IsValidServer_12 : Unit → MCode := fun _ => .region [] [⟨(some 72), .fa (.tmp 2) 1, none, []⟩,
    ⟨(some 73), .ld (.tmp 72) 1 false, none, []⟩,
    ⟨(some 74), .not (.tmp 73), none, []⟩,
    ⟨(some 75), .mv (.tmp 74), none, []⟩,
    ⟨(some 76), .fa (.tmp 2) 3, (some (75, false)), []⟩,
    ⟨(some 77), .ld (.tmp 76) 1 false, (some (75, false)), []⟩,
    ⟨(some 78), .fa (.tmp 2) 4, (some (75, false)), [4, 5]⟩,
    ⟨(some 79), .fa (.tmp 78) 0, (some (75, false)), [4, 5]⟩,
    ⟨(some 80), .ld (.tmp 79) 1 false, (some (75, false)), [4, 5]⟩,
    ⟨(some 81), .bin .lss (.tmp 77) (.tmp 80), (some (75, false)), []⟩,
    ⟨(some 82), .pick (.tmp 75) (.const (.bool true)) (.tmp 81), none, []⟩,
    ⟨(some 83), .mv (.tmp 82), none, []⟩,
    ⟨(some 84), .fa (.tmp 2) 9, (some (83, false)), []⟩,
    ⟨(some 85), .ld (.tmp 84) 1 false, (some (83, false)), []⟩,
    ⟨(some 86), .call 92 [(.tmp 85)], (some (83, false)), []⟩,
    ⟨(some 87), .fa (.tmp 2) 4, (some (83, false)), [12, 13, 14]⟩,
    ⟨(some 88), .fa (.tmp 87) 0, (some (83, false)), [12, 13, 14]⟩,
    ⟨(some 89), .ld (.tmp 88) 1 false, (some (83, false)), [12, 13, 14]⟩,
    ⟨(some 90), .bin .gtr (.tmp 86) (.tmp 89), (some (83, false)), []⟩,
    ⟨(some 91), .pick (.tmp 83) (.const (.bool true)) (.tmp 90), none, []⟩] [1, 2, 91]
def m_spec_IsValidServer_13 : Unit → MCode := fun _ => .region [] [⟨(some 4), .mv (.const (.bool false)), none, []⟩] [4]
def m_spec_IsValidServer_14 : Unit → MCode := fun _ => .seq m_spec_IsValidServer_13 (fun _ => .ret)
def m_spec_IsValidServer_15 : Unit → MCode := fun _ => .cond (.tmp 91) m_spec_IsValidServer_14 (fun _ => .skip)
def m_spec_IsValidServer_16 : Unit → MCode := fun _ => .seq m_spec_IsValidServer_12 m_spec_IsValidServer_15
def m_spec_IsValidServer_17 : Unit → MCode := fun _ => .region [] [⟨(some 92), .fa (.tmp 2) 4, none, []⟩,
    ⟨(some 93), .ld (.tmp 92) 4 true, none, []⟩,
    ⟨(some 94), .mv (.tmp 1), none, []⟩,
    ⟨(some 95), .call 93 [(.tmp 93), (.tmp 94)], none, []⟩] [2, 95]
def m_spec_IsValidServer_18 : Unit → MCode := fun _ => .region [] [⟨(some 97), .bin .eql (.tmp 95) (.const (.int .i64 0)), none, []⟩,
    ⟨(some 96), .mv (.tmp 97), none, []⟩] [2, 95, 96]
def m_spec_IsValidServer_19 : Unit → MCode := fun _ => .region [] [⟨(some 4), .mv (.const (.bool false)), none, []⟩] [4]
def m_spec_IsValidServer_20 : Unit → MCode := fun _ => .seq m_spec_IsValidServer_19 (fun _ => .ret)
def m_spec_IsValidServer_21 : Unit → MCode := fun _ => .region [] [⟨(some 99), .bin .eql (.tmp 95) (.const (.int .i64 3)), none, []⟩,
    ⟨(some 98), .mv (.tmp 99), none, []⟩] [2, 98]
def m_spec_IsValidServer_22 : Unit → MCode := fun _ => .region [] [⟨(some 100), .fa (.tmp 2) 9, none, []⟩,
    ⟨(some 101), .ld (.tmp 100) 1 false, none, []⟩,
    ⟨(some 102), .len false (.tmp 101), none, []⟩,
    ⟨(some 103), .bin .leq (.tmp 102) (.const (.int .i64 3)), none, []⟩,
    ⟨(some 104), .mv (.tmp 103), none, []⟩,
    ⟨(some 105), .fa (.tmp 2) 9, (some (104, true)), []⟩,
    ⟨(some 106), .ld (.tmp 105) 1 false, (some (104, true)), []⟩,
    ⟨(some 107), .len false (.tmp 106), (some (104, true)), []⟩,
    ⟨(some 108), .bin .eql (.tmp 107) (.const (.int .i64 3)), (some (104, true)), []⟩,
    ⟨(some 109), .mv (.tmp 108), (some (104, true)), []⟩,
    ⟨(some 110), .fa (.tmp 2) 8, (some (109, false)), []⟩,
    ⟨(some 111), .ld (.tmp 110) 1 false, (some (109, false)), []⟩,
    ⟨(some 112), .bin .eql (.tmp 111) (.const (.int .i64 0)), (some (109, false)), []⟩,
    ⟨(some 113), .pick (.tmp 109) (.const (.bool true)) (.tmp 112), (some (104, true)), []⟩,
    ⟨(some 114), .pick (.tmp 104) (.tmp 113) (.const (.bool false)), none, []⟩,
    ⟨(some 4), .mv (.tmp 114), none, []⟩] [4]
def m_spec_IsValidServer_23 : Unit → MCode := fun _ => .seq m_spec_IsValidServer_22 (fun _ => .ret)
def m_spec_IsValidServer_24 : Unit → MCode := fun _ => .cond (.tmp 98) m_spec_IsValidServer_23 (fun _ => .skip)
def m_spec_IsValidServer_25 : Unit → MCode := fun _ => .seq m_spec_IsValidServer_21 m_spec_IsValidServer_24
def m_spec_IsValidServer_26 : Unit → MCode := fun _ => .cond (.tmp 96) m_spec_IsValidServer_20 m_spec_IsValidServer_25
def m_spec_IsValidServer_27 : Unit → MCode := fun _ => .seq m_spec_IsValidServer_18 m_spec_IsValidServer_26
def m_spec_IsValidServer_28 : Unit → MCode := fun _ => .block 0 m_spec_IsValidServer_27
def m_spec_IsValidServer_29 : Unit → MCode := fun _ => .seq m_spec_IsValidServer_17 m_spec_IsValidServer_28
def m_spec_IsValidServer_30 : Unit → MCode := fun _ => .region [] [⟨(some 115), .fa (.tmp 2) 8, none, []⟩,
    ⟨(some 116), .ld (.tmp 115) 1 false, none, []⟩,
    ⟨(some 117), .bin .eql (.tmp 116) (.const (.int .i64 0)), none, []⟩,
    ⟨(some 4), .mv (.tmp 117), none, []⟩] [4]
def m_spec_IsValidServer_31 : Unit → MCode := fun _ => .seq m_spec_IsValidServer_30 (fun _ => .ret)
def m_spec_IsValidServer_32 : Unit → MCode := fun _ => .seq m_spec_IsValidServer_29 m_spec_IsValidServer_31
def m_spec_IsValidServer_33 : Unit → MCode := fun _ => .seq m_spec_IsValidServer_16 m_spec_IsValidServer_32
def m_spec_IsValidServer_34 : Unit → MCode := fun _ => .seq m_spec_IsValidServer_11 m_spec_IsValidServer_33
def m_spec_IsValidServer_35 : Unit → MCode := fun _ => .seq m_spec_IsValidServer_6 m_spec_IsValidServer_34
def m_spec_IsValidServer_36 : Unit → MCode := fun _ => .seq m_spec_IsValidServer_1 m_spec_IsValidServer_35
def m_spec_IsValidServer : MCode := m_spec_IsValidServer_36 ()
def h_spec_IsValidServer : Hints := [(0, [1, 2], [], [], []), (1, [1, 2, 54], [], [], []), (2, [4], [], [], []), (3, [1, 2, 57], [], [], []), (4, [4], [], [], []), (5, [1, 2, 91], [[], [], [], [], [], [], [4, 5], [4, 5], [4, 5], [], [], [], [], [], [], [12, 13, 14], [12, 13, 14], [12, 13, 14]], [], []), (6, [4], [], [], []), (7, [2, 95], [], [], []), (8, [2, 95, 96], [], [], []), (9, [4], [], [], []), (10, [2, 98], [], [], []), (11, [4], [], [], []), (12, [4], [], [], [])]
def r_spec_IsValidServer : List RV := [.t 4]
abbrev n_spec_IsValidServer : Nat := 46
theorem k_spec_IsValidServer : Known Pr mu n_spec_IsValidServer m_spec_IsValidServer r_spec_IsValidServer Go.Proofs.Try.f46.ntmps := .of h_spec_IsValidServer hm Go.Proofs.Try.func46 (by kernel_rfl) (by kernel_rfl) (by kernel_rfl) (by kernel_rfl)
def m_laws_toServer_1 : Unit → MCode := fun _ => .region [] [⟨(some 1), .box (.tmp 0), none, []⟩,
    ⟨(some 2), .alloc [.bool false, .bool false, .int .i64 0, .int .i64 0, .int .i64 0, .int .i64 0, .slice none 0 0, .slice none 0 0, .int .i64 0, .slice none 0 0, .int .i64 0, .slice none 0 0], none, []⟩] [1, 2]
def m_laws_toServer_2 : Unit → MCode := fun _ => .region [] [⟨(some 3), .alloc [.bool false, .bool false, .int .i64 0, .int .i64 0, .int .i64 0, .int .i64 0, .slice none 0 0, .slice none 0 0, .int .i64 0, .slice none 0 0, .int .i64 0, .slice none 0 0], none, []⟩] [1, 2, 3]
def m_laws_toServer_3 : Unit → MCode := fun _ => .region [] [⟨(some 4), .fa (.tmp 1) 0, none, []⟩,
    ⟨(some 5), .ld (.tmp 4) 1 false, none, []⟩,
    ⟨(some 6), .fa (.tmp 3) 0, none, []⟩,
    ⟨none, .sto (.tmp 6) (.tmp 5) 1, none, []⟩] [1, 2, 3]
def m_laws_toServer_4 : Unit → MCode := fun _ => .region [] [⟨(some 7), .fa (.tmp 1) 1, none, []⟩,
    ⟨(some 8), .ld (.tmp 7) 1 false, none, []⟩,
    ⟨(some 9), .fa (.tmp 3) 1, none, []⟩,
    ⟨none, .sto (.tmp 9) (.tmp 8) 1, none, []⟩] [1, 2, 3]
def m_laws_toServer_5 : Unit → MCode := fun _ => .region [] [⟨(some 10), .fa (.tmp 1) 2, none, []⟩,
    ⟨(some 11), .ld (.tmp 10) 1 false, none, []⟩,
    ⟨(some 12), .fa (.tmp 3) 2, none, []⟩,
    ⟨none, .sto (.tmp 12) (.tmp 11) 1, none, []⟩] [1, 2, 3]
def m_laws_toServer_6 : Unit → MCode := fun _ => .region [] [⟨(some 13), .fa (.tmp 1) 3, none, []⟩,
    ⟨(some 14), .ld (.tmp 13) 1 false, none, []⟩,
    ⟨(some 15), .fa (.tmp 3) 3, none, []⟩,
    ⟨none, .sto (.tmp 15) (.tmp 14) 1, none, []⟩] [1, 2, 3]
def m_laws_toServer_7 : Unit → MCode := fun _ => .region [] [⟨(some 16), .fa (.tmp 1) 4, none, []⟩,
    ⟨(some 17), .ld (.tmp 16) 4 true, none, []⟩,
    ⟨(some 18), .call 94 [(.tmp 17)], none, []⟩,
    ⟨(some 19), .fa (.tmp 3) 4, none, []⟩,
    ⟨none, .sto (.tmp 19) (.tmp 18) 4, none, []⟩] [1, 2, 3]
def m_laws_toServer_8 : Unit → MCode := fun _ => .region [] [⟨(some 20), .fa (.tmp 1) 8, none, []⟩,
    ⟨(some 21), .ld (.tmp 20) 1 false, none, []⟩,
    ⟨(some 22), .fa (.tmp 3) 8, none, []⟩,
    ⟨none, .sto (.tmp 22) (.tmp 21) 1, none, []⟩] [1, 2, 3]
def m_laws_toServer_9 : Unit → MCode := fun _ => .region [] [⟨(some 23), .fa (.tmp 1) 9, none, []⟩,
    ⟨(some 24), .ld (.tmp 23) 1 false, none, []⟩,
    ⟨(some 25), .call 95 [(.tmp 24)], none, []⟩,
    ⟨(some 26), .fa (.tmp 3) 9, none, []⟩,
    ⟨none, .sto (.tmp 26) (.tmp 25) 1, none, []⟩] [1, 2, 3]
def m_laws_toServer_10 : Unit → MCode := fun _ => .region [] [⟨(some 27), .fa (.tmp 1) 10, none, []⟩,
    ⟨(some 28), .ld (.tmp 27) 1 false, none, []⟩,
    ⟨(some 29), .fa (.tmp 3) 10, none, []⟩,
    ⟨none, .sto (.tmp 29) (.tmp 28) 1, none, []⟩] [1, 2, 3]
def m_laws_toServer_11 : Unit → MCode := fun _ => .region [] [⟨(some 30), .fa (.tmp 1) 11, none, []⟩,
    ⟨(some 31), .ld (.tmp 30) 1 false, none, []⟩,
    ⟨(some 32), .call 95 [(.tmp 31)], none, []⟩,
    ⟨(some 33), .fa (.tmp 3) 11, none, []⟩,
    ⟨none, .sto (.tmp 33) (.tmp 32) 1, none, []⟩] [2, 3]
def m_laws_toServer_12 : Unit → MCode := fun _ => .region [] [⟨(some 34), .ld (.tmp 3) 12 true, none, []⟩,
    ⟨none, .sto (.tmp 2) (.tmp 34) 12, none, []⟩] [2]
def m_laws_toServer_13 : Unit → MCode := fun _ => .seq m_laws_toServer_12 (fun _ => .ret)
def m_laws_toServer_14 : Unit → MCode := fun _ => .seq m_laws_toServer_11 m_laws_toServer_13
def m_laws_toServer_15 : Unit → MCode := fun _ => .seq m_laws_toServer_10 m_laws_toServer_14
def m_laws_toServer_16 : Unit → MCode := fun _ => .seq m_laws_toServer_9 m_laws_toServer_15
def m_laws_toServer_17 : Unit → MCode := fun _ => .seq m_laws_toServer_8 m_laws_toServer_16
def m_laws_toServer_18 : Unit → MCode := fun _ => .seq m_laws_toServer_7 m_laws_toServer_17
def m_laws_toServer_19 : Unit → MCode := fun _ => .seq m_laws_toServer_6 m_laws_toServer_18
def m_laws_toServer_20 : Unit → MCode := fun _ => .seq m_laws_toServer_5 m_laws_toServer_19
def m_laws_toServer_21 : Unit → MCode := fun _ => .seq m_laws_toServer_4 m_laws_toServer_20
def m_laws_toServer_22 : Unit → MCode := fun _ => .seq m_laws_toServer_3 m_laws_toServer_21
def m_laws_toServer_23 : Unit → MCode := fun _ => .seq m_laws_toServer_2 m_laws_toServer_22
def m_laws_toServer_24 : Unit → MCode := fun _ => .seq m_laws_toServer_1 m_laws_toServer_23
def m_laws_toServer : MCode := m_laws_toServer_24 ()
def h_laws_toServer : Hints := [(0, [1, 2], [], [], []), (1, [1, 2, 3], [], [], []), (2, [1, 2, 3], [], [], []), (3, [1, 2, 3], [], [], []), (4, [1, 2, 3], [], [], []), (5, [1, 2, 3], [], [], []), (6, [1, 2, 3], [], [], []), (7, [1, 2, 3], [], [], []), (8, [1, 2, 3], [], [], []), (9, [1, 2, 3], [], [], []), (10, [2, 3], [], [], []), (11, [2], [], [], [])]
def r_laws_toServer : List RV := [.c 2 12 true]
abbrev n_laws_toServer : Nat := 47
theorem k_laws_toServer : Known Pr mu n_laws_toServer m_laws_toServer r_laws_toServer Go.Proofs.Try.f47.ntmps := .of h_laws_toServer hm Go.Proofs.Try.func47 (by kernel_rfl) (by kernel_rfl) (by kernel_rfl) (by kernel_rfl)
def m_impl_IsValidServer_1 : Unit → MCode := fun _ => .region [] [⟨(some 2), .box (.tmp 0), none, []⟩,
    ⟨(some 4), .mv (.const (.bool false)), none, []⟩] [1, 2]
def m_impl_IsValidServer_2 : Unit → MCode := fun _ => .region [] [⟨(some 6), .fa (.tmp 2) 8, none, []⟩,
    ⟨(some 7), .ld (.tmp 6) 1 false, none, []⟩,
    ⟨(some 8), .fa (.tmp 2) 9, none, []⟩,
    ⟨(some 9), .ld (.tmp 8) 1 false, none, []⟩,
    ⟨(some 10), .len false (.tmp 9), none, []⟩,
    ⟨(some 11), .bin .add (.tmp 7) (.tmp 10), none, []⟩,
    ⟨(some 5), .mv (.tmp 11), none, []⟩] [1, 2, 5]
def m_impl_IsValidServer_3 : Unit → MCode := fun _ => .region [] [⟨(some 12), .fa (.tmp 2) 2, none, []⟩,
    ⟨(some 13), .ld (.tmp 12) 1 false, none, []⟩,
    ⟨(some 14), .call 64 [(.tmp 13), (.const (.int .i64 1)), (.const (.int .i64 2))], none, []⟩,
    ⟨(some 15), .not (.tmp 14), none, []⟩,
    ⟨(some 16), .mv (.tmp 15), none, []⟩,
    ⟨(some 17), .fa (.tmp 2) 3, (some (16, false)), []⟩,
    ⟨(some 18), .ld (.tmp 17) 1 false, (some (16, false)), []⟩,
    ⟨(some 19), .call 64 [(.tmp 18), (.const (.int .i64 0)), (.const (.int .i64 20))], (some (16, false)), []⟩,
    ⟨(some 20), .not (.tmp 19), (some (16, false)), []⟩,
    ⟨(some 21), .pick (.tmp 16) (.const (.bool true)) (.tmp 20), none, []⟩,
    ⟨(some 22), .mv (.tmp 21), none, []⟩,
    ⟨(some 23), .fa (.tmp 2) 9, (some (22, false)), []⟩,
    ⟨(some 24), .ld (.tmp 23) 1 false, (some (22, false)), []⟩,
    ⟨(some 25), .call 96 [(.tmp 24)], (some (22, false)), []⟩,
    ⟨(some 26), .not (.tmp 25), (some (22, false)), []⟩,
    ⟨(some 27), .pick (.tmp 22) (.const (.bool true)) (.tmp 26), none, []⟩,
    ⟨(some 28), .mv (.tmp 27), none, []⟩,
    ⟨(some 29), .fa (.tmp 2) 11, (some (28, false)), []⟩,
    ⟨(some 30), .ld (.tmp 29) 1 false, (some (28, false)), []⟩,
    ⟨(some 31), .call 96 [(.tmp 30)], (some (28, false)), []⟩,
    ⟨(some 32), .not (.tmp 31), (some (28, false)), []⟩,
    ⟨(some 33), .pick (.tmp 28) (.const (.bool true)) (.tmp 32), none, []⟩,
    ⟨(some 34), .mv (.tmp 33), none, []⟩,
    ⟨(some 35), .fa (.tmp 2) 8, (some (34, false)), []⟩,
    ⟨(some 36), .ld (.tmp 35) 1 false, (some (34, false)), []⟩,
    ⟨(some 37), .call 64 [(.tmp 36), (.const (.int .i64 0)), (.const (.int .i64 16))], (some (34, false)), []⟩,
    ⟨(some 38), .not (.tmp 37), (some (34, false)), []⟩,
    ⟨(some 39), .pick (.tmp 34) (.const (.bool true)) (.tmp 38), none, []⟩,
    ⟨(some 40), .mv (.tmp 39), none, []⟩,
    ⟨(some 41), .mv (.tmp 5), (some (40, false)), []⟩,
    ⟨(some 42), .bin .gtr (.tmp 41) (.const (.int .i64 16)), (some (40, false)), []⟩,
    ⟨(some 43), .pick (.tmp 40) (.const (.bool true)) (.tmp 42), none, []⟩,
    ⟨(some 44), .mv (.tmp 43), none, []⟩,
    ⟨(some 45), .fa (.tmp 2) 10, (some (44, false)), []⟩,
    ⟨(some 46), .ld (.tmp 45) 1 false, (some (44, false)), []⟩,
    ⟨(some 47), .mv (.tmp 5), (some (44, false)), []⟩,
    ⟨(some 48), .call 64 [(.tmp 46), (.const (.int .i64 0)), (.tmp 47)], (some (44, false)), []⟩,
    ⟨(some 49), .not (.tmp 48), (some (44, false)), []⟩,
    ⟨(some 50), .pick (.tmp 44) (.const (.bool true)) (.tmp 49), none, []⟩] [1, 2, 50]
def m_impl_IsValidServer_4 : Unit → MCode := fun _ => .region [] [⟨(some 4), .mv (.const (.bool false)), none, []⟩] [4]
def m_impl_IsValidServer_5 : Unit → MCode := fun _ => .seq m_impl_IsValidServer_4 (fun _ => .ret)
def m_impl_IsValidServer_6 : Unit → MCode := fun _ => .cond (.tmp 50) m_impl_IsValidServer_5 (fun _ => .skip)
def m_impl_IsValidServer_7 : Unit → MCode := fun _ => .seq m_impl_IsValidServer_3 m_impl_IsValidServer_6
def m_impl_IsValidServer_8 : Unit → MCode := fun _ => .region [] [⟨(some 51), .fa (.tmp 2) 4, none, []⟩,
    ⟨(some 52), .ld (.tmp 51) 4 true, none, []⟩,
    ⟨(some 53), .bld [.int .i64 0, .int .i64 0, .slice none 0 0, .slice none 0 0] [], none, []⟩,
    ⟨(some 54), .call 85 [(.tmp 52), (.tmp 53)], none, []⟩] [1, 2, 54]
def m_impl_IsValidServer_9 : Unit → MCode := fun _ => .region [] [⟨(some 55), .fa (.tmp 2) 8, none, []⟩,
    ⟨(some 56), .ld (.tmp 55) 1 false, none, []⟩,
    ⟨(some 57), .bin .eql (.tmp 56) (.const (.int .i64 0)), none, []⟩,
    ⟨(some 58), .mv (.tmp 57), none, []⟩,
    ⟨(some 59), .fa (.tmp 2) 10, (some (58, true)), []⟩,
    ⟨(some 60), .ld (.tmp 59) 1 false, (some (58, true)), []⟩,
    ⟨(some 61), .bin .eql (.tmp 60) (.const (.int .i64 0)), (some (58, true)), []⟩,
    ⟨(some 62), .pick (.tmp 58) (.tmp 61) (.const (.bool false)), none, []⟩,
    ⟨(some 63), .mv (.tmp 62), none, []⟩,
    ⟨(some 64), .fa (.tmp 2) 9, (some (63, true)), []⟩,
    ⟨(some 65), .ld (.tmp 64) 1 false, (some (63, true)), []⟩,
    ⟨(some 66), .len false (.tmp 65), (some (63, true)), []⟩,
    ⟨(some 67), .bin .eql (.tmp 66) (.const (.int .i64 0)), (some (63, true)), []⟩,
    ⟨(some 68), .pick (.tmp 63) (.tmp 67) (.const (.bool false)), none, []⟩,
    ⟨(some 4), .mv (.tmp 68), none, []⟩] [4]
def m_impl_IsValidServer_10 : Unit → MCode := fun _ => .seq m_impl_IsValidServer_9 (fun _ => .ret)
def m_impl_IsValidServer_11 : Unit → MCode := fun _ => .cond (.tmp 54) m_impl_IsValidServer_10 (fun _ => .skip)
def m_impl_IsValidServer_12 : Unit → MCode := fun _ => .seq m_impl_IsValidServer_8 m_impl_IsValidServer_11
def m_impl_IsValidServer_13 : Unit → MCode := fun _ => .region [] [⟨(some 69), .fa (.tmp 2) 1, none, []⟩,
    ⟨(some 70), .ld (.tmp 69) 1 false, none, []⟩,
    ⟨(some 71), .not (.tmp 70), none, []⟩,
    ⟨(some 72), .mv (.tmp 71), none, []⟩,
    ⟨(some 73), .fa (.tmp 2) 3, (some (72, false)), []⟩,
    ⟨(some 74), .ld (.tmp 73) 1 false, (some (72, false)), []⟩,
    ⟨(some 75), .fa (.tmp 2) 4, (some (72, false)), [4, 5]⟩,
    ⟨(some 76), .fa (.tmp 75) 0, (some (72, false)), [4, 5]⟩,
    ⟨(some 77), .ld (.tmp 76) 1 false, (some (72, false)), [4, 5]⟩,
    ⟨(some 78), .bin .lss (.tmp 74) (.tmp 77), (some (72, false)), []⟩,
    ⟨(some 79), .pick (.tmp 72) (.const (.bool true)) (.tmp 78), none, []⟩,
    ⟨(some 80), .mv (.tmp 79), none, []⟩,
    ⟨(some 81), .fa (.tmp 2) 9, (some (80, false)), []⟩,
    ⟨(some 82), .ld (.tmp 81) 1 false, (some (80, false)), []⟩,
    ⟨(some 83), .call 97 [(.tmp 82)], (some (80, false)), []⟩,
    ⟨(some 84), .fa (.tmp 2) 4, (some (80, false)), [12, 13, 14]⟩,
    ⟨(some 85), .fa (.tmp 84) 0, (some (80, false)), [12, 13, 14]⟩,
    ⟨(some 86), .ld (.tmp 85) 1 false, (some (80, false)), [12, 13, 14]⟩,
    ⟨(some 87), .bin .gtr (.tmp 83) (.tmp 86), (some (80, false)), []⟩,
    ⟨(some 88), .pick (.tmp 80) (.const (.bool true)) (.tmp 87), none, []⟩] [1, 2, 88]
def m_impl_IsValidServer_14 : Unit → MCode := fun _ => .region [] [⟨(some 4), .mv (.const (.bool false)), none, []⟩] [4]
def m_impl_IsValidServer_15 : Unit → MCode := fun _ => .seq m_impl_IsValidServer_14 (fun _ => .ret)
def m_impl_IsValidServer_16 : Unit → MCode := fun _ => .cond (.tmp 88) m_impl_IsValidServer_15 (fun _ => .skip)
def m_impl_IsValidServer_17 : Unit → MCode := fun _ => .seq m_impl_IsValidServer_13 m_impl_IsValidServer_16
def m_impl_IsValidServer_18 : Unit → MCode := fun _ => .region [] [⟨(some 89), .fa (.tmp 2) 4, none, []⟩,
    ⟨(some 90), .ld (.tmp 89) 4 true, none, []⟩,
    ⟨(some 91), .mv (.tmp 1), none, []⟩,
    ⟨(some 92), .call 98 [(.tmp 90), (.tmp 91)], none, []⟩] [2, 92]
def m_impl_IsValidServer_19 : Unit → MCode := fun _ => .region [] [⟨(some 94), .bin .eql (.tmp 92) (.const (.int .i64 1)), none, []⟩,
    ⟨(some 93), .mv (.tmp 94), none, []⟩] [2, 92, 93]
def m_impl_IsValidServer_20 : Unit → MCode := fun _ => .region [] [⟨(some 95), .bin .eql (.tmp 92) (.const (.int .i64 2)), none, []⟩,
    ⟨(some 93), .mv (.tmp 95), none, []⟩] [2, 92, 93]
def m_impl_IsValidServer_21 : Unit → MCode := fun _ => .cond (.tmp 93) (fun _ => .skip) m_impl_IsValidServer_20
def m_impl_IsValidServer_22 : Unit → MCode := fun _ => .seq m_impl_IsValidServer_19 m_impl_IsValidServer_21
def m_impl_IsValidServer_23 : Unit → MCode := fun _ => .region [] [⟨(some 96), .fa (.tmp 2) 8, none, []⟩,
    ⟨(some 97), .ld (.tmp 96) 1 false, none, []⟩,
    ⟨(some 98), .bin .eql (.tmp 97) (.const (.int .i64 0)), none, []⟩,
    ⟨(some 4), .mv (.tmp 98), none, []⟩] [4]
def m_impl_IsValidServer_24 : Unit → MCode := fun _ => .seq m_impl_IsValidServer_23 (fun _ => .ret)
def m_impl_IsValidServer_25 : Unit → MCode := fun _ => .region [] [⟨(some 100), .bin .eql (.tmp 92) (.const (.int .i64 3)), none, []⟩,
    ⟨(some 99), .mv (.tmp 100), none, []⟩] [2, 99]
def m_impl_IsValidServer_26 : Unit → MCode := fun _ => .region [] [⟨(some 101), .fa (.tmp 2) 8, none, []⟩,
    ⟨(some 102), .ld (.tmp 101) 1 false, none, []⟩,
    ⟨(some 103), .fa (.tmp 2) 9, none, []⟩,
    ⟨(some 104), .ld (.tmp 103) 1 false, none, []⟩,
    ⟨(some 105), .call 99 [(.tmp 102), (.tmp 104)], none, []⟩,
    ⟨(some 4), .mv (.tmp 105), none, []⟩] [4]
def m_impl_IsValidServer_27 : Unit → MCode := fun _ => .seq m_impl_IsValidServer_26 (fun _ => .ret)
def m_impl_IsValidServer_28 : Unit → MCode := fun _ => .cond (.tmp 99) m_impl_IsValidServer_27 (fun _ => .skip)
def m_impl_IsValidServer_29 : Unit → MCode := fun _ => .seq m_impl_IsValidServer_25 m_impl_IsValidServer_28
def m_impl_IsValidServer_30 : Unit → MCode := fun _ => .cond (.tmp 93) m_impl_IsValidServer_24 m_impl_IsValidServer_29
def m_impl_IsValidServer_31 : Unit → MCode := fun _ => .seq m_impl_IsValidServer_22 m_impl_IsValidServer_30
def m_impl_IsValidServer_32 : Unit → MCode := fun _ => .block 0 m_impl_IsValidServer_31
def m_impl_IsValidServer_33 : Unit → MCode := fun _ => .seq m_impl_IsValidServer_18 m_impl_IsValidServer_32
def m_impl_IsValidServer_34 : Unit → MCode := fun _ => .region [] [⟨(some 4), .mv (.const (.bool false)), none, []⟩] [4]
def m_impl_IsValidServer_35 : Unit → MCode := fun _ => .seq m_impl_IsValidServer_34 (fun _ => .ret)
def m_impl_IsValidServer_36 : Unit → MCode := fun _ => .seq m_impl_IsValidServer_33 m_impl_IsValidServer_35
def m_impl_IsValidServer_37 : Unit → MCode := fun _ => .seq m_impl_IsValidServer_17 m_impl_IsValidServer_36
def m_impl_IsValidServer_38 : Unit → MCode := fun _ => .seq m_impl_IsValidServer_12 m_impl_IsValidServer_37
def m_impl_IsValidServer_39 : Unit → MCode := fun _ => .seq m_impl_IsValidServer_7 m_impl_IsValidServer_38
def m_impl_IsValidServer_40 : Unit → MCode := fun _ => .seq m_impl_IsValidServer_2 m_impl_IsValidServer_39
def m_impl_IsValidServer_41 : Unit → MCode := fun _ => .seq m_impl_IsValidServer_1 m_impl_IsValidServer_40
def m_impl_IsValidServer : MCode := m_impl_IsValidServer_41 ()
def h_impl_IsValidServer : Hints := [(0, [1, 2], [], [], []), (1, [1, 2, 5], [], [], []), (2, [1, 2, 50], [], [], []), (3, [4], [], [], []), (4, [1, 2, 54], [], [], []), (5, [4], [], [], []), (6, [1, 2, 88], [[], [], [], [], [], [], [4, 5], [4, 5], [4, 5], [], [], [], [], [], [], [12, 13, 14], [12, 13, 14], [12, 13, 14]], [], []), (7, [4], [], [], []), (8, [2, 92], [], [], []), (9, [2, 92, 93], [], [], []), (10, [2, 92, 93], [], [], []), (11, [4], [], [], []), (12, [2, 99], [], [], []), (13, [4], [], [], []), (14, [4], [], [], [])]
def r_impl_IsValidServer : List RV := [.t 4]
abbrev n_impl_IsValidServer : Nat := 48
theorem k_impl_IsValidServer : Known Pr mu n_impl_IsValidServer m_impl_IsValidServer r_impl_IsValidServer Go.Proofs.Try.f48.ntmps := .of h_impl_IsValidServer hm Go.Proofs.Try.func48 (by kernel_rfl) (by kernel_rfl) (by kernel_rfl) (by kernel_rfl)
def m_laws_eqServer_1 : Unit → MCode := fun _ => .region [] [⟨(some 2), .box (.tmp 0), none, []⟩,
    ⟨(some 3), .box (.tmp 1), none, []⟩,
    ⟨(some 4), .mv (.const (.bool false)), none, []⟩] [2, 3]
def m_laws_eqServer_2 : Unit → MCode := fun _ => .region [] [⟨(some 5), .fa (.tmp 2) 0, none, []⟩,
    ⟨(some 6), .ld (.tmp 5) 1 false, none, []⟩,
    ⟨(some 7), .fa (.tmp 3) 0, none, []⟩,
    ⟨(some 8), .ld (.tmp 7) 1 false, none, []⟩,
    ⟨(some 9), .bbin .neq (.tmp 6) (.tmp 8), none, []⟩] [2, 3, 9]
def m_laws_eqServer_3 : Unit → MCode := fun _ => .region [] [⟨(some 4), .mv (.const (.bool false)), none, []⟩] [4]
def m_laws_eqServer_4 : Unit → MCode := fun _ => .seq m_laws_eqServer_3 (fun _ => .ret)
def m_laws_eqServer_5 : Unit → MCode := fun _ => .cond (.tmp 9) m_laws_eqServer_4 (fun _ => .skip)
def m_laws_eqServer_6 : Unit → MCode := fun _ => .seq m_laws_eqServer_2 m_laws_eqServer_5
def m_laws_eqServer_7 : Unit → MCode := fun _ => .region [] [⟨(some 10), .fa (.tmp 2) 1, none, []⟩,
    ⟨(some 11), .ld (.tmp 10) 1 false, none, []⟩,
    ⟨(some 12), .fa (.tmp 3) 1, none, []⟩,
    ⟨(some 13), .ld (.tmp 12) 1 false, none, []⟩,
    ⟨(some 14), .bbin .neq (.tmp 11) (.tmp 13), none, []⟩] [2, 3, 14]
def m_laws_eqServer_8 : Unit → MCode := fun _ => .region [] [⟨(some 4), .mv (.const (.bool false)), none, []⟩] [4]
def m_laws_eqServer_9 : Unit → MCode := fun _ => .seq m_laws_eqServer_8 (fun _ => .ret)
def m_laws_eqServer_10 : Unit → MCode := fun _ => .cond (.tmp 14) m_laws_eqServer_9 (fun _ => .skip)
def m_laws_eqServer_11 : Unit → MCode := fun _ => .seq m_laws_eqServer_7 m_laws_eqServer_10
def m_laws_eqServer_12 : Unit → MCode := fun _ => .region [] [⟨(some 15), .fa (.tmp 2) 2, none, []⟩,
    ⟨(some 16), .ld (.tmp 15) 1 false, none, []⟩,
    ⟨(some 17), .fa (.tmp 3) 2, none, []⟩,
    ⟨(some 18), .ld (.tmp 17) 1 false, none, []⟩,
    ⟨(some 19), .bin .neq (.tmp 16) (.tmp 18), none, []⟩] [2, 3, 19]
def m_laws_eqServer_13 : Unit → MCode := fun _ => .region [] [⟨(some 4), .mv (.const (.bool false)), none, []⟩] [4]
def m_laws_eqServer_14 : Unit → MCode := fun _ => .seq m_laws_eqServer_13 (fun _ => .ret)
def m_laws_eqServer_15 : Unit → MCode := fun _ => .cond (.tmp 19) m_laws_eqServer_14 (fun _ => .skip)
def m_laws_eqServer_16 : Unit → MCode := fun _ => .seq m_laws_eqServer_12 m_laws_eqServer_15
def m_laws_eqServer_17 : Unit → MCode := fun _ => .region [] [⟨(some 20), .fa (.tmp 2) 3, none, []⟩,
    ⟨(some 21), .ld (.tmp 20) 1 false, none, []⟩,
    ⟨(some 22), .fa (.tmp 3) 3, none, []⟩,
    ⟨(some 23), .ld (.tmp 22) 1 false, none, []⟩,
    ⟨(some 24), .bin .neq (.tmp 21) (.tmp 23), none, []⟩] [2, 3, 24]
def m_laws_eqServer_18 : Unit → MCode := fun _ => .region [] [⟨(some 4), .mv (.const (.bool false)), none, []⟩] [4]
def m_laws_eqServer_19 : Unit → MCode := fun _ => .seq m_laws_eqServer_18 (fun _ => .ret)
def m_laws_eqServer_20 : Unit → MCode := fun _ => .cond (.tmp 24) m_laws_eqServer_19 (fun _ => .skip)
def m_laws_eqServer_21 : Unit → MCode := fun _ => .seq m_laws_eqServer_17 m_laws_eqServer_20
def m_laws_eqServer_22 : Unit → MCode := fun _ => .region [] [⟨(some 25), .fa (.tmp 2) 4, none, []⟩,
    ⟨(some 26), .ld (.tmp 25) 4 true, none, []⟩,
    ⟨(some 27), .fa (.tmp 3) 4, none, []⟩,
    ⟨(some 28), .ld (.tmp 27) 4 true, none, []⟩,
    ⟨(some 29), .call 40 [(.tmp 26), (.tmp 28)], none, []⟩,
    ⟨(some 30), .not (.tmp 29), none, []⟩] [2, 3, 30]
def m_laws_eqServer_23 : Unit → MCode := fun _ => .region [] [⟨(some 4), .mv (.const (.bool false)), none, []⟩] [4]
def m_laws_eqServer_24 : Unit → MCode := fun _ => .seq m_laws_eqServer_23 (fun _ => .ret)
def m_laws_eqServer_25 : Unit → MCode := fun _ => .cond (.tmp 30) m_laws_eqServer_24 (fun _ => .skip)
def m_laws_eqServer_26 : Unit → MCode := fun _ => .seq m_laws_eqServer_22 m_laws_eqServer_25
def m_laws_eqServer_27 : Unit → MCode := fun _ => .region [] [⟨(some 31), .fa (.tmp 2) 8, none, []⟩,
    ⟨(some 32), .ld (.tmp 31) 1 false, none, []⟩,
    ⟨(some 33), .fa (.tmp 3) 8, none, []⟩,
    ⟨(some 34), .ld (.tmp 33) 1 false, none, []⟩,
    ⟨(some 35), .bin .neq (.tmp 32) (.tmp 34), none, []⟩] [2, 3, 35]
def m_laws_eqServer_28 : Unit → MCode := fun _ => .region [] [⟨(some 4), .mv (.const (.bool false)), none, []⟩] [4]
def m_laws_eqServer_29 : Unit → MCode := fun _ => .seq m_laws_eqServer_28 (fun _ => .ret)
def m_laws_eqServer_30 : Unit → MCode := fun _ => .cond (.tmp 35) m_laws_eqServer_29 (fun _ => .skip)
def m_laws_eqServer_31 : Unit → MCode := fun _ => .seq m_laws_eqServer_27 m_laws_eqServer_30
def m_laws_eqServer_32 : Unit → MCode := fun _ => .region [] [⟨(some 36), .fa (.tmp 2) 9, none, []⟩,
    ⟨(some 37), .ld (.tmp 36) 1 false, none, []⟩,
    ⟨(some 38), .fa (.tmp 3) 9, none, []⟩,
    ⟨(some 39), .ld (.tmp 38) 1 false, none, []⟩,
    ⟨(some 40), .call 100 [(.tmp 37), (.tmp 39)], none, []⟩,
    ⟨(some 41), .not (.tmp 40), none, []⟩] [2, 3, 41]
def m_laws_eqServer_33 : Unit → MCode := fun _ => .region [] [⟨(some 4), .mv (.const (.bool false)), none, []⟩] [4]
def m_laws_eqServer_34 : Unit → MCode := fun _ => .seq m_laws_eqServer_33 (fun _ => .ret)
def m_laws_eqServer_35 : Unit → MCode := fun _ => .cond (.tmp 41) m_laws_eqServer_34 (fun _ => .skip)
def m_laws_eqServer_36 : Unit → MCode := fun _ => .seq m_laws_eqServer_32 m_laws_eqServer_35
def m_laws_eqServer_37 : Unit → MCode := fun _ => .region [] [⟨(some 42), .fa (.tmp 2) 10, none, []⟩,
    ⟨(some 43), .ld (.tmp 42) 1 false, none, []⟩,
    ⟨(some 44), .fa (.tmp 3) 10, none, []⟩,
    ⟨(some 45), .ld (.tmp 44) 1 false, none, []⟩,
    ⟨(some 46), .bin .neq (.tmp 43) (.tmp 45), none, []⟩] [2, 3, 46]
def m_laws_eqServer_38 : Unit → MCode := fun _ => .region [] [⟨(some 4), .mv (.const (.bool false)), none, []⟩] [4]
def m_laws_eqServer_39 : Unit → MCode := fun _ => .seq m_laws_eqServer_38 (fun _ => .ret)
def m_laws_eqServer_40 : Unit → MCode := fun _ => .cond (.tmp 46) m_laws_eqServer_39 (fun _ => .skip)
def m_laws_eqServer_41 : Unit → MCode := fun _ => .seq m_laws_eqServer_37 m_laws_eqServer_40
def m_laws_eqServer_42 : Unit → MCode := fun _ => .region [] [⟨(some 47), .fa (.tmp 2) 11, none, []⟩,
    ⟨(some 48), .ld (.tmp 47) 1 false, none, []⟩,
    ⟨(some 49), .fa (.tmp 3) 11, none, []⟩,
    ⟨(some 50), .ld (.tmp 49) 1 false, none, []⟩,
    ⟨(some 51), .call 100 [(.tmp 48), (.tmp 50)], none, []⟩,
    ⟨(some 52), .not (.tmp 51), none, []⟩] [52]
def m_laws_eqServer_43 : Unit → MCode := fun _ => .region [] [⟨(some 4), .mv (.const (.bool false)), none, []⟩] [4]
def m_laws_eqServer_44 : Unit → MCode := fun _ => .seq m_laws_eqServer_43 (fun _ => .ret)
def m_laws_eqServer_45 : Unit → MCode := fun _ => .cond (.tmp 52) m_laws_eqServer_44 (fun _ => .skip)
def m_laws_eqServer_46 : Unit → MCode := fun _ => .seq m_laws_eqServer_42 m_laws_eqServer_45
def m_laws_eqServer_47 : Unit → MCode := fun _ => .region [] [⟨(some 4), .mv (.const (.bool true)), none, []⟩] [4]
def m_laws_eqServer_48 : Unit → MCode := fun _ => .seq m_laws_eqServer_47 (fun _ => .ret)
def m_laws_eqServer_49 : Unit → MCode := fun _ => .seq m_laws_eqServer_46 m_laws_eqServer_48
def m_laws_eqServer_50 : Unit → MCode := fun _ => .seq m_laws_eqServer_41 m_laws_eqServer_49
def m_laws_eqServer_51 : Unit → MCode := fun _ => .seq m_laws_eqServer_36 m_laws_eqServer_50
def m_laws_eqServer_52 : Unit → MCode := fun _ => .seq m_laws_eqServer_31 m_laws_eqServer_51
def m_laws_eqServer_53 : Unit → MCode := fun _ => .seq m_laws_eqServer_26 m_laws_eqServer_52
def m_laws_eqServer_54 : Unit → MCode := fun _ => .seq m_laws_eqServer_21 m_laws_eqServer_53
def m_laws_eqServer_55 : Unit → MCode := fun _ => .seq m_laws_eqServer_16 m_laws_eqServer_54
def m_laws_eqServer_56 : Unit → MCode := fun _ => .seq m_laws_eqServer_11 m_laws_eqServer_55
def m_laws_eqServer_57 : Unit → MCode := fun _ => .seq m_laws_eqServer_6 m_laws_eqServer_56
def m_laws_eqServer_58 : Unit → MCode := fun _ => .seq m_laws_eqServer_1 m_laws_eqServer_57
def m_laws_eqServer : MCode := m_laws_eqServer_58 ()
def h_laws_eqServer : Hints := [(0, [2, 3], [], [], []), (1, [2, 3, 9], [], [], []), (2, [4], [], [], []), (3, [2, 3, 14], [], [], []), (4, [4], [], [], []), (5, [2, 3, 19], [], [], []), (6, [4], [], [], []), (7, [2, 3, 24], [], [], []), (8, [4], [], [], []), (9, [2, 3, 30], [], [], []), (10, [4], [], [], []), (11, [2, 3, 35], [], [], []), (12, [4], [], [], []), (13, [2, 3, 41], [], [], []), (14, [4], [], [], []), (15, [2, 3, 46], [], [], []), (16, [4], [], [], []), (17, [52], [], [], []), (18, [4], [], [], []), (19, [4], [], [], [])]
def r_laws_eqServer : List RV := [.t 4]
abbrev n_laws_eqServer : Nat := 49
theorem k_laws_eqServer : Known Pr mu n_laws_eqServer m_laws_eqServer r_laws_eqServer Go.Proofs.Try.f49.ntmps := .of h_laws_eqServer hm Go.Proofs.Try.func49 (by kernel_rfl) (by kernel_rfl) (by kernel_rfl) (by kernel_rfl)
def m_spec_IsPrimaryNow_1 : Unit → MCode := fun _ => .region [] [⟨(some 2), .box (.tmp 0), none, []⟩,
    ⟨(some 4), .mv (.const (.bool false)), none, []⟩] [1, 2]
def m_spec_IsPrimaryNow_2 : Unit → MCode := fun _ => .region [] [⟨(some 5), .ld (.tmp 2) 12 true, none, []⟩,
    ⟨(some 6), .mv (.tmp 1), none, []⟩,
    ⟨(some 7), .call 46 [(.tmp 5), (.tmp 6)], none, []⟩,
    ⟨(some 8), .mv (.tmp 7), none, []⟩,
    ⟨(some 9), .fa (.tmp 2) 0, (some (8, true)), []⟩,
    ⟨(some 10), .ld (.tmp 9) 1 false, (some (8, true)), []⟩,
    ⟨(some 11), .pick (.tmp 8) (.tmp 10) (.const (.bool false)), none, []⟩,
    ⟨(some 12), .mv (.tmp 11), none, []⟩,
    ⟨(some 13), .fa (.tmp 2) 4, (some (12, true)), []⟩,
    ⟨(some 14), .ld (.tmp 13) 4 true, (some (12, true)), []⟩,
    ⟨(some 15), .mv (.tmp 1), (some (12, true)), []⟩,
    ⟨(some 16), .call 93 [(.tmp 14), (.tmp 15)], (some (12, true)), []⟩,
    ⟨(some 17), .bin .eql (.tmp 16) (.const (.int .i64 1)), (some (12, true)), []⟩,
    ⟨(some 18), .pick (.tmp 12) (.tmp 17) (.const (.bool false)), none, []⟩,
    ⟨(some 19), .mv (.tmp 18), none, []⟩,
    ⟨(some 20), .fa (.tmp 2) 3, (some (19, true)), []⟩,
    ⟨(some 21), .ld (.tmp 20) 1 false, (some (19, true)), []⟩,
    ⟨(some 22), .fa (.tmp 2) 4, (some (19, true)), []⟩,
    ⟨(some 23), .fa (.tmp 22) 0, (some (19, true)), []⟩,
    ⟨(some 24), .ld (.tmp 23) 1 false, (some (19, true)), []⟩,
    ⟨(some 25), .bin .eql (.tmp 21) (.tmp 24), (some (19, true)), []⟩,
    ⟨(some 26), .pick (.tmp 19) (.tmp 25) (.const (.bool false)), none, []⟩,
    ⟨(some 4), .mv (.tmp 26), none, []⟩] [4]
def m_spec_IsPrimaryNow_3 : Unit → MCode := fun _ => .seq m_spec_IsPrimaryNow_2 (fun _ => .ret)
def m_spec_IsPrimaryNow_4 : Unit → MCode := fun _ => .seq m_spec_IsPrimaryNow_1 m_spec_IsPrimaryNow_3
def m_spec_IsPrimaryNow : MCode := m_spec_IsPrimaryNow_4 ()
def h_spec_IsPrimaryNow : Hints := [(0, [1, 2], [], [], []), (1, [4], [], [], [])]
def r_spec_IsPrimaryNow : List RV := [.t 4]
abbrev n_spec_IsPrimaryNow : Nat := 50
theorem k_spec_IsPrimaryNow : Known Pr mu n_spec_IsPrimaryNow m_spec_IsPrimaryNow r_spec_IsPrimaryNow Go.Proofs.Try.f50.ntmps := .of h_spec_IsPrimaryNow hm Go.Proofs.Try.func50 (by kernel_rfl) (by kernel_rfl) (by kernel_rfl) (by kernel_rfl)
def m_impl_IsPrimaryNow_1 : Unit → MCode := fun _ => .region [] [⟨(some 2), .box (.tmp 0), none, []⟩,
    ⟨(some 4), .mv (.const (.bool false)), none, []⟩] [1, 2]
def m_impl_IsPrimaryNow_2 : Unit → MCode := fun _ => .region [] [⟨(some 5), .ld (.tmp 2) 12 true, none, []⟩,
    ⟨(some 6), .mv (.tmp 1), none, []⟩,
    ⟨(some 7), .call 48 [(.tmp 5), (.tmp 6)], none, []⟩,
    ⟨(some 8), .mv (.tmp 7), none, []⟩,
    ⟨(some 9), .fa (.tmp 2) 0, (some (8, true)), []⟩,
    ⟨(some 10), .ld (.tmp 9) 1 false, (some (8, true)), []⟩,
    ⟨(some 11), .pick (.tmp 8) (.tmp 10) (.const (.bool false)), none, []⟩,
    ⟨(some 12), .mv (.tmp 11), none, []⟩,
    ⟨(some 13), .fa (.tmp 2) 4, (some (12, true)), []⟩,
    ⟨(some 14), .ld (.tmp 13) 4 true, (some (12, true)), []⟩,
    ⟨(some 15), .mv (.tmp 1), (some (12, true)), []⟩,
    ⟨(some 16), .call 98 [(.tmp 14), (.tmp 15)], (some (12, true)), []⟩,
    ⟨(some 17), .bin .eql (.tmp 16) (.const (.int .i64 1)), (some (12, true)), []⟩,
    ⟨(some 18), .pick (.tmp 12) (.tmp 17) (.const (.bool false)), none, []⟩,
    ⟨(some 19), .mv (.tmp 18), none, []⟩,
    ⟨(some 20), .fa (.tmp 2) 3, (some (19, true)), []⟩,
    ⟨(some 21), .ld (.tmp 20) 1 false, (some (19, true)), []⟩,
    ⟨(some 22), .fa (.tmp 2) 4, (some (19, true)), []⟩,
    ⟨(some 23), .fa (.tmp 22) 0, (some (19, true)), []⟩,
    ⟨(some 24), .ld (.tmp 23) 1 false, (some (19, true)), []⟩,
    ⟨(some 25), .bin .eql (.tmp 21) (.tmp 24), (some (19, true)), []⟩,
    ⟨(some 26), .pick (.tmp 19) (.tmp 25) (.const (.bool false)), none, []⟩,
    ⟨(some 4), .mv (.tmp 26), none, []⟩] [4]
def m_impl_IsPrimaryNow_3 : Unit → MCode := fun _ => .seq m_impl_IsPrimaryNow_2 (fun _ => .ret)
def m_impl_IsPrimaryNow_4 : Unit → MCode := fun _ => .seq m_impl_IsPrimaryNow_1 m_impl_IsPrimaryNow_3
def m_impl_IsPrimaryNow : MCode := m_impl_IsPrimaryNow_4 ()
def h_impl_IsPrimaryNow : Hints := [(0, [1, 2], [], [], []), (1, [4], [], [], [])]
def r_impl_IsPrimaryNow : List RV := [.t 4]
abbrev n_impl_IsPrimaryNow : Nat := 51
theorem k_impl_IsPrimaryNow : Known Pr mu n_impl_IsPrimaryNow m_impl_IsPrimaryNow r_impl_IsPrimaryNow Go.Proofs.Try.f51.ntmps := .of h_impl_IsPrimaryNow hm Go.Proofs.Try.func51 (by kernel_rfl) (by kernel_rfl) (by kernel_rfl) (by kernel_rfl)
def m_spec_l1In_1 : Unit → MCode := fun _ => .region [] [⟨(some 6), .mv (.const (.bool false)), none, []⟩] [0, 1, 2]
def m_spec_l1In_2 : Unit → MCode := fun _ => .region [] [⟨(some 7), .mv (.tmp 0), none, []⟩,
    ⟨(some 8), .mv (.tmp 1), none, []⟩,
    ⟨(some 9), .bin .geq (.tmp 7) (.tmp 8), none, []⟩,
    ⟨(some 10), .mv (.tmp 9), none, []⟩,
    ⟨(some 11), .mv (.tmp 0), (some (10, true)), []⟩,
    ⟨(some 12), .mv (.tmp 2), (some (10, true)), []⟩,
    ⟨(some 13), .bin .leq (.tmp 11) (.tmp 12), (some (10, true)), []⟩,
    ⟨(some 14), .pick (.tmp 10) (.tmp 13) (.const (.bool false)), none, []⟩,
    ⟨(some 6), .mv (.tmp 14), none, []⟩] [6]
def m_spec_l1In_3 : Unit → MCode := fun _ => .seq m_spec_l1In_2 (fun _ => .ret)
def m_spec_l1In_4 : Unit → MCode := fun _ => .seq m_spec_l1In_1 m_spec_l1In_3
def m_spec_l1In : MCode := m_spec_l1In_4 ()
def h_spec_l1In : Hints := [(0, [0, 1, 2], [], [], []), (1, [6], [], [], [])]
def r_spec_l1In : List RV := [.t 6]
abbrev n_spec_l1In : Nat := 59
theorem k_spec_l1In : Known Pr mu n_spec_l1In m_spec_l1In r_spec_l1In Go.Proofs.Try.f59.ntmps := .of h_spec_l1In hm Go.Proofs.Try.func59 (by kernel_rfl) (by kernel_rfl) (by kernel_rfl) (by kernel_rfl)
def m_spec_l2Put_1 : Unit → MCode := fun _ => .region [] [⟨(some 4), .mv (.const (.slice none 0 0)), none, []⟩] [0, 1]
def m_spec_l2Put_2 : Unit → MCode := fun _ => .region [] [⟨(some 5), .mv (.const (.int .i64 0)), none, []⟩] [0, 1, 5]
def m_spec_l2Put_3 : Unit → MCode := fun _ => .region [] [⟨(some 6), .mv (.tmp 5), none, []⟩,
    ⟨(some 7), .mv (.tmp 0), none, []⟩,
    ⟨(some 8), .len false (.tmp 7), none, []⟩,
    ⟨(some 9), .bin .lss (.tmp 6) (.tmp 8), none, []⟩,
    ⟨(some 10), .mv (.tmp 9), none, []⟩,
    ⟨(some 11), .mv (.tmp 0), (some (10, true)), []⟩,
    ⟨(some 12), .mv (.tmp 5), (some (10, true)), []⟩,
    ⟨(some 13), .ia (.tmp 11) (.tmp 12) 1, (some (10, true)), []⟩,
    ⟨(some 14), .ld (.tmp 13) 1 false, (some (10, true)), []⟩,
    ⟨(some 15), .mv (.tmp 1), (some (10, true)), []⟩,
    ⟨(some 16), .bin .lss (.tmp 14) (.tmp 15), (some (10, true)), []⟩,
    ⟨(some 17), .pick (.tmp 10) (.tmp 16) (.const (.bool false)), none, []⟩] [0, 1, 5, 17]
def m_spec_l2Put_4 : Unit → MCode := fun _ => .cond (.tmp 17) (fun _ => .skip) (fun _ => .exit 0)
def m_spec_l2Put_5 : Unit → MCode := fun _ => .seq m_spec_l2Put_3 m_spec_l2Put_4
def m_spec_l2Put_6 : Unit → MCode := fun _ => .region [] [⟨(some 18), .mv (.tmp 5), none, []⟩,
    ⟨(some 19), .bin .add (.tmp 18) (.const (.int .i64 1)), none, []⟩,
    ⟨(some 5), .mv (.tmp 19), none, []⟩] [0, 1, 5]
def m_spec_l2Put_7 : Unit → MCode := fun _ => .block 1 m_spec_l2Put_6
def m_spec_l2Put_8 : Unit → MCode := fun _ => .seq m_spec_l2Put_5 m_spec_l2Put_7
def m_spec_l2Put_9 : Unit → MCode := fun _ => .loop m_spec_l2Put_8
def m_spec_l2Put_10 : Unit → MCode := fun _ => .block 0 m_spec_l2Put_9
def m_spec_l2Put_11 : Unit → MCode := fun _ => .region [] [⟨(some 20), .mv (.tmp 5), none, []⟩,
    ⟨(some 21), .mv (.tmp 0), none, []⟩,
    ⟨(some 22), .len false (.tmp 21), none, []⟩,
    ⟨(some 23), .bin .lss (.tmp 20) (.tmp 22), none, []⟩,
    ⟨(some 24), .mv (.tmp 23), none, []⟩,
    ⟨(some 25), .mv (.tmp 0), (some (24, true)), []⟩,
    ⟨(some 26), .mv (.tmp 5), (some (24, true)), []⟩,
    ⟨(some 27), .ia (.tmp 25) (.tmp 26) 1, (some (24, true)), []⟩,
    ⟨(some 28), .ld (.tmp 27) 1 false, (some (24, true)), []⟩,
    ⟨(some 29), .mv (.tmp 1), (some (24, true)), []⟩,
    ⟨(some 30), .bin .eql (.tmp 28) (.tmp 29), (some (24, true)), []⟩,
    ⟨(some 31), .pick (.tmp 24) (.tmp 30) (.const (.bool false)), none, []⟩] [0, 1, 5, 31]
def m_spec_l2Put_12 : Unit → MCode := fun _ => .region [] [⟨(some 32), .bsl 1 0 [.int .i64 0] [], none, []⟩,
    ⟨(some 33), .mv (.tmp 0), none, []⟩,
    ⟨(some 34), .app (.tmp 32) (.tmp 33) 1 8, none, []⟩,
    ⟨(some 4), .mv (.tmp 34), none, []⟩] [4]
def m_spec_l2Put_13 : Unit → MCode := fun _ => .seq m_spec_l2Put_12 (fun _ => .ret)
def m_spec_l2Put_14 : Unit → MCode := fun _ => .cond (.tmp 31) m_spec_l2Put_13 (fun _ => .skip)
def m_spec_l2Put_15 : Unit → MCode := fun _ => .seq m_spec_l2Put_11 m_spec_l2Put_14
def m_spec_l2Put_16 : Unit → MCode := fun _ => .region [⟨(some 43), .mv (.tmp 0), none, []⟩, ⟨(some 44), .mv (.tmp 5), none, []⟩, ⟨(some 45), .slf (.tmp 43) (some (.tmp 44)) none 1, none, []⟩] [⟨(some 35), .bsl 1 0 [.int .i64 0] [], none, []⟩,
    ⟨(some 36), .mv (.tmp 0), none, []⟩,
    ⟨(some 37), .mv (.tmp 5), none, []⟩,
    ⟨(some 38), .slc false (.tmp 36) none (some (.tmp 37)) none 1, none, [0]⟩,
    ⟨(some 39), .appn (.tmp 35) (.tmp 38) 1 8, none, [1000000]⟩,
    ⟨(some 40), .mv (.tmp 1), none, []⟩,
    ⟨(some 41), .bsl 1 1 [.int .i64 0] [(0, (.tmp 40))], none, []⟩,
    ⟨(some 42), .app (.tmp 39) (.tmp 41) 1 8, none, []⟩,
    ⟨(some 43), .mv (.tmp 43), none, []⟩,
    ⟨(some 44), .mv (.tmp 44), none, []⟩,
    ⟨(some 45), .mv (.tmp 45), none, []⟩,
    ⟨(some 46), .app (.tmp 42) (.tmp 45) 1 8, none, []⟩,
    ⟨(some 4), .mv (.tmp 46), none, []⟩] [4]
def m_spec_l2Put_17 : Unit → MCode := fun _ => .seq m_spec_l2Put_16 (fun _ => .ret)
def m_spec_l2Put_18 : Unit → MCode := fun _ => .seq m_spec_l2Put_15 m_spec_l2Put_17
def m_spec_l2Put_19 : Unit → MCode := fun _ => .seq m_spec_l2Put_10 m_spec_l2Put_18
def m_spec_l2Put_20 : Unit → MCode := fun _ => .seq m_spec_l2Put_2 m_spec_l2Put_19
def m_spec_l2Put_21 : Unit → MCode := fun _ => .seq m_spec_l2Put_1 m_spec_l2Put_20
def m_spec_l2Put : MCode := m_spec_l2Put_21 ()
def h_spec_l2Put : Hints := [(0, [0, 1], [], [], []), (1, [0, 1, 5], [], [], []), (2, [0, 1, 5, 17], [], [], []), (3, [0, 1, 5], [], [], []), (4, [0, 1, 5, 31], [], [], []), (5, [4], [], [], []), (6, [4], [[], [], [], [0], [1000000]], [8, 9, 10], [])]
def r_spec_l2Put : List RV := [.t 4]
abbrev n_spec_l2Put : Nat := 60
theorem k_spec_l2Put : Known Pr mu n_spec_l2Put m_spec_l2Put r_spec_l2Put Go.Proofs.Try.f60.ntmps := .of h_spec_l2Put hm Go.Proofs.Try.func60 (by kernel_rfl) (by kernel_rfl) (by kernel_rfl) (by kernel_rfl)
def m_impl_AreServers_1 : Unit → MCode := fun _ => .region [] [⟨(some 2), .mv (.const (.bool false)), none, []⟩] [0]
def m_impl_AreServers_2 : Unit → MCode := fun _ => .region [] [⟨(some 5), .mv (.tmp 0), none, []⟩,
    ⟨(some 6), .len false (.tmp 5), none, []⟩,
    ⟨(some 7), .mv (.const (.int .i64 0)), none, []⟩] [0, 5, 6, 7]
def m_impl_AreServers_3 : Unit → MCode := fun _ => .region [] [⟨(some 8), .bin .lss (.tmp 7) (.tmp 6), none, []⟩] [0, 5, 6, 7, 8]
def m_impl_AreServers_4 : Unit → MCode := fun _ => .cond (.tmp 8) (fun _ => .skip) (fun _ => .exit 0)
def m_impl_AreServers_5 : Unit → MCode := fun _ => .region [] [⟨(some 9), .mv (.tmp 7), none, []⟩,
    ⟨(some 10), .ia (.tmp 5) (.tmp 7) 1, none, []⟩,
    ⟨(some 11), .ld (.tmp 10) 1 false, none, []⟩,
    ⟨(some 3), .mv (.tmp 9), none, []⟩,
    ⟨(some 4), .mv (.tmp 11), none, []⟩] [0, 3, 4, 5, 6, 7]
def m_impl_AreServers_6 : Unit → MCode := fun _ => .region [] [⟨(some 12), .mv (.tmp 4), none, []⟩,
    ⟨(some 13), .call 64 [(.tmp 12), (.const (.int .i64 0)), (.const (.int .i64 4))], none, []⟩,
    ⟨(some 14), .not (.tmp 13), none, []⟩,
    ⟨(some 15), .mv (.tmp 14), none, []⟩,
    ⟨(some 16), .mv (.tmp 3), (some (15, false)), []⟩,
    ⟨(some 17), .bin .gtr (.tmp 16) (.const (.int .i64 0)), (some (15, false)), []⟩,
    ⟨(some 18), .mv (.tmp 17), (some (15, false)), []⟩,
    ⟨(some 19), .mv (.tmp 4), (some (18, true)), []⟩,
    ⟨(some 20), .mv (.tmp 0), (some (18, true)), []⟩,
    ⟨(some 21), .mv (.tmp 3), (some (18, true)), []⟩,
    ⟨(some 22), .bin .sub (.tmp 21) (.const (.int .i64 1)), (some (18, true)), []⟩,
    ⟨(some 23), .ia (.tmp 20) (.tmp 22) 1, (some (18, true)), []⟩,
    ⟨(some 24), .ld (.tmp 23) 1 false, (some (18, true)), []⟩,
    ⟨(some 25), .bin .leq (.tmp 19) (.tmp 24), (some (18, true)), []⟩,
    ⟨(some 26), .pick (.tmp 18) (.tmp 25) (.const (.bool false)), (some (15, false)), []⟩,
    ⟨(some 27), .pick (.tmp 15) (.const (.bool true)) (.tmp 26), none, []⟩] [0, 5, 6, 7, 27]
def m_impl_AreServers_7 : Unit → MCode := fun _ => .region [] [⟨(some 2), .mv (.const (.bool false)), none, []⟩] [2]
def m_impl_AreServers_8 : Unit → MCode := fun _ => .seq m_impl_AreServers_7 (fun _ => .ret)
def m_impl_AreServers_9 : Unit → MCode := fun _ => .cond (.tmp 27) m_impl_AreServers_8 (fun _ => .skip)
def m_impl_AreServers_10 : Unit → MCode := fun _ => .seq m_impl_AreServers_6 m_impl_AreServers_9
def m_impl_AreServers_11 : Unit → MCode := fun _ => .seq m_impl_AreServers_5 m_impl_AreServers_10
def m_impl_AreServers_12 : Unit → MCode := fun _ => .block 1 m_impl_AreServers_11
def m_impl_AreServers_13 : Unit → MCode := fun _ => .region [] [⟨(some 28), .bin .add (.tmp 7) (.const (.int .i64 1)), none, []⟩,
    ⟨(some 7), .mv (.tmp 28), none, []⟩] [0, 5, 6, 7]
def m_impl_AreServers_14 : Unit → MCode := fun _ => .seq m_impl_AreServers_12 m_impl_AreServers_13
def m_impl_AreServers_15 : Unit → MCode := fun _ => .seq m_impl_AreServers_4 m_impl_AreServers_14
def m_impl_AreServers_16 : Unit → MCode := fun _ => .seq m_impl_AreServers_3 m_impl_AreServers_15
def m_impl_AreServers_17 : Unit → MCode := fun _ => .loop m_impl_AreServers_16
def m_impl_AreServers_18 : Unit → MCode := fun _ => .block 0 m_impl_AreServers_17
def m_impl_AreServers_19 : Unit → MCode := fun _ => .seq m_impl_AreServers_2 m_impl_AreServers_18
def m_impl_AreServers_20 : Unit → MCode := fun _ => .region [] [⟨(some 2), .mv (.const (.bool true)), none, []⟩] [2]
def m_impl_AreServers_21 : Unit → MCode := fun _ => .seq m_impl_AreServers_20 (fun _ => .ret)
def m_impl_AreServers_22 : Unit → MCode := fun _ => .seq m_impl_AreServers_19 m_impl_AreServers_21
def m_impl_AreServers_23 : Unit → MCode := fun _ => .seq m_impl_AreServers_1 m_impl_AreServers_22
def m_impl_AreServers : MCode := m_impl_AreServers_23 ()
def h_impl_AreServers : Hints := [(0, [0], [], [], []), (1, [0, 5, 6, 7], [], [], []), (2, [0, 5, 6, 7, 8], [], [], []), (3, [0, 3, 4, 5, 6, 7], [], [], []), (4, [0, 5, 6, 7, 27], [], [], []), (5, [2], [], [], []), (6, [0, 5, 6, 7], [], [], []), (7, [2], [], [], [])]
def r_impl_AreServers : List RV := [.t 2]
abbrev n_impl_AreServers : Nat := 63
theorem k_impl_AreServers : Known Pr mu n_impl_AreServers m_impl_AreServers r_impl_AreServers Go.Proofs.Try.f63.ntmps := .of h_impl_AreServers hm Go.Proofs.Try.func63 (by kernel_rfl) (by kernel_rfl) (by kernel_rfl) (by kernel_rfl)
def m_impl_within_1 : Unit → MCode := fun _ => .region [] [⟨(some 6), .mv (.const (.bool false)), none, []⟩] [0, 1, 2]
def m_impl_within_2 : Unit → MCode := fun _ => .region [] [⟨(some 7), .mv (.tmp 1), none, []⟩,
    ⟨(some 8), .mv (.tmp 0), none, []⟩,
    ⟨(some 9), .bin .leq (.tmp 7) (.tmp 8), none, []⟩,
    ⟨(some 10), .mv (.tmp 9), none, []⟩,
    ⟨(some 11), .mv (.tmp 0), (some (10, true)), []⟩,
    ⟨(some 12), .mv (.tmp 2), (some (10, true)), []⟩,
    ⟨(some 13), .bin .leq (.tmp 11) (.tmp 12), (some (10, true)), []⟩,
    ⟨(some 14), .pick (.tmp 10) (.tmp 13) (.const (.bool false)), none, []⟩,
    ⟨(some 6), .mv (.tmp 14), none, []⟩] [6]
def m_impl_within_3 : Unit → MCode := fun _ => .seq m_impl_within_2 (fun _ => .ret)
def m_impl_within_4 : Unit → MCode := fun _ => .seq m_impl_within_1 m_impl_within_3
def m_impl_within : MCode := m_impl_within_4 ()
def h_impl_within : Hints := [(0, [0, 1, 2], [], [], []), (1, [6], [], [], [])]
def r_impl_within : List RV := [.t 6]
abbrev n_impl_within : Nat := 64
theorem k_impl_within : Known Pr mu n_impl_within m_impl_within r_impl_within Go.Proofs.Try.f64.ntmps := .of h_impl_within hm Go.Proofs.Try.func64 (by kernel_rfl) (by kernel_rfl) (by kernel_rfl) (by kernel_rfl)
def m_impl_CommonServers_1 : Unit → MCode := fun _ => .region [] [⟨(some 4), .mv (.const (.slice none 0 0)), none, []⟩] [0, 1]
def m_impl_CommonServers_2 : Unit → MCode := fun _ => .region [] [⟨(some 5), .mv (.tmp 0), none, []⟩,
    ⟨(some 6), .mv (.tmp 0), none, []⟩,
    ⟨(some 7), .mv (.tmp 1), none, []⟩,
    ⟨(some 8), .call 66 [(.tmp 6), (.tmp 7)], none, []⟩,
    ⟨(some 9), .call 66 [(.tmp 5), (.tmp 8)], none, []⟩,
    ⟨(some 4), .mv (.tmp 9), none, []⟩] [4]
def m_impl_CommonServers_3 : Unit → MCode := fun _ => .seq m_impl_CommonServers_2 (fun _ => .ret)
def m_impl_CommonServers_4 : Unit → MCode := fun _ => .seq m_impl_CommonServers_1 m_impl_CommonServers_3
def m_impl_CommonServers : MCode := m_impl_CommonServers_4 ()
def h_impl_CommonServers : Hints := [(0, [0, 1], [], [], []), (1, [4], [], [], [])]
def r_impl_CommonServers : List RV := [.t 4]
abbrev n_impl_CommonServers : Nat := 65
theorem k_impl_CommonServers : Known Pr mu n_impl_CommonServers m_impl_CommonServers r_impl_CommonServers Go.Proofs.Try.f65.ntmps := .of h_impl_CommonServers hm Go.Proofs.Try.func65 (by kernel_rfl) (by kernel_rfl) (by kernel_rfl) (by kernel_rfl)
def m_impl_WithoutServers_1 : Unit → MCode := fun _ => .region [] [⟨(some 3), .box (.tmp 1), none, []⟩,
    ⟨(some 4), .mv (.const (.slice none 0 0)), none, []⟩] [0, 3]
def m_impl_WithoutServers_2 : Unit → MCode := fun _ => .region [] [⟨(some 5), .mv (.tmp 0), none, []⟩,
    ⟨(some 6), .call 78 [(.tmp 5)], none, []⟩,
    ⟨(some 7), .mkf 113 [(.tmp 3)], none, []⟩,
    ⟨(some 8), .callm 112 [(.tmp 6), (.tmp 7)], none, []⟩,
    ⟨(some 4), .mv (.tmp 8), none, []⟩] [4]
def m_impl_WithoutServers_3 : Unit → MCode := fun _ => .seq m_impl_WithoutServers_2 (fun _ => .ret)
def m_impl_WithoutServers_4 : Unit → MCode := fun _ => .seq m_impl_WithoutServers_1 m_impl_WithoutServers_3
def m_impl_WithoutServers : MCode := m_impl_WithoutServers_4 ()
def h_impl_WithoutServers : Hints := [(0, [0, 3], [], [], []), (1, [4], [], [], [])]
def r_impl_WithoutServers : List RV := [.t 4]
abbrev n_impl_WithoutServers : Nat := 66
theorem k_impl_WithoutServers : Known Pr mu n_impl_WithoutServers m_impl_WithoutServers r_impl_WithoutServers Go.Proofs.Try.f66.ntmps := .of h_impl_WithoutServers hm Go.Proofs.Try.func66 (by kernel_rfl) (by kernel_rfl) (by kernel_rfl) (by kernel_rfl)
def m_impl_HasServer_1 : Unit → MCode := fun _ => .region [] [⟨(some 4), .mv (.const (.bool false)), none, []⟩] [0, 1]
def m_impl_HasServer_2 : Unit → MCode := fun _ => .region [] [⟨(some 5), .mv (.tmp 0), none, []⟩,
    ⟨(some 6), .mv (.tmp 1), none, []⟩,
    ⟨(some 7), .call 119 [(.tmp 5), (.tmp 6)], none, []⟩,
    ⟨(some 4), .mv (.tmp 7), none, []⟩] [4]
def m_impl_HasServer_3 : Unit → MCode := fun _ => .seq m_impl_HasServer_2 (fun _ => .ret)
def m_impl_HasServer_4 : Unit → MCode := fun _ => .seq m_impl_HasServer_1 m_impl_HasServer_3
def m_impl_HasServer : MCode := m_impl_HasServer_4 ()
def h_impl_HasServer : Hints := [(0, [0, 1], [], [], []), (1, [4], [], [], [])]
def r_impl_HasServer : List RV := [.t 4]
abbrev n_impl_HasServer : Nat := 75
theorem k_impl_HasServer : Known Pr mu n_impl_HasServer m_impl_HasServer r_impl_HasServer Go.Proofs.Try.f75.ntmps := .of h_impl_HasServer hm Go.Proofs.Try.func75 (by kernel_rfl) (by kernel_rfl) (by kernel_rfl) (by kernel_rfl)
def m_impl_ascending_1 : Unit → MCode := fun _ => .region [] [⟨(some 2), .mv (.const (.slice none 0 0)), none, []⟩] [0]
def m_impl_ascending_2 : Unit → MCode := fun _ => .region [] [⟨(some 4), .mv (.tmp 0), none, []⟩,
    ⟨(some 5), .call 120 [(.tmp 4)], none, []⟩,
    ⟨(some 3), .mv (.tmp 5), none, []⟩] [3]
def m_impl_ascending_3 : Unit → MCode := fun _ => .region [] [⟨(some 6), .mv (.tmp 3), none, []⟩,
    ⟨(some 7), .callm 121 [(.tmp 6)], none, []⟩] [3]
def m_impl_ascending_4 : Unit → MCode := fun _ => .region [] [⟨(some 8), .mv (.tmp 3), none, []⟩,
    ⟨(some 9), .callm 122 [(.tmp 8)], none, []⟩,
    ⟨(some 2), .mv (.tmp 9), none, []⟩] [2]
def m_impl_ascending_5 : Unit → MCode := fun _ => .seq m_impl_ascending_4 (fun _ => .ret)
def m_impl_ascending_6 : Unit → MCode := fun _ => .seq m_impl_ascending_3 m_impl_ascending_5
def m_impl_ascending_7 : Unit → MCode := fun _ => .seq m_impl_ascending_2 m_impl_ascending_6
def m_impl_ascending_8 : Unit → MCode := fun _ => .seq m_impl_ascending_1 m_impl_ascending_7
def m_impl_ascending : MCode := m_impl_ascending_8 ()
def h_impl_ascending : Hints := [(0, [0], [], [], []), (1, [3], [], [], []), (2, [3], [], [], []), (3, [2], [], [], [])]
def r_impl_ascending : List RV := [.t 2]
abbrev n_impl_ascending : Nat := 78
theorem k_impl_ascending : Known Pr mu n_impl_ascending m_impl_ascending r_impl_ascending Go.Proofs.Try.f78.ntmps := .of h_impl_ascending hm Go.Proofs.Try.func78 (by kernel_rfl) (by kernel_rfl) (by kernel_rfl) (by kernel_rfl)
def m_spec_EqualConfigs_1 : Unit → MCode := fun _ => .region [] [⟨(some 2), .box (.tmp 0), none, []⟩,
    ⟨(some 3), .box (.tmp 1), none, []⟩,
    ⟨(some 4), .mv (.const (.bool false)), none, []⟩] [2, 3]
def m_spec_EqualConfigs_2 : Unit → MCode := fun _ => .region [] [⟨(some 5), .fa (.tmp 2) 0, none, []⟩,
    ⟨(some 6), .ld (.tmp 5) 1 false, none, []⟩,
    ⟨(some 7), .fa (.tmp 3) 0, none, []⟩,
    ⟨(some 8), .ld (.tmp 7) 1 false, none, []⟩,
    ⟨(some 9), .bin .eql (.tmp 6) (.tmp 8), none, []⟩,
    ⟨(some 10), .mv (.tmp 9), none, []⟩,
    ⟨(some 11), .fa (.tmp 2) 1, (some (10, true)), []⟩,
    ⟨(some 12), .ld (.tmp 11) 1 false, (some (10, true)), []⟩,
    ⟨(some 13), .fa (.tmp 3) 1, (some (10, true)), []⟩,
    ⟨(some 14), .ld (.tmp 13) 1 false, (some (10, true)), []⟩,
    ⟨(some 15), .bin .eql (.tmp 12) (.tmp 14), (some (10, true)), []⟩,
    ⟨(some 16), .pick (.tmp 10) (.tmp 15) (.const (.bool false)), none, []⟩,
    ⟨(some 17), .mv (.tmp 16), none, []⟩,
    ⟨(some 18), .fa (.tmp 2) 2, (some (17, true)), []⟩,
    ⟨(some 19), .ld (.tmp 18) 1 false, (some (17, true)), []⟩,
    ⟨(some 20), .fa (.tmp 3) 2, (some (17, true)), []⟩,
    ⟨(some 21), .ld (.tmp 20) 1 false, (some (17, true)), []⟩,
    ⟨(some 22), .call 124 [(.tmp 19), (.tmp 21)], (some (17, true)), []⟩,
    ⟨(some 23), .pick (.tmp 17) (.tmp 22) (.const (.bool false)), none, []⟩,
    ⟨(some 24), .mv (.tmp 23), none, []⟩,
    ⟨(some 25), .fa (.tmp 2) 3, (some (24, true)), []⟩,
    ⟨(some 26), .ld (.tmp 25) 1 false, (some (24, true)), []⟩,
    ⟨(some 27), .fa (.tmp 3) 3, (some (24, true)), []⟩,
    ⟨(some 28), .ld (.tmp 27) 1 false, (some (24, true)), []⟩,
    ⟨(some 29), .call 124 [(.tmp 26), (.tmp 28)], (some (24, true)), []⟩,
    ⟨(some 30), .pick (.tmp 24) (.tmp 29) (.const (.bool false)), none, []⟩,
    ⟨(some 4), .mv (.tmp 30), none, []⟩] [4]
def m_spec_EqualConfigs_3 : Unit → MCode := fun _ => .seq m_spec_EqualConfigs_2 (fun _ => .ret)
def m_spec_EqualConfigs_4 : Unit → MCode := fun _ => .seq m_spec_EqualConfigs_1 m_spec_EqualConfigs_3
def m_spec_EqualConfigs : MCode := m_spec_EqualConfigs_4 ()
def h_spec_EqualConfigs : Hints := [(0, [2, 3], [], [], []), (1, [4], [], [], [])]
def r_spec_EqualConfigs : List RV := [.t 4]
abbrev n_spec_EqualConfigs : Nat := 81
theorem k_spec_EqualConfigs : Known Pr mu n_spec_EqualConfigs m_spec_EqualConfigs r_spec_EqualConfigs Go.Proofs.Try.f81.ntmps := .of h_spec_EqualConfigs hm Go.Proofs.Try.func81 (by kernel_rfl) (by kernel_rfl) (by kernel_rfl) (by kernel_rfl)
def m_impl_EqualConfigs_1 : Unit → MCode := fun _ => .region [] [⟨(some 2), .box (.tmp 0), none, []⟩,
    ⟨(some 3), .box (.tmp 1), none, []⟩,
    ⟨(some 4), .mv (.const (.bool false)), none, []⟩] [2, 3]
def m_impl_EqualConfigs_2 : Unit → MCode := fun _ => .region [] [⟨(some 5), .fa (.tmp 2) 0, none, []⟩,
    ⟨(some 6), .ld (.tmp 5) 1 false, none, []⟩,
    ⟨(some 7), .fa (.tmp 3) 0, none, []⟩,
    ⟨(some 8), .ld (.tmp 7) 1 false, none, []⟩,
    ⟨(some 9), .bin .eql (.tmp 6) (.tmp 8), none, []⟩,
    ⟨(some 10), .mv (.tmp 9), none, []⟩,
    ⟨(some 11), .fa (.tmp 2) 1, (some (10, true)), []⟩,
    ⟨(some 12), .ld (.tmp 11) 1 false, (some (10, true)), []⟩,
    ⟨(some 13), .fa (.tmp 3) 1, (some (10, true)), []⟩,
    ⟨(some 14), .ld (.tmp 13) 1 false, (some (10, true)), []⟩,
    ⟨(some 15), .bin .eql (.tmp 12) (.tmp 14), (some (10, true)), []⟩,
    ⟨(some 16), .pick (.tmp 10) (.tmp 15) (.const (.bool false)), none, []⟩,
    ⟨(some 17), .mv (.tmp 16), none, []⟩,
    ⟨(some 18), .fa (.tmp 2) 2, (some (17, true)), []⟩,
    ⟨(some 19), .ld (.tmp 18) 1 false, (some (17, true)), []⟩,
    ⟨(some 20), .fa (.tmp 3) 2, (some (17, true)), []⟩,
    ⟨(some 21), .ld (.tmp 20) 1 false, (some (17, true)), []⟩,
    ⟨(some 22), .call 128 [(.tmp 19), (.tmp 21)], (some (17, true)), []⟩,
    ⟨(some 23), .pick (.tmp 17) (.tmp 22) (.const (.bool false)), none, []⟩,
    ⟨(some 24), .mv (.tmp 23), none, []⟩,
    ⟨(some 25), .fa (.tmp 2) 3, (some (24, true)), []⟩,
    ⟨(some 26), .ld (.tmp 25) 1 false, (some (24, true)), []⟩,
    ⟨(some 27), .fa (.tmp 3) 3, (some (24, true)), []⟩,
    ⟨(some 28), .ld (.tmp 27) 1 false, (some (24, true)), []⟩,
    ⟨(some 29), .call 128 [(.tmp 26), (.tmp 28)], (some (24, true)), []⟩,
    ⟨(some 30), .pick (.tmp 24) (.tmp 29) (.const (.bool false)), none, []⟩,
    ⟨(some 4), .mv (.tmp 30), none, []⟩] [4]
def m_impl_EqualConfigs_3 : Unit → MCode := fun _ => .seq m_impl_EqualConfigs_2 (fun _ => .ret)
def m_impl_EqualConfigs_4 : Unit → MCode := fun _ => .seq m_impl_EqualConfigs_1 m_impl_EqualConfigs_3
def m_impl_EqualConfigs : MCode := m_impl_EqualConfigs_4 ()
def h_impl_EqualConfigs : Hints := [(0, [2, 3], [], [], []), (1, [4], [], [], [])]
def r_impl_EqualConfigs : List RV := [.t 4]
abbrev n_impl_EqualConfigs : Nat := 85
theorem k_impl_EqualConfigs : Known Pr mu n_impl_EqualConfigs m_impl_EqualConfigs r_impl_EqualConfigs Go.Proofs.Try.f85.ntmps := .of h_impl_EqualConfigs hm Go.Proofs.Try.func85 (by kernel_rfl) (by kernel_rfl) (by kernel_rfl) (by kernel_rfl)
def m_laws_szConfig_1 : Unit → MCode := fun _ => .region [] [⟨(some 2), .box (.tmp 0), none, []⟩,
    ⟨(some 4), .mv (.const (.int .i64 0)), none, []⟩] [1, 2]
def m_laws_szConfig_2 : Unit → MCode := fun _ => .region [] [⟨(some 5), .fa (.tmp 2) 2, none, []⟩,
    ⟨(some 6), .ld (.tmp 5) 1 false, none, []⟩,
    ⟨(some 7), .mv (.tmp 1), none, []⟩,
    ⟨(some 8), .call 101 [(.tmp 6), (.tmp 7)], none, []⟩,
    ⟨(some 1), .mv (.tmp 8), none, []⟩] [1, 2]
def m_laws_szConfig_3 : Unit → MCode := fun _ => .region [] [⟨(some 9), .mv (.tmp 1), none, []⟩,
    ⟨(some 10), .bin .lss (.tmp 9) (.const (.int .i64 0)), none, []⟩] [1, 2, 10]
def m_laws_szConfig_4 : Unit → MCode := fun _ => .region [] [⟨(some 4), .mv (.const (.int .i64 (-1))), none, []⟩] [4]
def m_laws_szConfig_5 : Unit → MCode := fun _ => .seq m_laws_szConfig_4 (fun _ => .ret)
def m_laws_szConfig_6 : Unit → MCode := fun _ => .cond (.tmp 10) m_laws_szConfig_5 (fun _ => .skip)
def m_laws_szConfig_7 : Unit → MCode := fun _ => .seq m_laws_szConfig_3 m_laws_szConfig_6
def m_laws_szConfig_8 : Unit → MCode := fun _ => .region [] [⟨(some 11), .fa (.tmp 2) 3, none, []⟩,
    ⟨(some 12), .ld (.tmp 11) 1 false, none, []⟩,
    ⟨(some 13), .mv (.tmp 1), none, []⟩,
    ⟨(some 14), .call 101 [(.tmp 12), (.tmp 13)], none, []⟩,
    ⟨(some 1), .mv (.tmp 14), none, []⟩] [1]
def m_laws_szConfig_9 : Unit → MCode := fun _ => .region [] [⟨(some 15), .mv (.tmp 1), none, []⟩,
    ⟨(some 16), .bin .lss (.tmp 15) (.const (.int .i64 0)), none, []⟩] [1, 16]
def m_laws_szConfig_10 : Unit → MCode := fun _ => .region [] [⟨(some 4), .mv (.const (.int .i64 (-1))), none, []⟩] [4]
def m_laws_szConfig_11 : Unit → MCode := fun _ => .seq m_laws_szConfig_10 (fun _ => .ret)
def m_laws_szConfig_12 : Unit → MCode := fun _ => .cond (.tmp 16) m_laws_szConfig_11 (fun _ => .skip)
def m_laws_szConfig_13 : Unit → MCode := fun _ => .seq m_laws_szConfig_9 m_laws_szConfig_12
def m_laws_szConfig_14 : Unit → MCode := fun _ => .region [] [⟨(some 17), .mv (.tmp 1), none, []⟩,
    ⟨(some 4), .mv (.tmp 17), none, []⟩] [4]
def m_laws_szConfig_15 : Unit → MCode := fun _ => .seq m_laws_szConfig_14 (fun _ => .ret)
def m_laws_szConfig_16 : Unit → MCode := fun _ => .seq m_laws_szConfig_13 m_laws_szConfig_15
def m_laws_szConfig_17 : Unit → MCode := fun _ => .seq m_laws_szConfig_8 m_laws_szConfig_16
def m_laws_szConfig_18 : Unit → MCode := fun _ => .seq m_laws_szConfig_7 m_laws_szConfig_17
def m_laws_szConfig_19 : Unit → MCode := fun _ => .seq m_laws_szConfig_2 m_laws_szConfig_18
def m_laws_szConfig_20 : Unit → MCode := fun _ => .seq m_laws_szConfig_1 m_laws_szConfig_19
def m_laws_szConfig : MCode := m_laws_szConfig_20 ()
def h_laws_szConfig : Hints := [(0, [1, 2], [], [], []), (1, [1, 2], [], [], []), (2, [1, 2, 10], [], [], []), (3, [4], [], [], []), (4, [1], [], [], []), (5, [1, 16], [], [], []), (6, [4], [], [], []), (7, [4], [], [], [])]
def r_laws_szConfig : List RV := [.t 4]
abbrev n_laws_szConfig : Nat := 88
theorem k_laws_szConfig : Known Pr mu n_laws_szConfig m_laws_szConfig r_laws_szConfig Go.Proofs.Try.f88.ntmps := .of h_laws_szConfig hm Go.Proofs.Try.func88 (by kernel_rfl) (by kernel_rfl) (by kernel_rfl) (by kernel_rfl)
def m_laws_szEntryS_1 : Unit → MCode := fun _ => .region [] [⟨(some 4), .mv (.const (.int .i64 0)), none, []⟩] [0, 1]
def m_laws_szEntryS_2 : Unit → MCode := fun _ => .region [] [⟨(some 5), .mv (.tmp 1), none, []⟩,
    ⟨(some 6), .mv (.tmp 0), none, []⟩,
    ⟨(some 7), .len false (.tmp 6), none, []⟩,
    ⟨(some 8), .bin .sub (.tmp 5) (.tmp 7), none, []⟩,
    ⟨(some 1), .mv (.tmp 8), none, []⟩] [1]
def m_laws_szEntryS_3 : Unit → MCode := fun _ => .region [] [⟨(some 9), .mv (.tmp 1), none, []⟩,
    ⟨(some 10), .bin .lss (.tmp 9) (.const (.int .i64 0)), none, []⟩] [1, 10]
def m_laws_szEntryS_4 : Unit → MCode := fun _ => .region [] [⟨(some 4), .mv (.const (.int .i64 (-1))), none, []⟩] [4]
def m_laws_szEntryS_5 : Unit → MCode := fun _ => .seq m_laws_szEntryS_4 (fun _ => .ret)
def m_laws_szEntryS_6 : Unit → MCode := fun _ => .cond (.tmp 10) m_laws_szEntryS_5 (fun _ => .skip)
def m_laws_szEntryS_7 : Unit → MCode := fun _ => .seq m_laws_szEntryS_3 m_laws_szEntryS_6
def m_laws_szEntryS_8 : Unit → MCode := fun _ => .region [] [⟨(some 11), .mv (.tmp 1), none, []⟩,
    ⟨(some 4), .mv (.tmp 11), none, []⟩] [4]
def m_laws_szEntryS_9 : Unit → MCode := fun _ => .seq m_laws_szEntryS_8 (fun _ => .ret)
def m_laws_szEntryS_10 : Unit → MCode := fun _ => .seq m_laws_szEntryS_7 m_laws_szEntryS_9
def m_laws_szEntryS_11 : Unit → MCode := fun _ => .seq m_laws_szEntryS_2 m_laws_szEntryS_10
def m_laws_szEntryS_12 : Unit → MCode := fun _ => .seq m_laws_szEntryS_1 m_laws_szEntryS_11
def m_laws_szEntryS : MCode := m_laws_szEntryS_12 ()
def h_laws_szEntryS : Hints := [(0, [0, 1], [], [], []), (1, [1], [], [], []), (2, [1, 10], [], [], []), (3, [4], [], [], []), (4, [4], [], [], [])]
def r_laws_szEntryS : List RV := [.t 4]
abbrev n_laws_szEntryS : Nat := 89
theorem k_laws_szEntryS : Known Pr mu n_laws_szEntryS m_laws_szEntryS r_laws_szEntryS Go.Proofs.Try.f89.ntmps := .of h_laws_szEntryS hm Go.Proofs.Try.func89 (by kernel_rfl) (by kernel_rfl) (by kernel_rfl) (by kernel_rfl)
def m_spec_IsLog_1 : Unit → MCode := fun _ => .region [] [⟨(some 2), .mv (.const (.bool false)), none, []⟩] [0]
def m_spec_IsLog_2 : Unit → MCode := fun _ => .region [] [⟨(some 3), .mv (.const (.int .i64 0)), none, []⟩] [0, 3]
def m_spec_IsLog_3 : Unit → MCode := fun _ => .region [] [⟨(some 4), .mv (.tmp 3), none, []⟩,
    ⟨(some 5), .mv (.tmp 0), none, []⟩,
    ⟨(some 6), .len false (.tmp 5), none, []⟩,
    ⟨(some 7), .bin .lss (.tmp 4) (.tmp 6), none, []⟩] [0, 3, 7]
def m_spec_IsLog_4 : Unit → MCode := fun _ => .cond (.tmp 7) (fun _ => .skip) (fun _ => .exit 0)
def m_spec_IsLog_5 : Unit → MCode := fun _ => .seq m_spec_IsLog_3 m_spec_IsLog_4
def m_spec_IsLog_6 : Unit → MCode := fun _ => .region [] [⟨(some 10), .mv (.tmp 0), none, []⟩,
    ⟨(some 11), .mv (.tmp 3), none, []⟩,
    ⟨(some 12), .ia (.tmp 10) (.tmp 11) 7, none, []⟩,
    ⟨(some 13), .fa (.tmp 12) 0, none, []⟩,
    ⟨(some 14), .ld (.tmp 13) 1 false, none, []⟩,
    ⟨(some 15), .call 59 [(.tmp 14), (.const (.int .i64 1)), (.const (.int .i64 20))], none, []⟩,
    ⟨(some 16), .not (.tmp 15), none, []⟩,
    ⟨(some 17), .mv (.tmp 16), none, []⟩,
    ⟨(some 18), .mv (.tmp 0), (some (17, false)), []⟩,
    ⟨(some 19), .mv (.tmp 3), (some (17, false)), []⟩,
    ⟨(some 20), .ia (.tmp 18) (.tmp 19) 7, (some (17, false)), []⟩,
    ⟨(some 21), .fa (.tmp 20) 1, (some (17, false)), []⟩,
    ⟨(some 22), .ld (.tmp 21) 6 true, (some (17, false)), []⟩,
    ⟨(some 23), .call 129 [(.tmp 22)], (some (17, false)), []⟩,
    ⟨(some 24), .not (.tmp 23), (some (17, false)), []⟩,
    ⟨(some 25), .pick (.tmp 17) (.const (.bool true)) (.tmp 24), none, []⟩,
    ⟨(some 26), .mv (.tmp 25), none, []⟩,
    ⟨(some 27), .mv (.tmp 3), (some (26, false)), []⟩,
    ⟨(some 28), .bin .gtr (.tmp 27) (.const (.int .i64 0)), (some (26, false)), []⟩,
    ⟨(some 29), .mv (.tmp 28), (some (26, false)), []⟩,
    ⟨(some 30), .mv (.tmp 0), (some (29, true)), []⟩,
    ⟨(some 31), .mv (.tmp 3), (some (29, true)), []⟩,
    ⟨(some 32), .bin .sub (.tmp 31) (.const (.int .i64 1)), (some (29, true)), []⟩,
    ⟨(some 33), .ia (.tmp 30) (.tmp 32) 7, (some (29, true)), []⟩,
    ⟨(some 34), .fa (.tmp 33) 0, (some (29, true)), []⟩,
    ⟨(some 35), .ld (.tmp 34) 1 false, (some (29, true)), []⟩,
    ⟨(some 36), .mv (.tmp 0), (some (29, true)), []⟩,
    ⟨(some 37), .mv (.tmp 3), (some (29, true)), []⟩,
    ⟨(some 38), .ia (.tmp 36) (.tmp 37) 7, (some (29, true)), [20, 21, 22, 23, 24, 25]⟩,
    ⟨(some 39), .fa (.tmp 38) 0, (some (29, true)), [20, 21, 22, 23, 24, 25]⟩,
    ⟨(some 40), .ld (.tmp 39) 1 false, (some (29, true)), [20, 21, 22, 23, 24, 25]⟩,
    ⟨(some 41), .bin .gtr (.tmp 35) (.tmp 40), (some (29, true)), []⟩,
    ⟨(some 42), .pick (.tmp 29) (.tmp 41) (.const (.bool false)), (some (26, false)), []⟩,
    ⟨(some 43), .pick (.tmp 26) (.const (.bool true)) (.tmp 42), none, []⟩] [0, 3, 43]
def m_spec_IsLog_7 : Unit → MCode := fun _ => .region [] [⟨(some 2), .mv (.const (.bool false)), none, []⟩] [2]
def m_spec_IsLog_8 : Unit → MCode := fun _ => .seq m_spec_IsLog_7 (fun _ => .ret)
def m_spec_IsLog_9 : Unit → MCode := fun _ => .cond (.tmp 43) m_spec_IsLog_8 (fun _ => .skip)
def m_spec_IsLog_10 : Unit → MCode := fun _ => .seq m_spec_IsLog_6 m_spec_IsLog_9
def m_spec_IsLog_11 : Unit → MCode := fun _ => .block 1 m_spec_IsLog_10
def m_spec_IsLog_12 : Unit → MCode := fun _ => .region [] [⟨(some 8), .mv (.tmp 3), none, []⟩,
    ⟨(some 9), .bin .add (.tmp 8) (.const (.int .i64 1)), none, []⟩,
    ⟨(some 3), .mv (.tmp 9), none, []⟩] [0, 3]
def m_spec_IsLog_13 : Unit → MCode := fun _ => .seq m_spec_IsLog_11 m_spec_IsLog_12
def m_spec_IsLog_14 : Unit → MCode := fun _ => .seq m_spec_IsLog_5 m_spec_IsLog_13
def m_spec_IsLog_15 : Unit → MCode := fun _ => .loop m_spec_IsLog_14
def m_spec_IsLog_16 : Unit → MCode := fun _ => .block 0 m_spec_IsLog_15
def m_spec_IsLog_17 : Unit → MCode := fun _ => .seq m_spec_IsLog_2 m_spec_IsLog_16
def m_spec_IsLog_18 : Unit → MCode := fun _ => .region [] [⟨(some 44), .mv (.tmp 0), none, []⟩,
    ⟨(some 45), .len false (.tmp 44), none, []⟩,
    ⟨(some 46), .bin .leq (.tmp 45) (.const (.int .i64 16)), none, []⟩,
    ⟨(some 2), .mv (.tmp 46), none, []⟩] [2]
def m_spec_IsLog_19 : Unit → MCode := fun _ => .seq m_spec_IsLog_18 (fun _ => .ret)
def m_spec_IsLog_20 : Unit → MCode := fun _ => .seq m_spec_IsLog_17 m_spec_IsLog_19
def m_spec_IsLog_21 : Unit → MCode := fun _ => .seq m_spec_IsLog_1 m_spec_IsLog_20
def m_spec_IsLog : MCode := m_spec_IsLog_21 ()
def h_spec_IsLog : Hints := [(0, [0], [], [], []), (1, [0, 3], [], [], []), (2, [0, 3, 7], [], [], []), (4, [0, 3, 43], [[], [], [], [], [], [], [], [], [], [], [], [], [], [], [], [], [], [], [], [], [], [], [], [], [], [], [], [], [20, 21, 22, 23, 24, 25], [20, 21, 22, 23, 24, 25], [20, 21, 22, 23, 24, 25]], [], []), (5, [2], [], [], []), (3, [0, 3], [], [], []), (6, [2], [], [], [])]
def r_spec_IsLog : List RV := [.t 2]
abbrev n_spec_IsLog : Nat := 90
theorem k_spec_IsLog : Known Pr mu n_spec_IsLog m_spec_IsLog r_spec_IsLog Go.Proofs.Try.f90.ntmps := .of h_spec_IsLog hm Go.Proofs.Try.func90 (by kernel_rfl) (by kernel_rfl) (by kernel_rfl) (by kernel_rfl)
def m_spec_l14None_1 : Unit → MCode := fun _ => .region [] [⟨(some 1), .box (.tmp 0), none, []⟩,
    ⟨(some 2), .mv (.const (.bool false)), none, []⟩] [1]
def m_spec_l14None_2 : Unit → MCode := fun _ => .region [] [⟨(some 3), .ld (.tmp 1) 4 true, none, []⟩,
    ⟨(some 4), .bld [.int .i64 0, .int .i64 0, .slice none 0 0, .slice none 0 0] [], none, []⟩,
    ⟨(some 5), .call 81 [(.tmp 3), (.tmp 4)], none, []⟩,
    ⟨(some 2), .mv (.tmp 5), none, []⟩] [2]
def m_spec_l14None_3 : Unit → MCode := fun _ => .seq m_spec_l14None_2 (fun _ => .ret)
def m_spec_l14None_4 : Unit → MCode := fun _ => .seq m_spec_l14None_1 m_spec_l14None_3
def m_spec_l14None : MCode := m_spec_l14None_4 ()
def h_spec_l14None : Hints := [(0, [1], [], [], []), (1, [2], [], [], [])]
def r_spec_l14None : List RV := [.t 2]
abbrev n_spec_l14None : Nat := 91
theorem k_spec_l14None : Known Pr mu n_spec_l14None m_spec_l14None r_spec_l14None Go.Proofs.Try.f91.ntmps := .of h_spec_l14None hm Go.Proofs.Try.func91 (by kernel_rfl) (by kernel_rfl) (by kernel_rfl) (by kernel_rfl)
def m_spec_l14Last_1 : Unit → MCode := fun _ => .region [] [⟨(some 2), .mv (.const (.int .i64 0)), none, []⟩] [0]
def m_spec_l14Last_2 : Unit → MCode := fun _ => .region [] [⟨(some 3), .mv (.tmp 0), none, []⟩,
    ⟨(some 4), .len false (.tmp 3), none, []⟩,
    ⟨(some 5), .bin .eql (.tmp 4) (.const (.int .i64 0)), none, []⟩] [0, 5]
def m_spec_l14Last_3 : Unit → MCode := fun _ => .region [] [⟨(some 2), .mv (.const (.int .i64 0)), none, []⟩] [2]
def m_spec_l14Last_4 : Unit → MCode := fun _ => .seq m_spec_l14Last_3 (fun _ => .ret)
def m_spec_l14Last_5 : Unit → MCode := fun _ => .cond (.tmp 5) m_spec_l14Last_4 (fun _ => .skip)
def m_spec_l14Last_6 : Unit → MCode := fun _ => .seq m_spec_l14Last_2 m_spec_l14Last_5
def m_spec_l14Last_7 : Unit → MCode := fun _ => .region [] [⟨(some 6), .mv (.tmp 0), none, []⟩,
    ⟨(some 7), .mv (.tmp 0), none, []⟩,
    ⟨(some 8), .len false (.tmp 7), none, []⟩,
    ⟨(some 9), .bin .sub (.tmp 8) (.const (.int .i64 1)), none, []⟩,
    ⟨(some 10), .ia (.tmp 6) (.tmp 9) 7, none, []⟩,
    ⟨(some 11), .fa (.tmp 10) 0, none, []⟩,
    ⟨(some 12), .ld (.tmp 11) 1 false, none, []⟩,
    ⟨(some 2), .mv (.tmp 12), none, []⟩] [2]
def m_spec_l14Last_8 : Unit → MCode := fun _ => .seq m_spec_l14Last_7 (fun _ => .ret)
def m_spec_l14Last_9 : Unit → MCode := fun _ => .seq m_spec_l14Last_6 m_spec_l14Last_8
def m_spec_l14Last_10 : Unit → MCode := fun _ => .seq m_spec_l14Last_1 m_spec_l14Last_9
def m_spec_l14Last : MCode := m_spec_l14Last_10 ()
def h_spec_l14Last : Hints := [(0, [0], [], [], []), (1, [0, 5], [], [], []), (2, [2], [], [], []), (3, [2], [], [], [])]
def r_spec_l14Last : List RV := [.t 2]
abbrev n_spec_l14Last : Nat := 92
theorem k_spec_l14Last : Known Pr mu n_spec_l14Last m_spec_l14Last r_spec_l14Last Go.Proofs.Try.f92.ntmps := .of h_spec_l14Last hm Go.Proofs.Try.func92 (by kernel_rfl) (by kernel_rfl) (by kernel_rfl) (by kernel_rfl)
def m_spec_RoleOf_1 : Unit → MCode := fun _ => .region [] [⟨(some 2), .box (.tmp 0), none, []⟩,
    ⟨(some 4), .mv (.const (.int .i64 0)), none, []⟩] [1, 2]
def m_spec_RoleOf_2 : Unit → MCode := fun _ => .region [] [⟨(some 6), .ld (.tmp 2) 4 true, none, []⟩,
    ⟨(some 7), .call 103 [(.tmp 6)], none, []⟩,
    ⟨(some 8), .not (.tmp 7), none, []⟩,
    ⟨(some 5), .mv (.tmp 8), none, []⟩] [1, 2, 5]
def m_spec_RoleOf_3 : Unit → MCode := fun _ => .region [] [⟨(some 4), .mv (.const (.int .i64 0)), none, []⟩] [4]
def m_spec_RoleOf_4 : Unit → MCode := fun _ => .seq m_spec_RoleOf_3 (fun _ => .ret)
def m_spec_RoleOf_5 : Unit → MCode := fun _ => .region [] [⟨(some 10), .mv (.tmp 1), none, []⟩,
    ⟨(some 11), .fa (.tmp 2) 1, none, []⟩,
    ⟨(some 12), .ld (.tmp 11) 1 false, none, []⟩,
    ⟨(some 13), .bin .eql (.tmp 10) (.tmp 12), none, []⟩,
    ⟨(some 9), .mv (.tmp 13), none, []⟩] [1, 2, 9]
def m_spec_RoleOf_6 : Unit → MCode := fun _ => .region [] [⟨(some 4), .mv (.const (.int .i64 1)), none, []⟩] [4]
def m_spec_RoleOf_7 : Unit → MCode := fun _ => .seq m_spec_RoleOf_6 (fun _ => .ret)
def m_spec_RoleOf_8 : Unit → MCode := fun _ => .region [] [⟨(some 15), .fa (.tmp 2) 2, none, []⟩,
    ⟨(some 16), .ld (.tmp 15) 1 false, none, []⟩,
    ⟨(some 17), .mv (.tmp 1), none, []⟩,
    ⟨(some 18), .call 28 [(.tmp 16), (.tmp 17)], none, []⟩,
    ⟨(some 14), .mv (.tmp 18), none, []⟩] [1, 2, 14]
def m_spec_RoleOf_9 : Unit → MCode := fun _ => .region [] [⟨(some 4), .mv (.const (.int .i64 2)), none, []⟩] [4]
def m_spec_RoleOf_10 : Unit → MCode := fun _ => .seq m_spec_RoleOf_9 (fun _ => .ret)
def m_spec_RoleOf_11 : Unit → MCode := fun _ => .region [] [⟨(some 20), .fa (.tmp 2) 3, none, []⟩,
    ⟨(some 21), .ld (.tmp 20) 1 false, none, []⟩,
    ⟨(some 22), .mv (.tmp 1), none, []⟩,
    ⟨(some 23), .call 28 [(.tmp 21), (.tmp 22)], none, []⟩,
    ⟨(some 19), .mv (.tmp 23), none, []⟩] [19]
def m_spec_RoleOf_12 : Unit → MCode := fun _ => .region [] [⟨(some 4), .mv (.const (.int .i64 3)), none, []⟩] [4]
def m_spec_RoleOf_13 : Unit → MCode := fun _ => .seq m_spec_RoleOf_12 (fun _ => .ret)
def m_spec_RoleOf_14 : Unit → MCode := fun _ => .cond (.tmp 19) m_spec_RoleOf_13 (fun _ => .skip)
def m_spec_RoleOf_15 : Unit → MCode := fun _ => .seq m_spec_RoleOf_11 m_spec_RoleOf_14
def m_spec_RoleOf_16 : Unit → MCode := fun _ => .cond (.tmp 14) m_spec_RoleOf_10 m_spec_RoleOf_15
def m_spec_RoleOf_17 : Unit → MCode := fun _ => .seq m_spec_RoleOf_8 m_spec_RoleOf_16
def m_spec_RoleOf_18 : Unit → MCode := fun _ => .cond (.tmp 9) m_spec_RoleOf_7 m_spec_RoleOf_17
def m_spec_RoleOf_19 : Unit → MCode := fun _ => .seq m_spec_RoleOf_5 m_spec_RoleOf_18
def m_spec_RoleOf_20 : Unit → MCode := fun _ => .cond (.tmp 5) m_spec_RoleOf_4 m_spec_RoleOf_19
def m_spec_RoleOf_21 : Unit → MCode := fun _ => .seq m_spec_RoleOf_2 m_spec_RoleOf_20
def m_spec_RoleOf_22 : Unit → MCode := fun _ => .block 0 m_spec_RoleOf_21
def m_spec_RoleOf_23 : Unit → MCode := fun _ => .region [] [⟨(some 4), .mv (.const (.int .i64 0)), none, []⟩] [4]
def m_spec_RoleOf_24 : Unit → MCode := fun _ => .seq m_spec_RoleOf_23 (fun _ => .ret)
def m_spec_RoleOf_25 : Unit → MCode := fun _ => .seq m_spec_RoleOf_22 m_spec_RoleOf_24
def m_spec_RoleOf_26 : Unit → MCode := fun _ => .seq m_spec_RoleOf_1 m_spec_RoleOf_25
def m_spec_RoleOf : MCode := m_spec_RoleOf_26 ()
def h_spec_RoleOf : Hints := [(0, [1, 2], [], [], []), (1, [1, 2, 5], [], [], []), (2, [4], [], [], []), (3, [1, 2, 9], [], [], []), (4, [4], [], [], []), (5, [1, 2, 14], [], [], []), (6, [4], [], [], []), (7, [19], [], [], []), (8, [4], [], [], []), (9, [4], [], [], [])]
def r_spec_RoleOf : List RV := [.t 4]
abbrev n_spec_RoleOf : Nat := 93
theorem k_spec_RoleOf : Known Pr mu n_spec_RoleOf m_spec_RoleOf r_spec_RoleOf Go.Proofs.Try.f93.ntmps := .of h_spec_RoleOf hm Go.Proofs.Try.func93 (by kernel_rfl) (by kernel_rfl) (by kernel_rfl) (by kernel_rfl)
def m_laws_toConfig_1 : Unit → MCode := fun _ => .region [] [⟨(some 1), .box (.tmp 0), none, []⟩,
    ⟨(some 2), .alloc [.int .i64 0, .int .i64 0, .slice none 0 0, .slice none 0 0], none, []⟩] [1, 2]
def m_laws_toConfig_2 : Unit → MCode := fun _ => .region [] [⟨(some 3), .alloc [.int .i64 0, .int .i64 0, .slice none 0 0, .slice none 0 0], none, []⟩] [1, 2, 3]
def m_laws_toConfig_3 : Unit → MCode := fun _ => .region [] [⟨(some 4), .fa (.tmp 1) 0, none, []⟩,
    ⟨(some 5), .ld (.tmp 4) 1 false, none, []⟩,
    ⟨(some 6), .fa (.tmp 3) 0, none, []⟩,
    ⟨none, .sto (.tmp 6) (.tmp 5) 1, none, []⟩] [1, 2, 3]
def m_laws_toConfig_4 : Unit → MCode := fun _ => .region [] [⟨(some 7), .fa (.tmp 1) 1, none, []⟩,
    ⟨(some 8), .ld (.tmp 7) 1 false, none, []⟩,
    ⟨(some 9), .fa (.tmp 3) 1, none, []⟩,
    ⟨none, .sto (.tmp 9) (.tmp 8) 1, none, []⟩] [1, 2, 3]
def m_laws_toConfig_5 : Unit → MCode := fun _ => .region [] [⟨(some 10), .fa (.tmp 1) 2, none, []⟩,
    ⟨(some 11), .ld (.tmp 10) 1 false, none, []⟩,
    ⟨(some 12), .call 12 [(.tmp 11)], none, []⟩,
    ⟨(some 13), .fa (.tmp 3) 2, none, []⟩,
    ⟨none, .sto (.tmp 13) (.tmp 12) 1, none, []⟩] [1, 2, 3]
def m_laws_toConfig_6 : Unit → MCode := fun _ => .region [] [⟨(some 14), .fa (.tmp 1) 3, none, []⟩,
    ⟨(some 15), .ld (.tmp 14) 1 false, none, []⟩,
    ⟨(some 16), .call 12 [(.tmp 15)], none, []⟩,
    ⟨(some 17), .fa (.tmp 3) 3, none, []⟩,
    ⟨none, .sto (.tmp 17) (.tmp 16) 1, none, []⟩] [2, 3]
def m_laws_toConfig_7 : Unit → MCode := fun _ => .region [] [⟨(some 18), .ld (.tmp 3) 4 true, none, []⟩,
    ⟨none, .sto (.tmp 2) (.tmp 18) 4, none, []⟩] [2]
def m_laws_toConfig_8 : Unit → MCode := fun _ => .seq m_laws_toConfig_7 (fun _ => .ret)
def m_laws_toConfig_9 : Unit → MCode := fun _ => .seq m_laws_toConfig_6 m_laws_toConfig_8
def m_laws_toConfig_10 : Unit → MCode := fun _ => .seq m_laws_toConfig_5 m_laws_toConfig_9
def m_laws_toConfig_11 : Unit → MCode := fun _ => .seq m_laws_toConfig_4 m_laws_toConfig_10
def m_laws_toConfig_12 : Unit → MCode := fun _ => .seq m_laws_toConfig_3 m_laws_toConfig_11
def m_laws_toConfig_13 : Unit → MCode := fun _ => .seq m_laws_toConfig_2 m_laws_toConfig_12
def m_laws_toConfig_14 : Unit → MCode := fun _ => .seq m_laws_toConfig_1 m_laws_toConfig_13
def m_laws_toConfig : MCode := m_laws_toConfig_14 ()
def h_laws_toConfig : Hints := [(0, [1, 2], [], [], []), (1, [1, 2, 3], [], [], []), (2, [1, 2, 3], [], [], []), (3, [1, 2, 3], [], [], []), (4, [1, 2, 3], [], [], []), (5, [2, 3], [], [], []), (6, [2], [], [], [])]
def r_laws_toConfig : List RV := [.c 2 4 true]
abbrev n_laws_toConfig : Nat := 94
theorem k_laws_toConfig : Known Pr mu n_laws_toConfig m_laws_toConfig r_laws_toConfig Go.Proofs.Try.f94.ntmps := .of h_laws_toConfig hm Go.Proofs.Try.func94 (by kernel_rfl) (by kernel_rfl) (by kernel_rfl) (by kernel_rfl)
def m_laws_toEntryS_1 : Unit → MCode := fun _ => .region [] [⟨(some 2), .mv (.const (.slice none 0 0)), none, []⟩] [0]
def m_laws_toEntryS_2 : Unit → MCode := fun _ => .region [] [⟨(some 5), .mv (.tmp 0), none, []⟩,
    ⟨(some 6), .len false (.tmp 5), none, []⟩,
    ⟨(some 7), .mks 7 56 [.int .i64 0, .int .i64 0, .int .i64 0, .int .i64 0, .int .i64 0, .int .i64 0, .int .i64 0] (.tmp 6) (.tmp 6), none, []⟩,
    ⟨(some 3), .mv (.tmp 7), none, []⟩] [0, 3]
def m_laws_toEntryS_3 : Unit → MCode := fun _ => .region [] [⟨(some 4), .mv (.const (.int .i64 0)), none, []⟩] [0, 3, 4]
def m_laws_toEntryS_4 : Unit → MCode := fun _ => .region [] [⟨(some 8), .mv (.tmp 4), none, []⟩,
    ⟨(some 9), .mv (.tmp 0), none, []⟩,
    ⟨(some 10), .len false (.tmp 9), none, []⟩,
    ⟨(some 11), .bin .lss (.tmp 8) (.tmp 10), none, []⟩] [0, 3, 4, 11]
def m_laws_toEntryS_5 : Unit → MCode := fun _ => .cond (.tmp 11) (fun _ => .skip) (fun _ => .exit 0)
def m_laws_toEntryS_6 : Unit → MCode := fun _ => .seq m_laws_toEntryS_4 m_laws_toEntryS_5
def m_laws_toEntryS_7 : Unit → MCode := fun _ => .region [] [⟨(some 14), .mv (.tmp 3), none, []⟩,
    ⟨(some 15), .mv (.tmp 4), none, []⟩,
    ⟨(some 16), .mv (.tmp 0), none, []⟩,
    ⟨(some 17), .mv (.tmp 4), none, []⟩,
    ⟨(some 18), .ia (.tmp 16) (.tmp 17) 7, none, []⟩,
    ⟨(some 19), .ld (.tmp 18) 7 true, none, []⟩,
    ⟨(some 20), .call 130 [(.tmp 19)], none, []⟩,
    ⟨(some 21), .ia (.tmp 14) (.tmp 15) 7, none, []⟩,
    ⟨none, .sto (.tmp 21) (.tmp 20) 7, none, []⟩] [0, 3, 4]
def m_laws_toEntryS_8 : Unit → MCode := fun _ => .block 1 m_laws_toEntryS_7
def m_laws_toEntryS_9 : Unit → MCode := fun _ => .region [] [⟨(some 12), .mv (.tmp 4), none, []⟩,
    ⟨(some 13), .bin .add (.tmp 12) (.const (.int .i64 1)), none, []⟩,
    ⟨(some 4), .mv (.tmp 13), none, []⟩] [0, 3, 4]
def m_laws_toEntryS_10 : Unit → MCode := fun _ => .seq m_laws_toEntryS_8 m_laws_toEntryS_9
def m_laws_toEntryS_11 : Unit → MCode := fun _ => .seq m_laws_toEntryS_6 m_laws_toEntryS_10
def m_laws_toEntryS_12 : Unit → MCode := fun _ => .loop m_laws_toEntryS_11
def m_laws_toEntryS_13 : Unit → MCode := fun _ => .block 0 m_laws_toEntryS_12
def m_laws_toEntryS_14 : Unit → MCode := fun _ => .seq m_laws_toEntryS_3 m_laws_toEntryS_13
def m_laws_toEntryS_15 : Unit → MCode := fun _ => .region [] [⟨(some 22), .mv (.tmp 3), none, []⟩,
    ⟨(some 2), .mv (.tmp 22), none, []⟩] [2]
def m_laws_toEntryS_16 : Unit → MCode := fun _ => .seq m_laws_toEntryS_15 (fun _ => .ret)
def m_laws_toEntryS_17 : Unit → MCode := fun _ => .seq m_laws_toEntryS_14 m_laws_toEntryS_16
def m_laws_toEntryS_18 : Unit → MCode := fun _ => .seq m_laws_toEntryS_2 m_laws_toEntryS_17
def m_laws_toEntryS_19 : Unit → MCode := fun _ => .seq m_laws_toEntryS_1 m_laws_toEntryS_18
def m_laws_toEntryS : MCode := m_laws_toEntryS_19 ()
def h_laws_toEntryS : Hints := [(0, [0], [], [], []), (1, [0, 3], [], [], []), (2, [0, 3, 4], [], [], []), (3, [0, 3, 4, 11], [], [], []), (5, [0, 3, 4], [], [], []), (4, [0, 3, 4], [], [], []), (6, [2], [], [], [])]
def r_laws_toEntryS : List RV := [.t 2]
abbrev n_laws_toEntryS : Nat := 95
theorem k_laws_toEntryS : Known Pr mu n_laws_toEntryS m_laws_toEntryS r_laws_toEntryS Go.Proofs.Try.f95.ntmps := .of h_laws_toEntryS hm Go.Proofs.Try.func95 (by kernel_rfl) (by kernel_rfl) (by kernel_rfl) (by kernel_rfl)
def m_impl_IsLog_1 : Unit → MCode := fun _ => .region [] [⟨(some 2), .mv (.const (.bool false)), none, []⟩] [0]
def m_impl_IsLog_2 : Unit → MCode := fun _ => .region [] [⟨(some 5), .mv (.tmp 0), none, []⟩,
    ⟨(some 6), .len false (.tmp 5), none, []⟩,
    ⟨(some 7), .mv (.const (.int .i64 0)), none, []⟩] [0, 5, 6, 7]
def m_impl_IsLog_3 : Unit → MCode := fun _ => .region [] [⟨(some 8), .bin .lss (.tmp 7) (.tmp 6), none, []⟩] [0, 5, 6, 7, 8]
def m_impl_IsLog_4 : Unit → MCode := fun _ => .cond (.tmp 8) (fun _ => .skip) (fun _ => .exit 0)
def m_impl_IsLog_5 : Unit → MCode := fun _ => .region [] [⟨(some 9), .mv (.tmp 7), none, []⟩,
    ⟨(some 10), .ia (.tmp 5) (.tmp 7) 7, none, []⟩,
    ⟨(some 11), .ld (.tmp 10) 7 true, none, []⟩,
    ⟨(some 4), .alloc [.int .i64 0, .int .i64 0, .int .i64 0, .int .i64 0, .int .i64 0, .int .i64 0, .int .i64 0], none, []⟩,
    ⟨(some 3), .mv (.tmp 9), none, []⟩,
    ⟨none, .sto (.tmp 4) (.tmp 11) 7, none, []⟩] [0, 3, 4, 5, 6, 7]
def m_impl_IsLog_6 : Unit → MCode := fun _ => .region [] [⟨(some 12), .fa (.tmp 4) 0, none, []⟩,
    ⟨(some 13), .ld (.tmp 12) 1 false, none, []⟩,
    ⟨(some 14), .call 64 [(.tmp 13), (.const (.int .i64 1)), (.const (.int .i64 20))], none, []⟩,
    ⟨(some 15), .not (.tmp 14), none, []⟩,
    ⟨(some 16), .mv (.tmp 15), none, []⟩,
    ⟨(some 17), .mv (.tmp 3), (some (16, false)), []⟩,
    ⟨(some 18), .bin .gtr (.tmp 17) (.const (.int .i64 0)), (some (16, false)), []⟩,
    ⟨(some 19), .mv (.tmp 18), (some (16, false)), []⟩,
    ⟨(some 20), .fa (.tmp 4) 0, (some (19, true)), []⟩,
    ⟨(some 21), .ld (.tmp 20) 1 false, (some (19, true)), []⟩,
    ⟨(some 22), .mv (.tmp 0), (some (19, true)), []⟩,
    ⟨(some 23), .mv (.tmp 3), (some (19, true)), []⟩,
    ⟨(some 24), .bin .sub (.tmp 23) (.const (.int .i64 1)), (some (19, true)), []⟩,
    ⟨(some 25), .ia (.tmp 22) (.tmp 24) 7, (some (19, true)), [8, 9]⟩,
    ⟨(some 26), .fa (.tmp 25) 0, (some (19, true)), [8, 9]⟩,
    ⟨(some 27), .ld (.tmp 26) 1 false, (some (19, true)), [8, 9]⟩,
    ⟨(some 28), .bin .lss (.tmp 21) (.tmp 27), (some (19, true)), []⟩,
    ⟨(some 29), .pick (.tmp 19) (.tmp 28) (.const (.bool false)), (some (16, false)), []⟩,
    ⟨(some 30), .pick (.tmp 16) (.const (.bool true)) (.tmp 29), none, []⟩,
    ⟨(some 31), .mv (.tmp 30), none, []⟩,
    ⟨(some 32), .fa (.tmp 4) 1, (some (31, false)), []⟩,
    ⟨(some 33), .ld (.tmp 32) 6 true, (some (31, false)), []⟩,
    ⟨(some 34), .call 131 [(.tmp 33)], (some (31, false)), []⟩,
    ⟨(some 35), .not (.tmp 34), (some (31, false)), []⟩,
    ⟨(some 36), .pick (.tmp 31) (.const (.bool true)) (.tmp 35), none, []⟩] [0, 5, 6, 7, 36]
def m_impl_IsLog_7 : Unit → MCode := fun _ => .region [] [⟨(some 2), .mv (.const (.bool false)), none, []⟩] [2]
def m_impl_IsLog_8 : Unit → MCode := fun _ => .seq m_impl_IsLog_7 (fun _ => .ret)
def m_impl_IsLog_9 : Unit → MCode := fun _ => .cond (.tmp 36) m_impl_IsLog_8 (fun _ => .skip)
def m_impl_IsLog_10 : Unit → MCode := fun _ => .seq m_impl_IsLog_6 m_impl_IsLog_9
def m_impl_IsLog_11 : Unit → MCode := fun _ => .seq m_impl_IsLog_5 m_impl_IsLog_10
def m_impl_IsLog_12 : Unit → MCode := fun _ => .block 1 m_impl_IsLog_11
def m_impl_IsLog_13 : Unit → MCode := fun _ => .region [] [⟨(some 37), .bin .add (.tmp 7) (.const (.int .i64 1)), none, []⟩,
    ⟨(some 7), .mv (.tmp 37), none, []⟩] [0, 5, 6, 7]
def m_impl_IsLog_14 : Unit → MCode := fun _ => .seq m_impl_IsLog_12 m_impl_IsLog_13
def m_impl_IsLog_15 : Unit → MCode := fun _ => .seq m_impl_IsLog_4 m_impl_IsLog_14
def m_impl_IsLog_16 : Unit → MCode := fun _ => .seq m_impl_IsLog_3 m_impl_IsLog_15
def m_impl_IsLog_17 : Unit → MCode := fun _ => .loop m_impl_IsLog_16
def m_impl_IsLog_18 : Unit → MCode := fun _ => .block 0 m_impl_IsLog_17
def m_impl_IsLog_19 : Unit → MCode := fun _ => .seq m_impl_IsLog_2 m_impl_IsLog_18
def m_impl_IsLog_20 : Unit → MCode := fun _ => .region [] [⟨(some 38), .mv (.tmp 0), none, []⟩,
    ⟨(some 39), .len false (.tmp 38), none, []⟩,
    ⟨(some 40), .bin .leq (.tmp 39) (.const (.int .i64 16)), none, []⟩,
    ⟨(some 2), .mv (.tmp 40), none, []⟩] [2]
def m_impl_IsLog_21 : Unit → MCode := fun _ => .seq m_impl_IsLog_20 (fun _ => .ret)
def m_impl_IsLog_22 : Unit → MCode := fun _ => .seq m_impl_IsLog_19 m_impl_IsLog_21
def m_impl_IsLog_23 : Unit → MCode := fun _ => .seq m_impl_IsLog_1 m_impl_IsLog_22
def m_impl_IsLog : MCode := m_impl_IsLog_23 ()
def h_impl_IsLog : Hints := [(0, [0], [], [], []), (1, [0, 5, 6, 7], [], [], []), (2, [0, 5, 6, 7, 8], [], [], []), (3, [0, 3, 4, 5, 6, 7], [], [], []), (4, [0, 5, 6, 7, 36], [[], [], [], [], [], [], [], [], [], [], [], [], [], [8, 9], [8, 9], [8, 9]], [], []), (5, [2], [], [], []), (6, [0, 5, 6, 7], [], [], []), (7, [2], [], [], [])]
def r_impl_IsLog : List RV := [.t 2]
abbrev n_impl_IsLog : Nat := 96
theorem k_impl_IsLog : Known Pr mu n_impl_IsLog m_impl_IsLog r_impl_IsLog Go.Proofs.Try.f96.ntmps := .of h_impl_IsLog hm Go.Proofs.Try.func96 (by kernel_rfl) (by kernel_rfl) (by kernel_rfl) (by kernel_rfl)
def m_impl_lastEpoch_1 : Unit → MCode := fun _ => .region [] [⟨(some 2), .mv (.const (.int .i64 0)), none, []⟩] [0]
def m_impl_lastEpoch_2 : Unit → MCode := fun _ => .region [] [⟨(some 3), .mv (.tmp 0), none, []⟩,
    ⟨(some 4), .len false (.tmp 3), none, []⟩,
    ⟨(some 5), .bin .eql (.tmp 4) (.const (.int .i64 0)), none, []⟩] [0, 5]
def m_impl_lastEpoch_3 : Unit → MCode := fun _ => .region [] [⟨(some 2), .mv (.const (.int .i64 0)), none, []⟩] [2]
def m_impl_lastEpoch_4 : Unit → MCode := fun _ => .seq m_impl_lastEpoch_3 (fun _ => .ret)
def m_impl_lastEpoch_5 : Unit → MCode := fun _ => .cond (.tmp 5) m_impl_lastEpoch_4 (fun _ => .skip)
def m_impl_lastEpoch_6 : Unit → MCode := fun _ => .seq m_impl_lastEpoch_2 m_impl_lastEpoch_5
def m_impl_lastEpoch_7 : Unit → MCode := fun _ => .region [] [⟨(some 6), .mv (.tmp 0), none, []⟩,
    ⟨(some 7), .mv (.tmp 0), none, []⟩,
    ⟨(some 8), .len false (.tmp 7), none, []⟩,
    ⟨(some 9), .bin .sub (.tmp 8) (.const (.int .i64 1)), none, []⟩,
    ⟨(some 10), .ia (.tmp 6) (.tmp 9) 7, none, []⟩,
    ⟨(some 11), .fa (.tmp 10) 0, none, []⟩,
    ⟨(some 12), .ld (.tmp 11) 1 false, none, []⟩,
    ⟨(some 2), .mv (.tmp 12), none, []⟩] [2]
def m_impl_lastEpoch_8 : Unit → MCode := fun _ => .seq m_impl_lastEpoch_7 (fun _ => .ret)
def m_impl_lastEpoch_9 : Unit → MCode := fun _ => .seq m_impl_lastEpoch_6 m_impl_lastEpoch_8
def m_impl_lastEpoch_10 : Unit → MCode := fun _ => .seq m_impl_lastEpoch_1 m_impl_lastEpoch_9
def m_impl_lastEpoch : MCode := m_impl_lastEpoch_10 ()
def h_impl_lastEpoch : Hints := [(0, [0], [], [], []), (1, [0, 5], [], [], []), (2, [2], [], [], []), (3, [2], [], [], [])]
def r_impl_lastEpoch : List RV := [.t 2]
abbrev n_impl_lastEpoch : Nat := 97
theorem k_impl_lastEpoch : Known Pr mu n_impl_lastEpoch m_impl_lastEpoch r_impl_lastEpoch Go.Proofs.Try.f97.ntmps := .of h_impl_lastEpoch hm Go.Proofs.Try.func97 (by kernel_rfl) (by kernel_rfl) (by kernel_rfl) (by kernel_rfl)
def m_impl_RoleOf_1 : Unit → MCode := fun _ => .region [] [⟨(some 2), .box (.tmp 0), none, []⟩,
    ⟨(some 4), .mv (.const (.int .i64 0)), none, []⟩] [1, 2]
def m_impl_RoleOf_2 : Unit → MCode := fun _ => .region [] [⟨(some 6), .ld (.tmp 2) 4 true, none, []⟩,
    ⟨(some 7), .call 107 [(.tmp 6)], none, []⟩,
    ⟨(some 8), .not (.tmp 7), none, []⟩,
    ⟨(some 5), .mv (.tmp 8), none, []⟩] [1, 2, 5]
def m_impl_RoleOf_3 : Unit → MCode := fun _ => .region [] [⟨(some 4), .mv (.const (.int .i64 0)), none, []⟩] [4]
def m_impl_RoleOf_4 : Unit → MCode := fun _ => .seq m_impl_RoleOf_3 (fun _ => .ret)
def m_impl_RoleOf_5 : Unit → MCode := fun _ => .region [] [⟨(some 10), .mv (.tmp 1), none, []⟩,
    ⟨(some 11), .fa (.tmp 2) 1, none, []⟩,
    ⟨(some 12), .ld (.tmp 11) 1 false, none, []⟩,
    ⟨(some 13), .bin .eql (.tmp 10) (.tmp 12), none, []⟩,
    ⟨(some 9), .mv (.tmp 13), none, []⟩] [1, 2, 9]
def m_impl_RoleOf_6 : Unit → MCode := fun _ => .region [] [⟨(some 4), .mv (.const (.int .i64 1)), none, []⟩] [4]
def m_impl_RoleOf_7 : Unit → MCode := fun _ => .seq m_impl_RoleOf_6 (fun _ => .ret)
def m_impl_RoleOf_8 : Unit → MCode := fun _ => .region [] [⟨(some 15), .fa (.tmp 2) 2, none, []⟩,
    ⟨(some 16), .ld (.tmp 15) 1 false, none, []⟩,
    ⟨(some 17), .mv (.tmp 1), none, []⟩,
    ⟨(some 18), .call 75 [(.tmp 16), (.tmp 17)], none, []⟩,
    ⟨(some 14), .mv (.tmp 18), none, []⟩] [1, 2, 14]
def m_impl_RoleOf_9 : Unit → MCode := fun _ => .region [] [⟨(some 4), .mv (.const (.int .i64 2)), none, []⟩] [4]
def m_impl_RoleOf_10 : Unit → MCode := fun _ => .seq m_impl_RoleOf_9 (fun _ => .ret)
def m_impl_RoleOf_11 : Unit → MCode := fun _ => .region [] [⟨(some 20), .fa (.tmp 2) 3, none, []⟩,
    ⟨(some 21), .ld (.tmp 20) 1 false, none, []⟩,
    ⟨(some 22), .mv (.tmp 1), none, []⟩,
    ⟨(some 23), .call 75 [(.tmp 21), (.tmp 22)], none, []⟩,
    ⟨(some 19), .mv (.tmp 23), none, []⟩] [19]
def m_impl_RoleOf_12 : Unit → MCode := fun _ => .region [] [⟨(some 4), .mv (.const (.int .i64 3)), none, []⟩] [4]
def m_impl_RoleOf_13 : Unit → MCode := fun _ => .seq m_impl_RoleOf_12 (fun _ => .ret)
def m_impl_RoleOf_14 : Unit → MCode := fun _ => .cond (.tmp 19) m_impl_RoleOf_13 (fun _ => .skip)
def m_impl_RoleOf_15 : Unit → MCode := fun _ => .seq m_impl_RoleOf_11 m_impl_RoleOf_14
def m_impl_RoleOf_16 : Unit → MCode := fun _ => .cond (.tmp 14) m_impl_RoleOf_10 m_impl_RoleOf_15
def m_impl_RoleOf_17 : Unit → MCode := fun _ => .seq m_impl_RoleOf_8 m_impl_RoleOf_16
def m_impl_RoleOf_18 : Unit → MCode := fun _ => .cond (.tmp 9) m_impl_RoleOf_7 m_impl_RoleOf_17
def m_impl_RoleOf_19 : Unit → MCode := fun _ => .seq m_impl_RoleOf_5 m_impl_RoleOf_18
def m_impl_RoleOf_20 : Unit → MCode := fun _ => .cond (.tmp 5) m_impl_RoleOf_4 m_impl_RoleOf_19
def m_impl_RoleOf_21 : Unit → MCode := fun _ => .seq m_impl_RoleOf_2 m_impl_RoleOf_20
def m_impl_RoleOf_22 : Unit → MCode := fun _ => .block 0 m_impl_RoleOf_21
def m_impl_RoleOf_23 : Unit → MCode := fun _ => .region [] [⟨(some 4), .mv (.const (.int .i64 0)), none, []⟩] [4]
def m_impl_RoleOf_24 : Unit → MCode := fun _ => .seq m_impl_RoleOf_23 (fun _ => .ret)
def m_impl_RoleOf_25 : Unit → MCode := fun _ => .seq m_impl_RoleOf_22 m_impl_RoleOf_24
def m_impl_RoleOf_26 : Unit → MCode := fun _ => .seq m_impl_RoleOf_1 m_impl_RoleOf_25
def m_impl_RoleOf : MCode := m_impl_RoleOf_26 ()
def h_impl_RoleOf : Hints := [(0, [1, 2], [], [], []), (1, [1, 2, 5], [], [], []), (2, [4], [], [], []), (3, [1, 2, 9], [], [], []), (4, [4], [], [], []), (5, [1, 2, 14], [], [], []), (6, [4], [], [], []), (7, [19], [], [], []), (8, [4], [], [], []), (9, [4], [], [], [])]
def r_impl_RoleOf : List RV := [.t 4]
abbrev n_impl_RoleOf : Nat := 98
theorem k_impl_RoleOf : Known Pr mu n_impl_RoleOf m_impl_RoleOf r_impl_RoleOf Go.Proofs.Try.f98.ntmps := .of h_impl_RoleOf hm Go.Proofs.Try.func98 (by kernel_rfl) (by kernel_rfl) (by kernel_rfl) (by kernel_rfl)
def m_impl_isTail_1 : Unit → MCode := fun _ => .region [] [⟨(some 4), .mv (.const (.bool false)), none, []⟩] [0, 1]
def m_impl_isTail_2 : Unit → MCode := fun _ => .region [] [⟨(some 5), .mv (.tmp 1), none, []⟩,
    ⟨(some 6), .call 96 [(.tmp 5)], none, []⟩,
    ⟨(some 7), .mv (.tmp 6), none, []⟩,
    ⟨(some 8), .mv (.tmp 1), (some (7, true)), []⟩,
    ⟨(some 9), .len false (.tmp 8), (some (7, true)), []⟩,
    ⟨(some 10), .bin .leq (.tmp 9) (.const (.int .i64 3)), (some (7, true)), []⟩,
    ⟨(some 11), .pick (.tmp 7) (.tmp 10) (.const (.bool false)), none, []⟩,
    ⟨(some 12), .mv (.tmp 11), none, []⟩,
    ⟨(some 13), .mv (.tmp 0), (some (12, true)), []⟩,
    ⟨(some 14), .mv (.tmp 1), (some (12, true)), []⟩,
    ⟨(some 15), .len false (.tmp 14), (some (12, true)), []⟩,
    ⟨(some 16), .bin .sub (.const (.int .i64 16)) (.tmp 15), (some (12, true)), []⟩,
    ⟨(some 17), .call 64 [(.tmp 13), (.const (.int .i64 0)), (.tmp 16)], (some (12, true)), []⟩,
    ⟨(some 18), .pick (.tmp 12) (.tmp 17) (.const (.bool false)), none, []⟩,
    ⟨(some 19), .mv (.tmp 18), none, []⟩,
    ⟨(some 20), .mv (.tmp 0), (some (19, true)), []⟩,
    ⟨(some 21), .bin .eql (.tmp 20) (.const (.int .i64 0)), (some (19, true)), []⟩,
    ⟨(some 22), .mv (.tmp 21), (some (19, true)), []⟩,
    ⟨(some 23), .mv (.tmp 1), (some (22, false)), []⟩,
    ⟨(some 24), .len false (.tmp 23), (some (22, false)), []⟩,
    ⟨(some 25), .bin .eql (.tmp 24) (.const (.int .i64 3)), (some (22, false)), []⟩,
    ⟨(some 26), .pick (.tmp 22) (.const (.bool true)) (.tmp 25), (some (19, true)), []⟩,
    ⟨(some 27), .pick (.tmp 19) (.tmp 26) (.const (.bool false)), none, []⟩,
    ⟨(some 4), .mv (.tmp 27), none, []⟩] [4]
def m_impl_isTail_3 : Unit → MCode := fun _ => .seq m_impl_isTail_2 (fun _ => .ret)
def m_impl_isTail_4 : Unit → MCode := fun _ => .seq m_impl_isTail_1 m_impl_isTail_3
def m_impl_isTail : MCode := m_impl_isTail_4 ()
def h_impl_isTail : Hints := [(0, [0, 1], [], [], []), (1, [4], [], [], [])]
def r_impl_isTail : List RV := [.t 4]
abbrev n_impl_isTail : Nat := 99
theorem k_impl_isTail : Known Pr mu n_impl_isTail m_impl_isTail r_impl_isTail Go.Proofs.Try.f99.ntmps := .of h_impl_isTail hm Go.Proofs.Try.func99 (by kernel_rfl) (by kernel_rfl) (by kernel_rfl) (by kernel_rfl)
def m_laws_eqEntryS_1 : Unit → MCode := fun _ => .region [] [⟨(some 4), .mv (.const (.bool false)), none, []⟩] [0, 1]
def m_laws_eqEntryS_2 : Unit → MCode := fun _ => .region [] [⟨(some 6), .mv (.tmp 0), none, []⟩,
    ⟨(some 7), .len false (.tmp 6), none, []⟩,
    ⟨(some 8), .mv (.tmp 1), none, []⟩,
    ⟨(some 9), .len false (.tmp 8), none, []⟩,
    ⟨(some 10), .bin .neq (.tmp 7) (.tmp 9), none, []⟩] [0, 1, 10]
def m_laws_eqEntryS_3 : Unit → MCode := fun _ => .region [] [⟨(some 4), .mv (.const (.bool false)), none, []⟩] [4]
def m_laws_eqEntryS_4 : Unit → MCode := fun _ => .seq m_laws_eqEntryS_3 (fun _ => .ret)
def m_laws_eqEntryS_5 : Unit → MCode := fun _ => .cond (.tmp 10) m_laws_eqEntryS_4 (fun _ => .skip)
def m_laws_eqEntryS_6 : Unit → MCode := fun _ => .seq m_laws_eqEntryS_2 m_laws_eqEntryS_5
def m_laws_eqEntryS_7 : Unit → MCode := fun _ => .region [] [⟨(some 5), .mv (.const (.int .i64 0)), none, []⟩] [0, 1, 5]
def m_laws_eqEntryS_8 : Unit → MCode := fun _ => .region [] [⟨(some 11), .mv (.tmp 5), none, []⟩,
    ⟨(some 12), .mv (.tmp 0), none, []⟩,
    ⟨(some 13), .len false (.tmp 12), none, []⟩,
    ⟨(some 14), .bin .lss (.tmp 11) (.tmp 13), none, []⟩] [0, 1, 5, 14]
def m_laws_eqEntryS_9 : Unit → MCode := fun _ => .cond (.tmp 14) (fun _ => .skip) (fun _ => .exit 0)
def m_laws_eqEntryS_10 : Unit → MCode := fun _ => .seq m_laws_eqEntryS_8 m_laws_eqEntryS_9
def m_laws_eqEntryS_11 : Unit → MCode := fun _ => .region [] [⟨(some 17), .mv (.tmp 0), none, []⟩,
    ⟨(some 18), .mv (.tmp 5), none, []⟩,
    ⟨(some 19), .ia (.tmp 17) (.tmp 18) 7, none, []⟩,
    ⟨(some 20), .ld (.tmp 19) 7 true, none, []⟩,
    ⟨(some 21), .mv (.tmp 1), none, []⟩,
    ⟨(some 22), .mv (.tmp 5), none, []⟩,
    ⟨(some 23), .ia (.tmp 21) (.tmp 22) 7, none, [0, 1, 2, 3]⟩,
    ⟨(some 24), .ld (.tmp 23) 7 true, none, [0, 1, 2, 3]⟩,
    ⟨(some 25), .call 132 [(.tmp 20), (.tmp 24)], none, []⟩,
    ⟨(some 26), .not (.tmp 25), none, []⟩] [0, 1, 5, 26]
def m_laws_eqEntryS_12 : Unit → MCode := fun _ => .region [] [⟨(some 4), .mv (.const (.bool false)), none, []⟩] [4]
def m_laws_eqEntryS_13 : Unit → MCode := fun _ => .seq m_laws_eqEntryS_12 (fun _ => .ret)
def m_laws_eqEntryS_14 : Unit → MCode := fun _ => .cond (.tmp 26) m_laws_eqEntryS_13 (fun _ => .skip)
def m_laws_eqEntryS_15 : Unit → MCode := fun _ => .seq m_laws_eqEntryS_11 m_laws_eqEntryS_14
def m_laws_eqEntryS_16 : Unit → MCode := fun _ => .block 1 m_laws_eqEntryS_15
def m_laws_eqEntryS_17 : Unit → MCode := fun _ => .region [] [⟨(some 15), .mv (.tmp 5), none, []⟩,
    ⟨(some 16), .bin .add (.tmp 15) (.const (.int .i64 1)), none, []⟩,
    ⟨(some 5), .mv (.tmp 16), none, []⟩] [0, 1, 5]
def m_laws_eqEntryS_18 : Unit → MCode := fun _ => .seq m_laws_eqEntryS_16 m_laws_eqEntryS_17
def m_laws_eqEntryS_19 : Unit → MCode := fun _ => .seq m_laws_eqEntryS_10 m_laws_eqEntryS_18
def m_laws_eqEntryS_20 : Unit → MCode := fun _ => .loop m_laws_eqEntryS_19
def m_laws_eqEntryS_21 : Unit → MCode := fun _ => .block 0 m_laws_eqEntryS_20
def m_laws_eqEntryS_22 : Unit → MCode := fun _ => .seq m_laws_eqEntryS_7 m_laws_eqEntryS_21
def m_laws_eqEntryS_23 : Unit → MCode := fun _ => .region [] [⟨(some 4), .mv (.const (.bool true)), none, []⟩] [4]
def m_laws_eqEntryS_24 : Unit → MCode := fun _ => .seq m_laws_eqEntryS_23 (fun _ => .ret)
def m_laws_eqEntryS_25 : Unit → MCode := fun _ => .seq m_laws_eqEntryS_22 m_laws_eqEntryS_24
def m_laws_eqEntryS_26 : Unit → MCode := fun _ => .seq m_laws_eqEntryS_6 m_laws_eqEntryS_25
def m_laws_eqEntryS_27 : Unit → MCode := fun _ => .seq m_laws_eqEntryS_1 m_laws_eqEntryS_26
def m_laws_eqEntryS : MCode := m_laws_eqEntryS_27 ()
def h_laws_eqEntryS : Hints := [(0, [0, 1], [], [], []), (1, [0, 1, 10], [], [], []), (2, [4], [], [], []), (3, [0, 1, 5], [], [], []), (4, [0, 1, 5, 14], [], [], []), (6, [0, 1, 5, 26], [[], [], [], [], [], [], [0, 1, 2, 3], [0, 1, 2, 3]], [], []), (7, [4], [], [], []), (5, [0, 1, 5], [], [], []), (8, [4], [], [], [])]
def r_laws_eqEntryS : List RV := [.t 4]
abbrev n_laws_eqEntryS : Nat := 100
theorem k_laws_eqEntryS : Known Pr mu n_laws_eqEntryS m_laws_eqEntryS r_laws_eqEntryS Go.Proofs.Try.f100.ntmps := .of h_laws_eqEntryS hm Go.Proofs.Try.func100 (by kernel_rfl) (by kernel_rfl) (by kernel_rfl) (by kernel_rfl)
def m_laws_szIntS_1 : Unit → MCode := fun _ => .region [] [⟨(some 4), .mv (.const (.int .i64 0)), none, []⟩] [0, 1]
def m_laws_szIntS_2 : Unit → MCode := fun _ => .region [] [⟨(some 5), .mv (.tmp 1), none, []⟩,
    ⟨(some 6), .mv (.tmp 0), none, []⟩,
    ⟨(some 7), .len false (.tmp 6), none, []⟩,
    ⟨(some 8), .bin .sub (.tmp 5) (.tmp 7), none, []⟩,
    ⟨(some 1), .mv (.tmp 8), none, []⟩] [1]
def m_laws_szIntS_3 : Unit → MCode := fun _ => .region [] [⟨(some 9), .mv (.tmp 1), none, []⟩,
    ⟨(some 10), .bin .lss (.tmp 9) (.const (.int .i64 0)), none, []⟩] [1, 10]
def m_laws_szIntS_4 : Unit → MCode := fun _ => .region [] [⟨(some 4), .mv (.const (.int .i64 (-1))), none, []⟩] [4]
def m_laws_szIntS_5 : Unit → MCode := fun _ => .seq m_laws_szIntS_4 (fun _ => .ret)
def m_laws_szIntS_6 : Unit → MCode := fun _ => .cond (.tmp 10) m_laws_szIntS_5 (fun _ => .skip)
def m_laws_szIntS_7 : Unit → MCode := fun _ => .seq m_laws_szIntS_3 m_laws_szIntS_6
def m_laws_szIntS_8 : Unit → MCode := fun _ => .region [] [⟨(some 11), .mv (.tmp 1), none, []⟩,
    ⟨(some 4), .mv (.tmp 11), none, []⟩] [4]
def m_laws_szIntS_9 : Unit → MCode := fun _ => .seq m_laws_szIntS_8 (fun _ => .ret)
def m_laws_szIntS_10 : Unit → MCode := fun _ => .seq m_laws_szIntS_7 m_laws_szIntS_9
def m_laws_szIntS_11 : Unit → MCode := fun _ => .seq m_laws_szIntS_2 m_laws_szIntS_10
def m_laws_szIntS_12 : Unit → MCode := fun _ => .seq m_laws_szIntS_1 m_laws_szIntS_11
def m_laws_szIntS : MCode := m_laws_szIntS_12 ()
def h_laws_szIntS : Hints := [(0, [0, 1], [], [], []), (1, [1], [], [], []), (2, [1, 10], [], [], []), (3, [4], [], [], []), (4, [4], [], [], [])]
def r_laws_szIntS : List RV := [.t 4]
abbrev n_laws_szIntS : Nat := 101
theorem k_laws_szIntS : Known Pr mu n_laws_szIntS m_laws_szIntS r_laws_szIntS Go.Proofs.Try.f101.ntmps := .of h_laws_szIntS hm Go.Proofs.Try.func101 (by kernel_rfl) (by kernel_rfl) (by kernel_rfl) (by kernel_rfl)
def m_spec_IsValidConfig_1 : Unit → MCode := fun _ => .region [] [⟨(some 1), .box (.tmp 0), none, []⟩,
    ⟨(some 2), .mv (.const (.bool false)), none, []⟩] [1]
def m_spec_IsValidConfig_2 : Unit → MCode := fun _ => .region [] [⟨(some 3), .fa (.tmp 1) 0, none, []⟩,
    ⟨(some 4), .ld (.tmp 3) 1 false, none, []⟩,
    ⟨(some 5), .call 59 [(.tmp 4), (.const (.int .i64 1)), (.const (.int .i64 20))], none, []⟩,
    ⟨(some 6), .mv (.tmp 5), none, []⟩,
    ⟨(some 7), .fa (.tmp 1) 2, (some (6, true)), []⟩,
    ⟨(some 8), .ld (.tmp 7) 1 false, (some (6, true)), []⟩,
    ⟨(some 9), .call 23 [(.tmp 8)], (some (6, true)), []⟩,
    ⟨(some 10), .pick (.tmp 6) (.tmp 9) (.const (.bool false)), none, []⟩,
    ⟨(some 11), .mv (.tmp 10), none, []⟩,
    ⟨(some 12), .fa (.tmp 1) 3, (some (11, true)), []⟩,
    ⟨(some 13), .ld (.tmp 12) 1 false, (some (11, true)), []⟩,
    ⟨(some 14), .call 23 [(.tmp 13)], (some (11, true)), []⟩,
    ⟨(some 15), .pick (.tmp 11) (.tmp 14) (.const (.bool false)), none, []⟩,
    ⟨(some 16), .mv (.tmp 15), none, []⟩,
    ⟨(some 17), .fa (.tmp 1) 2, (some (16, true)), []⟩,
    ⟨(some 18), .ld (.tmp 17) 1 false, (some (16, true)), []⟩,
    ⟨(some 19), .fa (.tmp 1) 1, (some (16, true)), []⟩,
    ⟨(some 20), .ld (.tmp 19) 1 false, (some (16, true)), []⟩,
    ⟨(some 21), .call 28 [(.tmp 18), (.tmp 20)], (some (16, true)), []⟩,
    ⟨(some 22), .pick (.tmp 16) (.tmp 21) (.const (.bool false)), none, []⟩,
    ⟨(some 23), .mv (.tmp 22), none, []⟩,
    ⟨(some 24), .fa (.tmp 1) 2, (some (23, true)), []⟩,
    ⟨(some 25), .ld (.tmp 24) 1 false, (some (23, true)), []⟩,
    ⟨(some 26), .fa (.tmp 1) 3, (some (23, true)), []⟩,
    ⟨(some 27), .ld (.tmp 26) 1 false, (some (23, true)), []⟩,
    ⟨(some 28), .call 24 [(.tmp 25), (.tmp 27)], (some (23, true)), []⟩,
    ⟨(some 29), .len false (.tmp 28), (some (23, true)), []⟩,
    ⟨(some 30), .bin .eql (.tmp 29) (.const (.int .i64 0)), (some (23, true)), []⟩,
    ⟨(some 31), .pick (.tmp 23) (.tmp 30) (.const (.bool false)), none, []⟩,
    ⟨(some 2), .mv (.tmp 31), none, []⟩] [2]
def m_spec_IsValidConfig_3 : Unit → MCode := fun _ => .seq m_spec_IsValidConfig_2 (fun _ => .ret)
def m_spec_IsValidConfig_4 : Unit → MCode := fun _ => .seq m_spec_IsValidConfig_1 m_spec_IsValidConfig_3
def m_spec_IsValidConfig : MCode := m_spec_IsValidConfig_4 ()
def h_spec_IsValidConfig : Hints := [(0, [1], [], [], []), (1, [2], [], [], [])]
def r_spec_IsValidConfig : List RV := [.t 2]
abbrev n_spec_IsValidConfig : Nat := 103
theorem k_spec_IsValidConfig : Known Pr mu n_spec_IsValidConfig m_spec_IsValidConfig r_spec_IsValidConfig Go.Proofs.Try.f103.ntmps := .of h_spec_IsValidConfig hm Go.Proofs.Try.func103 (by kernel_rfl) (by kernel_rfl) (by kernel_rfl) (by kernel_rfl)
def m_impl_IsValidConfig_1 : Unit → MCode := fun _ => .region [] [⟨(some 1), .box (.tmp 0), none, []⟩,
    ⟨(some 2), .mv (.const (.bool false)), none, []⟩] [1]
def m_impl_IsValidConfig_2 : Unit → MCode := fun _ => .region [] [⟨(some 3), .fa (.tmp 1) 0, none, []⟩,
    ⟨(some 4), .ld (.tmp 3) 1 false, none, []⟩,
    ⟨(some 5), .call 64 [(.tmp 4), (.const (.int .i64 1)), (.const (.int .i64 20))], none, []⟩,
    ⟨(some 6), .mv (.tmp 5), none, []⟩,
    ⟨(some 7), .fa (.tmp 1) 2, (some (6, true)), []⟩,
    ⟨(some 8), .ld (.tmp 7) 1 false, (some (6, true)), []⟩,
    ⟨(some 9), .call 63 [(.tmp 8)], (some (6, true)), []⟩,
    ⟨(some 10), .pick (.tmp 6) (.tmp 9) (.const (.bool false)), none, []⟩,
    ⟨(some 11), .mv (.tmp 10), none, []⟩,
    ⟨(some 12), .fa (.tmp 1) 3, (some (11, true)), []⟩,
    ⟨(some 13), .ld (.tmp 12) 1 false, (some (11, true)), []⟩,
    ⟨(some 14), .call 63 [(.tmp 13)], (some (11, true)), []⟩,
    ⟨(some 15), .pick (.tmp 11) (.tmp 14) (.const (.bool false)), none, []⟩,
    ⟨(some 16), .mv (.tmp 15), none, []⟩,
    ⟨(some 17), .fa (.tmp 1) 2, (some (16, true)), []⟩,
    ⟨(some 18), .ld (.tmp 17) 1 false, (some (16, true)), []⟩,
    ⟨(some 19), .fa (.tmp 1) 1, (some (16, true)), []⟩,
    ⟨(some 20), .ld (.tmp 19) 1 false, (some (16, true)), []⟩,
    ⟨(some 21), .call 75 [(.tmp 18), (.tmp 20)], (some (16, true)), []⟩,
    ⟨(some 22), .pick (.tmp 16) (.tmp 21) (.const (.bool false)), none, []⟩,
    ⟨(some 23), .mv (.tmp 22), none, []⟩,
    ⟨(some 24), .fa (.tmp 1) 2, (some (23, true)), []⟩,
    ⟨(some 25), .ld (.tmp 24) 1 false, (some (23, true)), []⟩,
    ⟨(some 26), .fa (.tmp 1) 3, (some (23, true)), []⟩,
    ⟨(some 27), .ld (.tmp 26) 1 false, (some (23, true)), []⟩,
    ⟨(some 28), .call 65 [(.tmp 25), (.tmp 27)], (some (23, true)), []⟩,
    ⟨(some 29), .len false (.tmp 28), (some (23, true)), []⟩,
    ⟨(some 30), .bin .eql (.tmp 29) (.const (.int .i64 0)), (some (23, true)), []⟩,
    ⟨(some 31), .pick (.tmp 23) (.tmp 30) (.const (.bool false)), none, []⟩,
    ⟨(some 2), .mv (.tmp 31), none, []⟩] [2]
def m_impl_IsValidConfig_3 : Unit → MCode := fun _ => .seq m_impl_IsValidConfig_2 (fun _ => .ret)
def m_impl_IsValidConfig_4 : Unit → MCode := fun _ => .seq m_impl_IsValidConfig_1 m_impl_IsValidConfig_3
def m_impl_IsValidConfig : MCode := m_impl_IsValidConfig_4 ()
def h_impl_IsValidConfig : Hints := [(0, [1], [], [], []), (1, [2], [], [], [])]
def r_impl_IsValidConfig : List RV := [.t 2]
abbrev n_impl_IsValidConfig : Nat := 107
theorem k_impl_IsValidConfig : Known Pr mu n_impl_IsValidConfig m_impl_IsValidConfig r_impl_IsValidConfig Go.Proofs.Try.f107.ntmps := .of h_impl_IsValidConfig hm Go.Proofs.Try.func107 (by kernel_rfl) (by kernel_rfl) (by kernel_rfl) (by kernel_rfl)
def m_slices_DeleteFunc_intint_1 : Unit → MCode := fun _ => .region [] [⟨(some 4), .mv (.const (.slice none 0 0)), none, []⟩] [0, 1]
def m_slices_DeleteFunc_intint_2 : Unit → MCode := fun _ => .region [] [⟨(some 8), .mv (.tmp 0), none, []⟩,
    ⟨(some 9), .mv (.tmp 1), none, []⟩,
    ⟨(some 10), .call 136 [(.tmp 8), (.tmp 9)], none, []⟩,
    ⟨(some 5), .mv (.tmp 10), none, []⟩] [0, 1, 5]
def m_slices_DeleteFunc_intint_3 : Unit → MCode := fun _ => .region [] [⟨(some 11), .mv (.tmp 5), none, []⟩,
    ⟨(some 12), .bin .eql (.tmp 11) (.const (.int .i64 (-1))), none, []⟩] [0, 1, 5, 12]
def m_slices_DeleteFunc_intint_4 : Unit → MCode := fun _ => .region [] [⟨(some 13), .mv (.tmp 0), none, []⟩,
    ⟨(some 4), .mv (.tmp 13), none, []⟩] [4]
def m_slices_DeleteFunc_intint_5 : Unit → MCode := fun _ => .seq m_slices_DeleteFunc_intint_4 (fun _ => .ret)
def m_slices_DeleteFunc_intint_6 : Unit → MCode := fun _ => .cond (.tmp 12) m_slices_DeleteFunc_intint_5 (fun _ => .skip)
def m_slices_DeleteFunc_intint_7 : Unit → MCode := fun _ => .seq m_slices_DeleteFunc_intint_3 m_slices_DeleteFunc_intint_6
def m_slices_DeleteFunc_intint_8 : Unit → MCode := fun _ => .region [] [⟨(some 14), .mv (.tmp 5), none, []⟩,
    ⟨(some 15), .bin .add (.tmp 14) (.const (.int .i64 1)), none, []⟩,
    ⟨(some 6), .mv (.tmp 15), none, []⟩] [0, 1, 5, 6]
def m_slices_DeleteFunc_intint_9 : Unit → MCode := fun _ => .region [] [⟨(some 16), .mv (.tmp 6), none, []⟩,
    ⟨(some 17), .mv (.tmp 0), none, []⟩,
    ⟨(some 18), .len false (.tmp 17), none, []⟩,
    ⟨(some 19), .bin .lss (.tmp 16) (.tmp 18), none, []⟩] [0, 1, 5, 6, 19]
def m_slices_DeleteFunc_intint_10 : Unit → MCode := fun _ => .cond (.tmp 19) (fun _ => .skip) (fun _ => .exit 0)
def m_slices_DeleteFunc_intint_11 : Unit → MCode := fun _ => .seq m_slices_DeleteFunc_intint_9 m_slices_DeleteFunc_intint_10
def m_slices_DeleteFunc_intint_12 : Unit → MCode := fun _ => .region [] [⟨(some 22), .mv (.tmp 0), none, []⟩,
    ⟨(some 23), .mv (.tmp 6), none, []⟩,
    ⟨(some 24), .ia (.tmp 22) (.tmp 23) 1, none, []⟩,
    ⟨(some 25), .ld (.tmp 24) 1 false, none, []⟩,
    ⟨(some 7), .mv (.tmp 25), none, []⟩] [0, 1, 5, 6, 7]
def m_slices_DeleteFunc_intint_13 : Unit → MCode := fun _ => .region [] [⟨(some 26), .mv (.tmp 1), none, []⟩,
    ⟨(some 27), .mv (.tmp 7), none, []⟩,
    ⟨(some 28), .callv (.tmp 26) [(.tmp 27)], none, []⟩,
    ⟨(some 29), .not (.tmp 28), none, []⟩] [0, 1, 5, 6, 7, 29]
def m_slices_DeleteFunc_intint_14 : Unit → MCode := fun _ => .region [] [⟨(some 30), .mv (.tmp 0), none, []⟩,
    ⟨(some 31), .mv (.tmp 5), none, []⟩,
    ⟨(some 32), .mv (.tmp 7), none, []⟩,
    ⟨(some 33), .ia (.tmp 30) (.tmp 31) 1, none, []⟩,
    ⟨none, .sto (.tmp 33) (.tmp 32) 1, none, []⟩] [0, 1, 5, 6]
def m_slices_DeleteFunc_intint_15 : Unit → MCode := fun _ => .region [] [⟨(some 34), .mv (.tmp 5), none, []⟩,
    ⟨(some 35), .bin .add (.tmp 34) (.const (.int .i64 1)), none, []⟩,
    ⟨(some 5), .mv (.tmp 35), none, []⟩] [0, 1, 5, 6]
def m_slices_DeleteFunc_intint_16 : Unit → MCode := fun _ => .seq m_slices_DeleteFunc_intint_14 m_slices_DeleteFunc_intint_15
def m_slices_DeleteFunc_intint_17 : Unit → MCode := fun _ => .cond (.tmp 29) m_slices_DeleteFunc_intint_16 (fun _ => .skip)
def m_slices_DeleteFunc_intint_18 : Unit → MCode := fun _ => .seq m_slices_DeleteFunc_intint_13 m_slices_DeleteFunc_intint_17
def m_slices_DeleteFunc_intint_19 : Unit → MCode := fun _ => .seq m_slices_DeleteFunc_intint_12 m_slices_DeleteFunc_intint_18
def m_slices_DeleteFunc_intint_20 : Unit → MCode := fun _ => .block 1 m_slices_DeleteFunc_intint_19
def m_slices_DeleteFunc_intint_21 : Unit → MCode := fun _ => .region [] [⟨(some 20), .mv (.tmp 6), none, []⟩,
    ⟨(some 21), .bin .add (.tmp 20) (.const (.int .i64 1)), none, []⟩,
    ⟨(some 6), .mv (.tmp 21), none, []⟩] [0, 1, 5, 6]
def m_slices_DeleteFunc_intint_22 : Unit → MCode := fun _ => .seq m_slices_DeleteFunc_intint_20 m_slices_DeleteFunc_intint_21
def m_slices_DeleteFunc_intint_23 : Unit → MCode := fun _ => .seq m_slices_DeleteFunc_intint_11 m_slices_DeleteFunc_intint_22
def m_slices_DeleteFunc_intint_24 : Unit → MCode := fun _ => .loop m_slices_DeleteFunc_intint_23
def m_slices_DeleteFunc_intint_25 : Unit → MCode := fun _ => .block 0 m_slices_DeleteFunc_intint_24
def m_slices_DeleteFunc_intint_26 : Unit → MCode := fun _ => .seq m_slices_DeleteFunc_intint_8 m_slices_DeleteFunc_intint_25
def m_slices_DeleteFunc_intint_27 : Unit → MCode := fun _ => .region [] [⟨(some 36), .mv (.tmp 0), none, []⟩,
    ⟨(some 37), .mv (.tmp 5), none, []⟩,
    ⟨(some 38), .slc false (.tmp 36) (some (.tmp 37)) none none 1, none, []⟩,
    ⟨none, .clr (.tmp 38) 1 [.int .i64 0], none, []⟩] [0, 5]
def m_slices_DeleteFunc_intint_28 : Unit → MCode := fun _ => .region [] [⟨(some 39), .mv (.tmp 0), none, []⟩,
    ⟨(some 40), .mv (.tmp 5), none, []⟩,
    ⟨(some 41), .slc false (.tmp 39) none (some (.tmp 40)) none 1, none, []⟩,
    ⟨(some 4), .mv (.tmp 41), none, []⟩] [4]
def m_slices_DeleteFunc_intint_29 : Unit → MCode := fun _ => .seq m_slices_DeleteFunc_intint_28 (fun _ => .ret)
def m_slices_DeleteFunc_intint_30 : Unit → MCode := fun _ => .seq m_slices_DeleteFunc_intint_27 m_slices_DeleteFunc_intint_29
def m_slices_DeleteFunc_intint_31 : Unit → MCode := fun _ => .seq m_slices_DeleteFunc_intint_26 m_slices_DeleteFunc_intint_30
def m_slices_DeleteFunc_intint_32 : Unit → MCode := fun _ => .seq m_slices_DeleteFunc_intint_7 m_slices_DeleteFunc_intint_31
def m_slices_DeleteFunc_intint_33 : Unit → MCode := fun _ => .seq m_slices_DeleteFunc_intint_2 m_slices_DeleteFunc_intint_32
def m_slices_DeleteFunc_intint_34 : Unit → MCode := fun _ => .seq m_slices_DeleteFunc_intint_1 m_slices_DeleteFunc_intint_33
def m_slices_DeleteFunc_intint : MCode := m_slices_DeleteFunc_intint_34 ()
def h_slices_DeleteFunc_intint : Hints := [(0, [0, 1], [], [], []), (1, [0, 1, 5], [], [], []), (2, [0, 1, 5, 12], [], [], []), (3, [4], [], [], []), (4, [0, 1, 5, 6], [], [], []), (5, [0, 1, 5, 6, 19], [], [], []), (7, [0, 1, 5, 6, 7], [], [], []), (8, [0, 1, 5, 6, 7, 29], [], [], []), (9, [0, 1, 5, 6], [], [], []), (10, [0, 1, 5, 6], [], [], []), (6, [0, 1, 5, 6], [], [], []), (11, [0, 5], [], [], []), (12, [4], [], [], [])]
def r_slices_DeleteFunc_intint : List RV := [.t 4]
abbrev n_slices_DeleteFunc_intint : Nat := 112
theorem k_slices_DeleteFunc_intint : Known Pr mu n_slices_DeleteFunc_intint m_slices_DeleteFunc_intint r_slices_DeleteFunc_intint Go.Proofs.Try.f112.ntmps := .of h_slices_DeleteFunc_intint hm Go.Proofs.Try.func112 (by kernel_rfl) (by kernel_rfl) (by kernel_rfl) (by kernel_rfl)
def m_impl_WithoutServers_c1_1 : Unit → MCode := fun _ => .region [] [⟨(some 3), .mv (.const (.bool false)), none, []⟩] [0, 1]
def m_impl_WithoutServers_c1_2 : Unit → MCode := fun _ => .region [] [⟨(some 4), .ld (.tmp 1) 1 false, none, []⟩,
    ⟨(some 5), .mv (.tmp 0), none, []⟩,
    ⟨(some 6), .call 75 [(.tmp 4), (.tmp 5)], none, []⟩,
    ⟨(some 3), .mv (.tmp 6), none, []⟩] [3]
def m_impl_WithoutServers_c1_3 : Unit → MCode := fun _ => .seq m_impl_WithoutServers_c1_2 (fun _ => .ret)
def m_impl_WithoutServers_c1_4 : Unit → MCode := fun _ => .seq m_impl_WithoutServers_c1_1 m_impl_WithoutServers_c1_3
def m_impl_WithoutServers_c1 : MCode := m_impl_WithoutServers_c1_4 ()
def h_impl_WithoutServers_c1 : Hints := [(0, [0, 1], [], [], []), (1, [3], [], [], [])]
def r_impl_WithoutServers_c1 : List RV := [.t 3]
abbrev n_impl_WithoutServers_c1 : Nat := 113
theorem k_impl_WithoutServers_c1 : Known Pr mu n_impl_WithoutServers_c1 m_impl_WithoutServers_c1 r_impl_WithoutServers_c1 Go.Proofs.Try.f113.ntmps := .of h_impl_WithoutServers_c1 hm Go.Proofs.Try.func113 (by kernel_rfl) (by kernel_rfl) (by kernel_rfl) (by kernel_rfl)
def m_slices_Contains_intint_1 : Unit → MCode := fun _ => .region [] [⟨(some 4), .mv (.const (.bool false)), none, []⟩] [0, 1]
def m_slices_Contains_intint_2 : Unit → MCode := fun _ => .region [] [⟨(some 5), .mv (.tmp 0), none, []⟩,
    ⟨(some 6), .mv (.tmp 1), none, []⟩,
    ⟨(some 7), .call 138 [(.tmp 5), (.tmp 6)], none, []⟩,
    ⟨(some 8), .bin .geq (.tmp 7) (.const (.int .i64 0)), none, []⟩,
    ⟨(some 4), .mv (.tmp 8), none, []⟩] [4]
def m_slices_Contains_intint_3 : Unit → MCode := fun _ => .seq m_slices_Contains_intint_2 (fun _ => .ret)
def m_slices_Contains_intint_4 : Unit → MCode := fun _ => .seq m_slices_Contains_intint_1 m_slices_Contains_intint_3
def m_slices_Contains_intint : MCode := m_slices_Contains_intint_4 ()
def h_slices_Contains_intint : Hints := [(0, [0, 1], [], [], []), (1, [4], [], [], [])]
def r_slices_Contains_intint : List RV := [.t 4]
abbrev n_slices_Contains_intint : Nat := 119
theorem k_slices_Contains_intint : Known Pr mu n_slices_Contains_intint m_slices_Contains_intint r_slices_Contains_intint Go.Proofs.Try.f119.ntmps := .of h_slices_Contains_intint hm Go.Proofs.Try.func119 (by kernel_rfl) (by kernel_rfl) (by kernel_rfl) (by kernel_rfl)
def m_slices_Clone_intint_1 : Unit → MCode := fun _ => .region [] [⟨(some 2), .mv (.const (.slice none 0 0)), none, []⟩] [0]
def m_slices_Clone_intint_2 : Unit → MCode := fun _ => .region [] [⟨(some 3), .mv (.tmp 0), none, []⟩,
    ⟨(some 4), .nbin .eql (.tmp 3) (.const (.slice none 0 0)), none, []⟩] [0, 4]
def m_slices_Clone_intint_3 : Unit → MCode := fun _ => .region [] [⟨(some 2), .mv (.const (.slice none 0 0)), none, []⟩] [2]
def m_slices_Clone_intint_4 : Unit → MCode := fun _ => .seq m_slices_Clone_intint_3 (fun _ => .ret)
def m_slices_Clone_intint_5 : Unit → MCode := fun _ => .cond (.tmp 4) m_slices_Clone_intint_4 (fun _ => .skip)
def m_slices_Clone_intint_6 : Unit → MCode := fun _ => .seq m_slices_Clone_intint_2 m_slices_Clone_intint_5
def m_slices_Clone_intint_7 : Unit → MCode := fun _ => .region [] [⟨(some 5), .bsl 1 0 [.int .i64 0] [], none, []⟩,
    ⟨(some 6), .mv (.tmp 0), none, []⟩,
    ⟨(some 7), .app (.tmp 5) (.tmp 6) 1 8, none, []⟩,
    ⟨(some 2), .mv (.tmp 7), none, []⟩] [2]
def m_slices_Clone_intint_8 : Unit → MCode := fun _ => .seq m_slices_Clone_intint_7 (fun _ => .ret)
def m_slices_Clone_intint_9 : Unit → MCode := fun _ => .seq m_slices_Clone_intint_6 m_slices_Clone_intint_8
def m_slices_Clone_intint_10 : Unit → MCode := fun _ => .seq m_slices_Clone_intint_1 m_slices_Clone_intint_9
def m_slices_Clone_intint : MCode := m_slices_Clone_intint_10 ()
def h_slices_Clone_intint : Hints := [(0, [0], [], [], []), (1, [0, 4], [], [], []), (2, [2], [], [], []), (3, [2], [], [], [])]
def r_slices_Clone_intint : List RV := [.t 2]
abbrev n_slices_Clone_intint : Nat := 120
theorem k_slices_Clone_intint : Known Pr mu n_slices_Clone_intint m_slices_Clone_intint r_slices_Clone_intint Go.Proofs.Try.f120.ntmps := .of h_slices_Clone_intint hm Go.Proofs.Try.func120 (by kernel_rfl) (by kernel_rfl) (by kernel_rfl) (by kernel_rfl)
def m_slices_Sort_intint_1 : Unit → MCode := fun _ => .region [] [⟨(some 3), .mv (.tmp 0), none, []⟩,
    ⟨(some 4), .len false (.tmp 3), none, []⟩,
    ⟨(some 2), .mv (.tmp 4), none, []⟩] [0, 2]
def m_slices_Sort_intint_2 : Unit → MCode := fun _ => .region [] [⟨(some 5), .mv (.tmp 0), none, []⟩,
    ⟨(some 6), .mv (.tmp 2), none, []⟩,
    ⟨(some 7), .mv (.tmp 2), none, []⟩,
    ⟨(some 8), .conv .u64 (.tmp 7), none, []⟩,
    ⟨(some 9), .call 140 [(.tmp 8)], none, []⟩,
    ⟨(some 10), .callm 139 [(.tmp 5), (.const (.int .i64 0)), (.tmp 6), (.tmp 9)], none, []⟩] []
def m_slices_Sort_intint_3 : Unit → MCode := fun _ => .seq m_slices_Sort_intint_1 m_slices_Sort_intint_2
def m_slices_Sort_intint : MCode := m_slices_Sort_intint_3 ()
def h_slices_Sort_intint : Hints := [(0, [0, 2], [], [], []), (1, [], [], [], [])]
def r_slices_Sort_intint : List RV := []
abbrev n_slices_Sort_intint : Nat := 121
theorem k_slices_Sort_intint : Known Pr mu n_slices_Sort_intint m_slices_Sort_intint r_slices_Sort_intint Go.Proofs.Try.f121.ntmps := .of h_slices_Sort_intint hm Go.Proofs.Try.func121 (by kernel_rfl) (by kernel_rfl) (by kernel_rfl) (by kernel_rfl)
def m_slices_Compact_intint_1 : Unit → MCode := fun _ => .region [] [⟨(some 2), .mv (.const (.slice none 0 0)), none, []⟩] [0]
def m_slices_Compact_intint_2 : Unit → MCode := fun _ => .region [] [⟨(some 6), .mv (.tmp 0), none, []⟩,
    ⟨(some 7), .len false (.tmp 6), none, []⟩,
    ⟨(some 8), .bin .lss (.tmp 7) (.const (.int .i64 2)), none, []⟩] [0, 8]
def m_slices_Compact_intint_3 : Unit → MCode := fun _ => .region [] [⟨(some 9), .mv (.tmp 0), none, []⟩,
    ⟨(some 2), .mv (.tmp 9), none, []⟩] [2]
def m_slices_Compact_intint_4 : Unit → MCode := fun _ => .seq m_slices_Compact_intint_3 (fun _ => .ret)
def m_slices_Compact_intint_5 : Unit → MCode := fun _ => .cond (.tmp 8) m_slices_Compact_intint_4 (fun _ => .skip)
def m_slices_Compact_intint_6 : Unit → MCode := fun _ => .seq m_slices_Compact_intint_2 m_slices_Compact_intint_5
def m_slices_Compact_intint_7 : Unit → MCode := fun _ => .region [] [⟨(some 3), .mv (.const (.int .i64 1)), none, []⟩] [0, 3]
def m_slices_Compact_intint_8 : Unit → MCode := fun _ => .region [] [⟨(some 10), .mv (.tmp 3), none, []⟩,
    ⟨(some 11), .mv (.tmp 0), none, []⟩,
    ⟨(some 12), .len false (.tmp 11), none, []⟩,
    ⟨(some 13), .bin .lss (.tmp 10) (.tmp 12), none, []⟩] [0, 3, 13]
def m_slices_Compact_intint_9 : Unit → MCode := fun _ => .cond (.tmp 13) (fun _ => .skip) (fun _ => .exit 0)
def m_slices_Compact_intint_10 : Unit → MCode := fun _ => .seq m_slices_Compact_intint_8 m_slices_Compact_intint_9
def m_slices_Compact_intint_11 : Unit → MCode := fun _ => .region [] [⟨(some 16), .mv (.tmp 0), none, []⟩,
    ⟨(some 17), .mv (.tmp 3), none, []⟩,
    ⟨(some 18), .ia (.tmp 16) (.tmp 17) 1, none, []⟩,
    ⟨(some 19), .ld (.tmp 18) 1 false, none, []⟩,
    ⟨(some 20), .mv (.tmp 0), none, []⟩,
    ⟨(some 21), .mv (.tmp 3), none, []⟩,
    ⟨(some 22), .bin .sub (.tmp 21) (.const (.int .i64 1)), none, []⟩,
    ⟨(some 23), .ia (.tmp 20) (.tmp 22) 1, none, [0, 1, 2, 3]⟩,
    ⟨(some 24), .ld (.tmp 23) 1 false, none, [0, 1, 2, 3]⟩,
    ⟨(some 25), .bin .eql (.tmp 19) (.tmp 24), none, []⟩] [0, 3, 25]
def m_slices_Compact_intint_12 : Unit → MCode := fun _ => .region [] [⟨(some 26), .mv (.tmp 0), none, []⟩,
    ⟨(some 27), .mv (.tmp 3), none, []⟩,
    ⟨(some 28), .slc false (.tmp 26) (some (.tmp 27)) none none 1, none, []⟩,
    ⟨(some 4), .mv (.tmp 28), none, []⟩] [0, 3, 4]
def m_slices_Compact_intint_13 : Unit → MCode := fun _ => .region [] [⟨(some 5), .mv (.const (.int .i64 1)), none, []⟩] [0, 3, 4, 5]
def m_slices_Compact_intint_14 : Unit → MCode := fun _ => .region [] [⟨(some 29), .mv (.tmp 5), none, []⟩,
    ⟨(some 30), .mv (.tmp 4), none, []⟩,
    ⟨(some 31), .len false (.tmp 30), none, []⟩,
    ⟨(some 32), .bin .lss (.tmp 29) (.tmp 31), none, []⟩] [0, 3, 4, 5, 32]
def m_slices_Compact_intint_15 : Unit → MCode := fun _ => .cond (.tmp 32) (fun _ => .skip) (fun _ => .exit 2)
def m_slices_Compact_intint_16 : Unit → MCode := fun _ => .seq m_slices_Compact_intint_14 m_slices_Compact_intint_15
def m_slices_Compact_intint_17 : Unit → MCode := fun _ => .region [] [⟨(some 35), .mv (.tmp 4), none, []⟩,
    ⟨(some 36), .mv (.tmp 5), none, []⟩,
    ⟨(some 37), .ia (.tmp 35) (.tmp 36) 1, none, []⟩,
    ⟨(some 38), .ld (.tmp 37) 1 false, none, []⟩,
    ⟨(some 39), .mv (.tmp 4), none, []⟩,
    ⟨(some 40), .mv (.tmp 5), none, []⟩,
    ⟨(some 41), .bin .sub (.tmp 40) (.const (.int .i64 1)), none, []⟩,
    ⟨(some 42), .ia (.tmp 39) (.tmp 41) 1, none, [0, 1, 2, 3]⟩,
    ⟨(some 43), .ld (.tmp 42) 1 false, none, [0, 1, 2, 3]⟩,
    ⟨(some 44), .bin .neq (.tmp 38) (.tmp 43), none, []⟩] [0, 3, 4, 5, 44]
def m_slices_Compact_intint_18 : Unit → MCode := fun _ => .region [] [⟨(some 45), .mv (.tmp 0), none, []⟩,
    ⟨(some 46), .mv (.tmp 3), none, []⟩,
    ⟨(some 47), .mv (.tmp 4), none, []⟩,
    ⟨(some 48), .mv (.tmp 5), none, []⟩,
    ⟨(some 49), .ia (.tmp 47) (.tmp 48) 1, none, []⟩,
    ⟨(some 50), .ld (.tmp 49) 1 false, none, []⟩,
    ⟨(some 51), .ia (.tmp 45) (.tmp 46) 1, none, []⟩,
    ⟨none, .sto (.tmp 51) (.tmp 50) 1, none, []⟩] [0, 3, 4, 5]
def m_slices_Compact_intint_19 : Unit → MCode := fun _ => .region [] [⟨(some 52), .mv (.tmp 3), none, []⟩,
    ⟨(some 53), .bin .add (.tmp 52) (.const (.int .i64 1)), none, []⟩,
    ⟨(some 3), .mv (.tmp 53), none, []⟩] [0, 3, 4, 5]
def m_slices_Compact_intint_20 : Unit → MCode := fun _ => .seq m_slices_Compact_intint_18 m_slices_Compact_intint_19
def m_slices_Compact_intint_21 : Unit → MCode := fun _ => .cond (.tmp 44) m_slices_Compact_intint_20 (fun _ => .skip)
def m_slices_Compact_intint_22 : Unit → MCode := fun _ => .seq m_slices_Compact_intint_17 m_slices_Compact_intint_21
def m_slices_Compact_intint_23 : Unit → MCode := fun _ => .block 3 m_slices_Compact_intint_22
def m_slices_Compact_intint_24 : Unit → MCode := fun _ => .region [] [⟨(some 33), .mv (.tmp 5), none, []⟩,
    ⟨(some 34), .bin .add (.tmp 33) (.const (.int .i64 1)), none, []⟩,
    ⟨(some 5), .mv (.tmp 34), none, []⟩] [0, 3, 4, 5]
def m_slices_Compact_intint_25 : Unit → MCode := fun _ => .seq m_slices_Compact_intint_23 m_slices_Compact_intint_24
def m_slices_Compact_intint_26 : Unit → MCode := fun _ => .seq m_slices_Compact_intint_16 m_slices_Compact_intint_25
def m_slices_Compact_intint_27 : Unit → MCode := fun _ => .loop m_slices_Compact_intint_26
def m_slices_Compact_intint_28 : Unit → MCode := fun _ => .block 2 m_slices_Compact_intint_27
def m_slices_Compact_intint_29 : Unit → MCode := fun _ => .seq m_slices_Compact_intint_13 m_slices_Compact_intint_28
def m_slices_Compact_intint_30 : Unit → MCode := fun _ => .region [] [⟨(some 54), .mv (.tmp 0), none, []⟩,
    ⟨(some 55), .mv (.tmp 3), none, []⟩,
    ⟨(some 56), .slc false (.tmp 54) (some (.tmp 55)) none none 1, none, []⟩,
    ⟨none, .clr (.tmp 56) 1 [.int .i64 0], none, []⟩] [0, 3]
def m_slices_Compact_intint_31 : Unit → MCode := fun _ => .region [] [⟨(some 57), .mv (.tmp 0), none, []⟩,
    ⟨(some 58), .mv (.tmp 3), none, []⟩,
    ⟨(some 59), .slc false (.tmp 57) none (some (.tmp 58)) none 1, none, []⟩,
    ⟨(some 2), .mv (.tmp 59), none, []⟩] [2]
def m_slices_Compact_intint_32 : Unit → MCode := fun _ => .seq m_slices_Compact_intint_31 (fun _ => .ret)
def m_slices_Compact_intint_33 : Unit → MCode := fun _ => .seq m_slices_Compact_intint_30 m_slices_Compact_intint_32
def m_slices_Compact_intint_34 : Unit → MCode := fun _ => .seq m_slices_Compact_intint_29 m_slices_Compact_intint_33
def m_slices_Compact_intint_35 : Unit → MCode := fun _ => .seq m_slices_Compact_intint_12 m_slices_Compact_intint_34
def m_slices_Compact_intint_36 : Unit → MCode := fun _ => .cond (.tmp 25) m_slices_Compact_intint_35 (fun _ => .skip)
def m_slices_Compact_intint_37 : Unit → MCode := fun _ => .seq m_slices_Compact_intint_11 m_slices_Compact_intint_36
def m_slices_Compact_intint_38 : Unit → MCode := fun _ => .block 1 m_slices_Compact_intint_37
def m_slices_Compact_intint_39 : Unit → MCode := fun _ => .region [] [⟨(some 14), .mv (.tmp 3), none, []⟩,
    ⟨(some 15), .bin .add (.tmp 14) (.const (.int .i64 1)), none, []⟩,
    ⟨(some 3), .mv (.tmp 15), none, []⟩] [0, 3]
def m_slices_Compact_intint_40 : Unit → MCode := fun _ => .seq m_slices_Compact_intint_38 m_slices_Compact_intint_39
def m_slices_Compact_intint_41 : Unit → MCode := fun _ => .seq m_slices_Compact_intint_10 m_slices_Compact_intint_40
def m_slices_Compact_intint_42 : Unit → MCode := fun _ => .loop m_slices_Compact_intint_41
def m_slices_Compact_intint_43 : Unit → MCode := fun _ => .block 0 m_slices_Compact_intint_42
def m_slices_Compact_intint_44 : Unit → MCode := fun _ => .seq m_slices_Compact_intint_7 m_slices_Compact_intint_43
def m_slices_Compact_intint_45 : Unit → MCode := fun _ => .region [] [⟨(some 60), .mv (.tmp 0), none, []⟩,
    ⟨(some 2), .mv (.tmp 60), none, []⟩] [2]
def m_slices_Compact_intint_46 : Unit → MCode := fun _ => .seq m_slices_Compact_intint_45 (fun _ => .ret)
def m_slices_Compact_intint_47 : Unit → MCode := fun _ => .seq m_slices_Compact_intint_44 m_slices_Compact_intint_46
def m_slices_Compact_intint_48 : Unit → MCode := fun _ => .seq m_slices_Compact_intint_6 m_slices_Compact_intint_47
def m_slices_Compact_intint_49 : Unit → MCode := fun _ => .seq m_slices_Compact_intint_1 m_slices_Compact_intint_48
def m_slices_Compact_intint : MCode := m_slices_Compact_intint_49 ()
def h_slices_Compact_intint : Hints := [(0, [0], [], [], []), (1, [0, 8], [], [], []), (2, [2], [], [], []), (3, [0, 3], [], [], []), (4, [0, 3, 13], [], [], []), (6, [0, 3, 25], [[], [], [], [], [], [], [], [0, 1, 2, 3], [0, 1, 2, 3]], [], []), (7, [0, 3, 4], [], [], []), (8, [0, 3, 4, 5], [], [], []), (9, [0, 3, 4, 5, 32], [], [], []), (11, [0, 3, 4, 5, 44], [[], [], [], [], [], [], [], [0, 1, 2, 3], [0, 1, 2, 3]], [], []), (12, [0, 3, 4, 5], [], [], []), (13, [0, 3, 4, 5], [], [], []), (10, [0, 3, 4, 5], [], [], []), (14, [0, 3], [], [], []), (15, [2], [], [], []), (5, [0, 3], [], [], []), (16, [2], [], [], [])]
def r_slices_Compact_intint : List RV := [.t 2]
abbrev n_slices_Compact_intint : Nat := 122
theorem k_slices_Compact_intint : Known Pr mu n_slices_Compact_intint m_slices_Compact_intint r_slices_Compact_intint Go.Proofs.Try.f122.ntmps := .of h_slices_Compact_intint hm Go.Proofs.Try.func122 (by kernel_rfl) (by kernel_rfl) (by kernel_rfl) (by kernel_rfl)
def m_spec_EqualServers_1 : Unit → MCode := fun _ => .region [] [⟨(some 4), .mv (.const (.bool false)), none, []⟩] [0, 1]
def m_spec_EqualServers_2 : Unit → MCode := fun _ => .region [] [⟨(some 6), .mv (.tmp 0), none, []⟩,
    ⟨(some 7), .len false (.tmp 6), none, []⟩,
    ⟨(some 8), .mv (.tmp 1), none, []⟩,
    ⟨(some 9), .len false (.tmp 8), none, []⟩,
    ⟨(some 10), .bin .neq (.tmp 7) (.tmp 9), none, []⟩] [0, 1, 10]
def m_spec_EqualServers_3 : Unit → MCode := fun _ => .region [] [⟨(some 4), .mv (.const (.bool false)), none, []⟩] [4]
def m_spec_EqualServers_4 : Unit → MCode := fun _ => .seq m_spec_EqualServers_3 (fun _ => .ret)
def m_spec_EqualServers_5 : Unit → MCode := fun _ => .cond (.tmp 10) m_spec_EqualServers_4 (fun _ => .skip)
def m_spec_EqualServers_6 : Unit → MCode := fun _ => .seq m_spec_EqualServers_2 m_spec_EqualServers_5
def m_spec_EqualServers_7 : Unit → MCode := fun _ => .region [] [⟨(some 5), .mv (.const (.int .i64 0)), none, []⟩] [0, 1, 5]
def m_spec_EqualServers_8 : Unit → MCode := fun _ => .region [] [⟨(some 11), .mv (.tmp 5), none, []⟩,
    ⟨(some 12), .mv (.tmp 0), none, []⟩,
    ⟨(some 13), .len false (.tmp 12), none, []⟩,
    ⟨(some 14), .bin .lss (.tmp 11) (.tmp 13), none, []⟩] [0, 1, 5, 14]
def m_spec_EqualServers_9 : Unit → MCode := fun _ => .cond (.tmp 14) (fun _ => .skip) (fun _ => .exit 0)
def m_spec_EqualServers_10 : Unit → MCode := fun _ => .seq m_spec_EqualServers_8 m_spec_EqualServers_9
def m_spec_EqualServers_11 : Unit → MCode := fun _ => .region [] [⟨(some 17), .mv (.tmp 0), none, []⟩,
    ⟨(some 18), .mv (.tmp 5), none, []⟩,
    ⟨(some 19), .ia (.tmp 17) (.tmp 18) 1, none, []⟩,
    ⟨(some 20), .ld (.tmp 19) 1 false, none, []⟩,
    ⟨(some 21), .mv (.tmp 1), none, []⟩,
    ⟨(some 22), .mv (.tmp 5), none, []⟩,
    ⟨(some 23), .ia (.tmp 21) (.tmp 22) 1, none, [0, 1, 2, 3]⟩,
    ⟨(some 24), .ld (.tmp 23) 1 false, none, [0, 1, 2, 3]⟩,
    ⟨(some 25), .bin .neq (.tmp 20) (.tmp 24), none, []⟩] [0, 1, 5, 25]
def m_spec_EqualServers_12 : Unit → MCode := fun _ => .region [] [⟨(some 4), .mv (.const (.bool false)), none, []⟩] [4]
def m_spec_EqualServers_13 : Unit → MCode := fun _ => .seq m_spec_EqualServers_12 (fun _ => .ret)
def m_spec_EqualServers_14 : Unit → MCode := fun _ => .cond (.tmp 25) m_spec_EqualServers_13 (fun _ => .skip)
def m_spec_EqualServers_15 : Unit → MCode := fun _ => .seq m_spec_EqualServers_11 m_spec_EqualServers_14
def m_spec_EqualServers_16 : Unit → MCode := fun _ => .block 1 m_spec_EqualServers_15
def m_spec_EqualServers_17 : Unit → MCode := fun _ => .region [] [⟨(some 15), .mv (.tmp 5), none, []⟩,
    ⟨(some 16), .bin .add (.tmp 15) (.const (.int .i64 1)), none, []⟩,
    ⟨(some 5), .mv (.tmp 16), none, []⟩] [0, 1, 5]
def m_spec_EqualServers_18 : Unit → MCode := fun _ => .seq m_spec_EqualServers_16 m_spec_EqualServers_17
def m_spec_EqualServers_19 : Unit → MCode := fun _ => .seq m_spec_EqualServers_10 m_spec_EqualServers_18
def m_spec_EqualServers_20 : Unit → MCode := fun _ => .loop m_spec_EqualServers_19
def m_spec_EqualServers_21 : Unit → MCode := fun _ => .block 0 m_spec_EqualServers_20
def m_spec_EqualServers_22 : Unit → MCode := fun _ => .seq m_spec_EqualServers_7 m_spec_EqualServers_21
def m_spec_EqualServers_23 : Unit → MCode := fun _ => .region [] [⟨(some 4), .mv (.const (.bool true)), none, []⟩] [4]
def m_spec_EqualServers_24 : Unit → MCode := fun _ => .seq m_spec_EqualServers_23 (fun _ => .ret)
def m_spec_EqualServers_25 : Unit → MCode := fun _ => .seq m_spec_EqualServers_22 m_spec_EqualServers_24
def m_spec_EqualServers_26 : Unit → MCode := fun _ => .seq m_spec_EqualServers_6 m_spec_EqualServers_25
def m_spec_EqualServers_27 : Unit → MCode := fun _ => .seq m_spec_EqualServers_1 m_spec_EqualServers_26
def m_spec_EqualServers : MCode := m_spec_EqualServers_27 ()
def h_spec_EqualServers : Hints := [(0, [0, 1], [], [], []), (1, [0, 1, 10], [], [], []), (2, [4], [], [], []), (3, [0, 1, 5], [], [], []), (4, [0, 1, 5, 14], [], [], []), (6, [0, 1, 5, 25], [[], [], [], [], [], [], [0, 1, 2, 3], [0, 1, 2, 3]], [], []), (7, [4], [], [], []), (5, [0, 1, 5], [], [], []), (8, [4], [], [], [])]
def r_spec_EqualServers : List RV := [.t 4]
abbrev n_spec_EqualServers : Nat := 124
theorem k_spec_EqualServers : Known Pr mu n_spec_EqualServers m_spec_EqualServers r_spec_EqualServers Go.Proofs.Try.f124.ntmps := .of h_spec_EqualServers hm Go.Proofs.Try.func124 (by kernel_rfl) (by kernel_rfl) (by kernel_rfl) (by kernel_rfl)
def m_impl_EqualServers_1 : Unit → MCode := fun _ => .region [] [⟨(some 4), .mv (.const (.bool false)), none, []⟩] [0, 1]
def m_impl_EqualServers_2 : Unit → MCode := fun _ => .region [] [⟨(some 5), .mv (.tmp 0), none, []⟩,
    ⟨(some 6), .mv (.tmp 1), none, []⟩,
    ⟨(some 7), .call 142 [(.tmp 5), (.tmp 6)], none, []⟩,
    ⟨(some 4), .mv (.tmp 7), none, []⟩] [4]
def m_impl_EqualServers_3 : Unit → MCode := fun _ => .seq m_impl_EqualServers_2 (fun _ => .ret)
def m_impl_EqualServers_4 : Unit → MCode := fun _ => .seq m_impl_EqualServers_1 m_impl_EqualServers_3
def m_impl_EqualServers : MCode := m_impl_EqualServers_4 ()
def h_impl_EqualServers : Hints := [(0, [0, 1], [], [], []), (1, [4], [], [], [])]
def r_impl_EqualServers : List RV := [.t 4]
abbrev n_impl_EqualServers : Nat := 128
theorem k_impl_EqualServers : Known Pr mu n_impl_EqualServers m_impl_EqualServers r_impl_EqualServers Go.Proofs.Try.f128.ntmps := .of h_impl_EqualServers hm Go.Proofs.Try.func128 (by kernel_rfl) (by kernel_rfl) (by kernel_rfl) (by kernel_rfl)
def m_spec_IsValidOp_1 : Unit → MCode := fun _ => .region [] [⟨(some 1), .box (.tmp 0), none, []⟩,
    ⟨(some 2), .mv (.const (.bool false)), none, []⟩] [1]
def m_spec_IsValidOp_2 : Unit → MCode := fun _ => .region [] [⟨(some 3), .fa (.tmp 1) 0, none, []⟩,
    ⟨(some 4), .ld (.tmp 3) 1 false, none, []⟩,
    ⟨(some 5), .call 59 [(.tmp 4), (.const (.int .i64 0)), (.const (.int .i64 2))], none, []⟩,
    ⟨(some 6), .not (.tmp 5), none, []⟩,
    ⟨(some 7), .mv (.tmp 6), none, []⟩,
    ⟨(some 8), .fa (.tmp 1) 1, (some (7, false)), []⟩,
    ⟨(some 9), .ld (.tmp 8) 1 false, (some (7, false)), []⟩,
    ⟨(some 10), .call 59 [(.tmp 9), (.const (.int .i64 1)), (.const (.int .i64 99))], (some (7, false)), []⟩,
    ⟨(some 11), .not (.tmp 10), (some (7, false)), []⟩,
    ⟨(some 12), .pick (.tmp 7) (.const (.bool true)) (.tmp 11), none, []⟩,
    ⟨(some 13), .mv (.tmp 12), none, []⟩,
    ⟨(some 14), .fa (.tmp 1) 3, (some (13, false)), []⟩,
    ⟨(some 15), .ld (.tmp 14) 1 false, (some (13, false)), []⟩,
    ⟨(some 16), .call 59 [(.tmp 15), (.const (.int .i64 0)), (.const (.int .i64 2))], (some (13, false)), []⟩,
    ⟨(some 17), .not (.tmp 16), (some (13, false)), []⟩,
    ⟨(some 18), .pick (.tmp 13) (.const (.bool true)) (.tmp 17), none, []⟩,
    ⟨(some 19), .mv (.tmp 18), none, []⟩,
    ⟨(some 20), .fa (.tmp 1) 5, (some (19, false)), []⟩,
    ⟨(some 21), .ld (.tmp 20) 1 false, (some (19, false)), []⟩,
    ⟨(some 22), .call 59 [(.tmp 21), (.const (.int .i64 0)), (.const (.int .i64 9))], (some (19, false)), []⟩,
    ⟨(some 23), .not (.tmp 22), (some (19, false)), []⟩,
    ⟨(some 24), .pick (.tmp 19) (.const (.bool true)) (.tmp 23), none, []⟩] [1, 24]
def m_spec_IsValidOp_3 : Unit → MCode := fun _ => .region [] [⟨(some 2), .mv (.const (.bool false)), none, []⟩] [2]
def m_spec_IsValidOp_4 : Unit → MCode := fun _ => .seq m_spec_IsValidOp_3 (fun _ => .ret)
def m_spec_IsValidOp_5 : Unit → MCode := fun _ => .cond (.tmp 24) m_spec_IsValidOp_4 (fun _ => .skip)
def m_spec_IsValidOp_6 : Unit → MCode := fun _ => .seq m_spec_IsValidOp_2 m_spec_IsValidOp_5
def m_spec_IsValidOp_7 : Unit → MCode := fun _ => .region [] [⟨(some 25), .fa (.tmp 1) 2, none, []⟩,
    ⟨(some 26), .ld (.tmp 25) 1 false, none, []⟩,
    ⟨(some 27), .bin .eql (.tmp 26) (.const (.int .i64 1)), none, []⟩,
    ⟨(some 28), .mv (.tmp 27), none, []⟩,
    ⟨(some 29), .fa (.tmp 1) 4, (some (28, true)), []⟩,
    ⟨(some 30), .ld (.tmp 29) 1 false, (some (28, true)), []⟩,
    ⟨(some 31), .bin .eql (.tmp 30) (.const (.int .i64 0)), (some (28, true)), []⟩,
    ⟨(some 32), .pick (.tmp 28) (.tmp 31) (.const (.bool false)), none, []⟩,
    ⟨(some 33), .mv (.tmp 32), none, []⟩,
    ⟨(some 34), .fa (.tmp 1) 2, (some (33, false)), []⟩,
    ⟨(some 35), .ld (.tmp 34) 1 false, (some (33, false)), []⟩,
    ⟨(some 36), .bin .eql (.tmp 35) (.const (.int .i64 2)), (some (33, false)), []⟩,
    ⟨(some 37), .mv (.tmp 36), (some (33, false)), []⟩,
    ⟨(some 38), .fa (.tmp 1) 4, (some (37, true)), []⟩,
    ⟨(some 39), .ld (.tmp 38) 1 false, (some (37, true)), []⟩,
    ⟨(some 40), .call 59 [(.tmp 39), (.const (.int .i64 0)), (.const (.int .i64 9))], (some (37, true)), []⟩,
    ⟨(some 41), .pick (.tmp 37) (.tmp 40) (.const (.bool false)), (some (33, false)), []⟩,
    ⟨(some 42), .pick (.tmp 33) (.const (.bool true)) (.tmp 41), none, []⟩,
    ⟨(some 2), .mv (.tmp 42), none, []⟩] [2]
def m_spec_IsValidOp_8 : Unit → MCode := fun _ => .seq m_spec_IsValidOp_7 (fun _ => .ret)
def m_spec_IsValidOp_9 : Unit → MCode := fun _ => .seq m_spec_IsValidOp_6 m_spec_IsValidOp_8
def m_spec_IsValidOp_10 : Unit → MCode := fun _ => .seq m_spec_IsValidOp_1 m_spec_IsValidOp_9
def m_spec_IsValidOp : MCode := m_spec_IsValidOp_10 ()
def h_spec_IsValidOp : Hints := [(0, [1], [], [], []), (1, [1, 24], [], [], []), (2, [2], [], [], []), (3, [2], [], [], [])]
def r_spec_IsValidOp : List RV := [.t 2]
abbrev n_spec_IsValidOp : Nat := 129
theorem k_spec_IsValidOp : Known Pr mu n_spec_IsValidOp m_spec_IsValidOp r_spec_IsValidOp Go.Proofs.Try.f129.ntmps := .of h_spec_IsValidOp hm Go.Proofs.Try.func129 (by kernel_rfl) (by kernel_rfl) (by kernel_rfl) (by kernel_rfl)
def m_laws_toEntry_1 : Unit → MCode := fun _ => .region [] [⟨(some 1), .box (.tmp 0), none, []⟩,
    ⟨(some 2), .alloc [.int .i64 0, .int .i64 0, .int .i64 0, .int .i64 0, .int .i64 0, .int .i64 0, .int .i64 0], none, []⟩] [1, 2]
def m_laws_toEntry_2 : Unit → MCode := fun _ => .region [] [⟨(some 3), .alloc [.int .i64 0, .int .i64 0, .int .i64 0, .int .i64 0, .int .i64 0, .int .i64 0, .int .i64 0], none, []⟩] [1, 2, 3]
def m_laws_toEntry_3 : Unit → MCode := fun _ => .region [] [⟨(some 4), .fa (.tmp 1) 0, none, []⟩,
    ⟨(some 5), .ld (.tmp 4) 1 false, none, []⟩,
    ⟨(some 6), .fa (.tmp 3) 0, none, []⟩,
    ⟨none, .sto (.tmp 6) (.tmp 5) 1, none, []⟩] [1, 2, 3]
def m_laws_toEntry_4 : Unit → MCode := fun _ => .region [] [⟨(some 7), .fa (.tmp 1) 1, none, []⟩,
    ⟨(some 8), .ld (.tmp 7) 6 true, none, []⟩,
    ⟨(some 9), .call 143 [(.tmp 8)], none, []⟩,
    ⟨(some 10), .fa (.tmp 3) 1, none, []⟩,
    ⟨none, .sto (.tmp 10) (.tmp 9) 6, none, []⟩] [2, 3]
def m_laws_toEntry_5 : Unit → MCode := fun _ => .region [] [⟨(some 11), .ld (.tmp 3) 7 true, none, []⟩,
    ⟨none, .sto (.tmp 2) (.tmp 11) 7, none, []⟩] [2]
def m_laws_toEntry_6 : Unit → MCode := fun _ => .seq m_laws_toEntry_5 (fun _ => .ret)
def m_laws_toEntry_7 : Unit → MCode := fun _ => .seq m_laws_toEntry_4 m_laws_toEntry_6
def m_laws_toEntry_8 : Unit → MCode := fun _ => .seq m_laws_toEntry_3 m_laws_toEntry_7
def m_laws_toEntry_9 : Unit → MCode := fun _ => .seq m_laws_toEntry_2 m_laws_toEntry_8
def m_laws_toEntry_10 : Unit → MCode := fun _ => .seq m_laws_toEntry_1 m_laws_toEntry_9
def m_laws_toEntry : MCode := m_laws_toEntry_10 ()
def h_laws_toEntry : Hints := [(0, [1, 2], [], [], []), (1, [1, 2, 3], [], [], []), (2, [1, 2, 3], [], [], []), (3, [2, 3], [], [], []), (4, [2], [], [], [])]
def r_laws_toEntry : List RV := [.c 2 7 true]
abbrev n_laws_toEntry : Nat := 130
theorem k_laws_toEntry : Known Pr mu n_laws_toEntry m_laws_toEntry r_laws_toEntry Go.Proofs.Try.f130.ntmps := .of h_laws_toEntry hm Go.Proofs.Try.func130 (by kernel_rfl) (by kernel_rfl) (by kernel_rfl) (by kernel_rfl)
def m_impl_IsValidOp_1 : Unit → MCode := fun _ => .region [] [⟨(some 1), .box (.tmp 0), none, []⟩,
    ⟨(some 2), .mv (.const (.bool false)), none, []⟩] [1]
def m_impl_IsValidOp_2 : Unit → MCode := fun _ => .region [] [⟨(some 3), .fa (.tmp 1) 0, none, []⟩,
    ⟨(some 4), .ld (.tmp 3) 1 false, none, []⟩,
    ⟨(some 5), .call 64 [(.tmp 4), (.const (.int .i64 0)), (.const (.int .i64 2))], none, []⟩,
    ⟨(some 6), .not (.tmp 5), none, []⟩,
    ⟨(some 7), .mv (.tmp 6), none, []⟩,
    ⟨(some 8), .fa (.tmp 1) 1, (some (7, false)), []⟩,
    ⟨(some 9), .ld (.tmp 8) 1 false, (some (7, false)), []⟩,
    ⟨(some 10), .call 64 [(.tmp 9), (.const (.int .i64 1)), (.const (.int .i64 99))], (some (7, false)), []⟩,
    ⟨(some 11), .not (.tmp 10), (some (7, false)), []⟩,
    ⟨(some 12), .pick (.tmp 7) (.const (.bool true)) (.tmp 11), none, []⟩,
    ⟨(some 13), .mv (.tmp 12), none, []⟩,
    ⟨(some 14), .fa (.tmp 1) 3, (some (13, false)), []⟩,
    ⟨(some 15), .ld (.tmp 14) 1 false, (some (13, false)), []⟩,
    ⟨(some 16), .call 64 [(.tmp 15), (.const (.int .i64 0)), (.const (.int .i64 2))], (some (13, false)), []⟩,
    ⟨(some 17), .not (.tmp 16), (some (13, false)), []⟩,
    ⟨(some 18), .pick (.tmp 13) (.const (.bool true)) (.tmp 17), none, []⟩,
    ⟨(some 19), .mv (.tmp 18), none, []⟩,
    ⟨(some 20), .fa (.tmp 1) 5, (some (19, false)), []⟩,
    ⟨(some 21), .ld (.tmp 20) 1 false, (some (19, false)), []⟩,
    ⟨(some 22), .call 64 [(.tmp 21), (.const (.int .i64 0)), (.const (.int .i64 9))], (some (19, false)), []⟩,
    ⟨(some 23), .not (.tmp 22), (some (19, false)), []⟩,
    ⟨(some 24), .pick (.tmp 19) (.const (.bool true)) (.tmp 23), none, []⟩] [1, 24]
def m_impl_IsValidOp_3 : Unit → MCode := fun _ => .region [] [⟨(some 2), .mv (.const (.bool false)), none, []⟩] [2]
def m_impl_IsValidOp_4 : Unit → MCode := fun _ => .seq m_impl_IsValidOp_3 (fun _ => .ret)
def m_impl_IsValidOp_5 : Unit → MCode := fun _ => .cond (.tmp 24) m_impl_IsValidOp_4 (fun _ => .skip)
def m_impl_IsValidOp_6 : Unit → MCode := fun _ => .seq m_impl_IsValidOp_2 m_impl_IsValidOp_5
def m_impl_IsValidOp_7 : Unit → MCode := fun _ => .region [] [⟨(some 25), .fa (.tmp 1) 2, none, []⟩,
    ⟨(some 26), .ld (.tmp 25) 1 false, none, []⟩,
    ⟨(some 27), .bin .eql (.tmp 26) (.const (.int .i64 1)), none, []⟩,
    ⟨(some 28), .mv (.tmp 27), none, []⟩,
    ⟨(some 29), .fa (.tmp 1) 4, (some (28, true)), []⟩,
    ⟨(some 30), .ld (.tmp 29) 1 false, (some (28, true)), []⟩,
    ⟨(some 31), .bin .eql (.tmp 30) (.const (.int .i64 0)), (some (28, true)), []⟩,
    ⟨(some 32), .pick (.tmp 28) (.tmp 31) (.const (.bool false)), none, []⟩,
    ⟨(some 33), .mv (.tmp 32), none, []⟩,
    ⟨(some 34), .fa (.tmp 1) 2, (some (33, false)), []⟩,
    ⟨(some 35), .ld (.tmp 34) 1 false, (some (33, false)), []⟩,
    ⟨(some 36), .bin .eql (.tmp 35) (.const (.int .i64 2)), (some (33, false)), []⟩,
    ⟨(some 37), .mv (.tmp 36), (some (33, false)), []⟩,
    ⟨(some 38), .fa (.tmp 1) 4, (some (37, true)), []⟩,
    ⟨(some 39), .ld (.tmp 38) 1 false, (some (37, true)), []⟩,
    ⟨(some 40), .call 64 [(.tmp 39), (.const (.int .i64 0)), (.const (.int .i64 9))], (some (37, true)), []⟩,
    ⟨(some 41), .pick (.tmp 37) (.tmp 40) (.const (.bool false)), (some (33, false)), []⟩,
    ⟨(some 42), .pick (.tmp 33) (.const (.bool true)) (.tmp 41), none, []⟩,
    ⟨(some 2), .mv (.tmp 42), none, []⟩] [2]
def m_impl_IsValidOp_8 : Unit → MCode := fun _ => .seq m_impl_IsValidOp_7 (fun _ => .ret)
def m_impl_IsValidOp_9 : Unit → MCode := fun _ => .seq m_impl_IsValidOp_6 m_impl_IsValidOp_8
def m_impl_IsValidOp_10 : Unit → MCode := fun _ => .seq m_impl_IsValidOp_1 m_impl_IsValidOp_9
def m_impl_IsValidOp : MCode := m_impl_IsValidOp_10 ()
def h_impl_IsValidOp : Hints := [(0, [1], [], [], []), (1, [1, 24], [], [], []), (2, [2], [], [], []), (3, [2], [], [], [])]
def r_impl_IsValidOp : List RV := [.t 2]
abbrev n_impl_IsValidOp : Nat := 131
theorem k_impl_IsValidOp : Known Pr mu n_impl_IsValidOp m_impl_IsValidOp r_impl_IsValidOp Go.Proofs.Try.f131.ntmps := .of h_impl_IsValidOp hm Go.Proofs.Try.func131 (by kernel_rfl) (by kernel_rfl) (by kernel_rfl) (by kernel_rfl)
def m_laws_eqEntry_1 : Unit → MCode := fun _ => .region [] [⟨(some 2), .box (.tmp 0), none, []⟩,
    ⟨(some 3), .box (.tmp 1), none, []⟩,
    ⟨(some 4), .mv (.const (.bool false)), none, []⟩] [2, 3]
def m_laws_eqEntry_2 : Unit → MCode := fun _ => .region [] [⟨(some 5), .fa (.tmp 2) 0, none, []⟩,
    ⟨(some 6), .ld (.tmp 5) 1 false, none, []⟩,
    ⟨(some 7), .fa (.tmp 3) 0, none, []⟩,
    ⟨(some 8), .ld (.tmp 7) 1 false, none, []⟩,
    ⟨(some 9), .bin .neq (.tmp 6) (.tmp 8), none, []⟩] [2, 3, 9]
def m_laws_eqEntry_3 : Unit → MCode := fun _ => .region [] [⟨(some 4), .mv (.const (.bool false)), none, []⟩] [4]
def m_laws_eqEntry_4 : Unit → MCode := fun _ => .seq m_laws_eqEntry_3 (fun _ => .ret)
def m_laws_eqEntry_5 : Unit → MCode := fun _ => .cond (.tmp 9) m_laws_eqEntry_4 (fun _ => .skip)
def m_laws_eqEntry_6 : Unit → MCode := fun _ => .seq m_laws_eqEntry_2 m_laws_eqEntry_5
def m_laws_eqEntry_7 : Unit → MCode := fun _ => .region [] [⟨(some 10), .fa (.tmp 2) 1, none, []⟩,
    ⟨(some 11), .ld (.tmp 10) 6 true, none, []⟩,
    ⟨(some 12), .fa (.tmp 3) 1, none, []⟩,
    ⟨(some 13), .ld (.tmp 12) 6 true, none, []⟩,
    ⟨(some 14), .call 144 [(.tmp 11), (.tmp 13)], none, []⟩,
    ⟨(some 15), .not (.tmp 14), none, []⟩] [15]
def m_laws_eqEntry_8 : Unit → MCode := fun _ => .region [] [⟨(some 4), .mv (.const (.bool false)), none, []⟩] [4]
def m_laws_eqEntry_9 : Unit → MCode := fun _ => .seq m_laws_eqEntry_8 (fun _ => .ret)
def m_laws_eqEntry_10 : Unit → MCode := fun _ => .cond (.tmp 15) m_laws_eqEntry_9 (fun _ => .skip)
def m_laws_eqEntry_11 : Unit → MCode := fun _ => .seq m_laws_eqEntry_7 m_laws_eqEntry_10
def m_laws_eqEntry_12 : Unit → MCode := fun _ => .region [] [⟨(some 4), .mv (.const (.bool true)), none, []⟩] [4]
def m_laws_eqEntry_13 : Unit → MCode := fun _ => .seq m_laws_eqEntry_12 (fun _ => .ret)
def m_laws_eqEntry_14 : Unit → MCode := fun _ => .seq m_laws_eqEntry_11 m_laws_eqEntry_13
def m_laws_eqEntry_15 : Unit → MCode := fun _ => .seq m_laws_eqEntry_6 m_laws_eqEntry_14
def m_laws_eqEntry_16 : Unit → MCode := fun _ => .seq m_laws_eqEntry_1 m_laws_eqEntry_15
def m_laws_eqEntry : MCode := m_laws_eqEntry_16 ()
def h_laws_eqEntry : Hints := [(0, [2, 3], [], [], []), (1, [2, 3, 9], [], [], []), (2, [4], [], [], []), (3, [15], [], [], []), (4, [4], [], [], []), (5, [4], [], [], [])]
def r_laws_eqEntry : List RV := [.t 4]
abbrev n_laws_eqEntry : Nat := 132
theorem k_laws_eqEntry : Known Pr mu n_laws_eqEntry m_laws_eqEntry r_laws_eqEntry Go.Proofs.Try.f132.ntmps := .of h_laws_eqEntry hm Go.Proofs.Try.func132 (by kernel_rfl) (by kernel_rfl) (by kernel_rfl) (by kernel_rfl)
def m_slices_IndexFunc_intint_1 : Unit → MCode := fun _ => .region [] [⟨(some 4), .mv (.const (.int .i64 0)), none, []⟩] [0, 1]
def m_slices_IndexFunc_intint_2 : Unit → MCode := fun _ => .region [] [⟨(some 6), .mv (.tmp 0), none, []⟩,
    ⟨(some 7), .len false (.tmp 6), none, []⟩,
    ⟨(some 8), .mv (.const (.int .i64 0)), none, []⟩] [0, 1, 7, 8]
def m_slices_IndexFunc_intint_3 : Unit → MCode := fun _ => .region [] [⟨(some 9), .bin .lss (.tmp 8) (.tmp 7), none, []⟩] [0, 1, 7, 8, 9]
def m_slices_IndexFunc_intint_4 : Unit → MCode := fun _ => .cond (.tmp 9) (fun _ => .skip) (fun _ => .exit 0)
def m_slices_IndexFunc_intint_5 : Unit → MCode := fun _ => .region [] [⟨(some 10), .mv (.tmp 8), none, []⟩,
    ⟨(some 5), .mv (.tmp 10), none, []⟩] [0, 1, 5, 7, 8]
def m_slices_IndexFunc_intint_6 : Unit → MCode := fun _ => .region [] [⟨(some 11), .mv (.tmp 1), none, []⟩,
    ⟨(some 12), .mv (.tmp 0), none, []⟩,
    ⟨(some 13), .mv (.tmp 5), none, []⟩,
    ⟨(some 14), .ia (.tmp 12) (.tmp 13) 1, none, []⟩,
    ⟨(some 15), .ld (.tmp 14) 1 false, none, []⟩,
    ⟨(some 16), .callv (.tmp 11) [(.tmp 15)], none, []⟩] [0, 1, 5, 7, 8, 16]
def m_slices_IndexFunc_intint_7 : Unit → MCode := fun _ => .region [] [⟨(some 17), .mv (.tmp 5), none, []⟩,
    ⟨(some 4), .mv (.tmp 17), none, []⟩] [4]
def m_slices_IndexFunc_intint_8 : Unit → MCode := fun _ => .seq m_slices_IndexFunc_intint_7 (fun _ => .ret)
def m_slices_IndexFunc_intint_9 : Unit → MCode := fun _ => .cond (.tmp 16) m_slices_IndexFunc_intint_8 (fun _ => .skip)
def m_slices_IndexFunc_intint_10 : Unit → MCode := fun _ => .seq m_slices_IndexFunc_intint_6 m_slices_IndexFunc_intint_9
def m_slices_IndexFunc_intint_11 : Unit → MCode := fun _ => .seq m_slices_IndexFunc_intint_5 m_slices_IndexFunc_intint_10
def m_slices_IndexFunc_intint_12 : Unit → MCode := fun _ => .block 1 m_slices_IndexFunc_intint_11
def m_slices_IndexFunc_intint_13 : Unit → MCode := fun _ => .region [] [⟨(some 18), .bin .add (.tmp 8) (.const (.int .i64 1)), none, []⟩,
    ⟨(some 8), .mv (.tmp 18), none, []⟩] [0, 1, 7, 8]
def m_slices_IndexFunc_intint_14 : Unit → MCode := fun _ => .seq m_slices_IndexFunc_intint_12 m_slices_IndexFunc_intint_13
def m_slices_IndexFunc_intint_15 : Unit → MCode := fun _ => .seq m_slices_IndexFunc_intint_4 m_slices_IndexFunc_intint_14
def m_slices_IndexFunc_intint_16 : Unit → MCode := fun _ => .seq m_slices_IndexFunc_intint_3 m_slices_IndexFunc_intint_15
def m_slices_IndexFunc_intint_17 : Unit → MCode := fun _ => .loop m_slices_IndexFunc_intint_16
def m_slices_IndexFunc_intint_18 : Unit → MCode := fun _ => .block 0 m_slices_IndexFunc_intint_17
def m_slices_IndexFunc_intint_19 : Unit → MCode := fun _ => .seq m_slices_IndexFunc_intint_2 m_slices_IndexFunc_intint_18
def m_slices_IndexFunc_intint_20 : Unit → MCode := fun _ => .region [] [⟨(some 4), .mv (.const (.int .i64 (-1))), none, []⟩] [4]
def m_slices_IndexFunc_intint_21 : Unit → MCode := fun _ => .seq m_slices_IndexFunc_intint_20 (fun _ => .ret)
def m_slices_IndexFunc_intint_22 : Unit → MCode := fun _ => .seq m_slices_IndexFunc_intint_19 m_slices_IndexFunc_intint_21
def m_slices_IndexFunc_intint_23 : Unit → MCode := fun _ => .seq m_slices_IndexFunc_intint_1 m_slices_IndexFunc_intint_22
def m_slices_IndexFunc_intint : MCode := m_slices_IndexFunc_intint_23 ()
def h_slices_IndexFunc_intint : Hints := [(0, [0, 1], [], [], []), (1, [0, 1, 7, 8], [], [], []), (2, [0, 1, 7, 8, 9], [], [], []), (3, [0, 1, 5, 7, 8], [], [], []), (4, [0, 1, 5, 7, 8, 16], [], [], []), (5, [4], [], [], []), (6, [0, 1, 7, 8], [], [], []), (7, [4], [], [], [])]
def r_slices_IndexFunc_intint : List RV := [.t 4]
abbrev n_slices_IndexFunc_intint : Nat := 136
theorem k_slices_IndexFunc_intint : Known Pr mu n_slices_IndexFunc_intint m_slices_IndexFunc_intint r_slices_IndexFunc_intint Go.Proofs.Try.f136.ntmps := .of h_slices_IndexFunc_intint hm Go.Proofs.Try.func136 (by kernel_rfl) (by kernel_rfl) (by kernel_rfl) (by kernel_rfl)
def m_slices_Index_intint_1 : Unit → MCode := fun _ => .region [] [⟨(some 4), .mv (.const (.int .i64 0)), none, []⟩] [0, 1]
def m_slices_Index_intint_2 : Unit → MCode := fun _ => .region [] [⟨(some 6), .mv (.tmp 0), none, []⟩,
    ⟨(some 7), .len false (.tmp 6), none, []⟩,
    ⟨(some 8), .mv (.const (.int .i64 0)), none, []⟩] [0, 1, 7, 8]
def m_slices_Index_intint_3 : Unit → MCode := fun _ => .region [] [⟨(some 9), .bin .lss (.tmp 8) (.tmp 7), none, []⟩] [0, 1, 7, 8, 9]
def m_slices_Index_intint_4 : Unit → MCode := fun _ => .cond (.tmp 9) (fun _ => .skip) (fun _ => .exit 0)
def m_slices_Index_intint_5 : Unit → MCode := fun _ => .region [] [⟨(some 10), .mv (.tmp 8), none, []⟩,
    ⟨(some 5), .mv (.tmp 10), none, []⟩] [0, 1, 5, 7, 8]
def m_slices_Index_intint_6 : Unit → MCode := fun _ => .region [] [⟨(some 11), .mv (.tmp 1), none, []⟩,
    ⟨(some 12), .mv (.tmp 0), none, []⟩,
    ⟨(some 13), .mv (.tmp 5), none, []⟩,
    ⟨(some 14), .ia (.tmp 12) (.tmp 13) 1, none, []⟩,
    ⟨(some 15), .ld (.tmp 14) 1 false, none, []⟩,
    ⟨(some 16), .bin .eql (.tmp 11) (.tmp 15), none, []⟩] [0, 1, 5, 7, 8, 16]
def m_slices_Index_intint_7 : Unit → MCode := fun _ => .region [] [⟨(some 17), .mv (.tmp 5), none, []⟩,
    ⟨(some 4), .mv (.tmp 17), none, []⟩] [4]
def m_slices_Index_intint_8 : Unit → MCode := fun _ => .seq m_slices_Index_intint_7 (fun _ => .ret)
def m_slices_Index_intint_9 : Unit → MCode := fun _ => .cond (.tmp 16) m_slices_Index_intint_8 (fun _ => .skip)
def m_slices_Index_intint_10 : Unit → MCode := fun _ => .seq m_slices_Index_intint_6 m_slices_Index_intint_9
def m_slices_Index_intint_11 : Unit → MCode := fun _ => .seq m_slices_Index_intint_5 m_slices_Index_intint_10
def m_slices_Index_intint_12 : Unit → MCode := fun _ => .block 1 m_slices_Index_intint_11
def m_slices_Index_intint_13 : Unit → MCode := fun _ => .region [] [⟨(some 18), .bin .add (.tmp 8) (.const (.int .i64 1)), none, []⟩,
    ⟨(some 8), .mv (.tmp 18), none, []⟩] [0, 1, 7, 8]
def m_slices_Index_intint_14 : Unit → MCode := fun _ => .seq m_slices_Index_intint_12 m_slices_Index_intint_13
def m_slices_Index_intint_15 : Unit → MCode := fun _ => .seq m_slices_Index_intint_4 m_slices_Index_intint_14
def m_slices_Index_intint_16 : Unit → MCode := fun _ => .seq m_slices_Index_intint_3 m_slices_Index_intint_15
def m_slices_Index_intint_17 : Unit → MCode := fun _ => .loop m_slices_Index_intint_16
def m_slices_Index_intint_18 : Unit → MCode := fun _ => .block 0 m_slices_Index_intint_17
def m_slices_Index_intint_19 : Unit → MCode := fun _ => .seq m_slices_Index_intint_2 m_slices_Index_intint_18
def m_slices_Index_intint_20 : Unit → MCode := fun _ => .region [] [⟨(some 4), .mv (.const (.int .i64 (-1))), none, []⟩] [4]
def m_slices_Index_intint_21 : Unit → MCode := fun _ => .seq m_slices_Index_intint_20 (fun _ => .ret)
def m_slices_Index_intint_22 : Unit → MCode := fun _ => .seq m_slices_Index_intint_19 m_slices_Index_intint_21
def m_slices_Index_intint_23 : Unit → MCode := fun _ => .seq m_slices_Index_intint_1 m_slices_Index_intint_22
def m_slices_Index_intint : MCode := m_slices_Index_intint_23 ()
def h_slices_Index_intint : Hints := [(0, [0, 1], [], [], []), (1, [0, 1, 7, 8], [], [], []), (2, [0, 1, 7, 8, 9], [], [], []), (3, [0, 1, 5, 7, 8], [], [], []), (4, [0, 1, 5, 7, 8, 16], [], [], []), (5, [4], [], [], []), (6, [0, 1, 7, 8], [], [], []), (7, [4], [], [], [])]
def r_slices_Index_intint : List RV := [.t 4]
abbrev n_slices_Index_intint : Nat := 138
theorem k_slices_Index_intint : Known Pr mu n_slices_Index_intint m_slices_Index_intint r_slices_Index_intint Go.Proofs.Try.f138.ntmps := .of h_slices_Index_intint hm Go.Proofs.Try.func138 (by kernel_rfl) (by kernel_rfl) (by kernel_rfl) (by kernel_rfl)
def m_slices_pdqsortOrdered_int_1 : Unit → MCode := fun _ => .region [] [⟨(some 8), .mv (.const (.bool true)), none, []⟩] [0, 1, 2, 3, 8]
def m_slices_pdqsortOrdered_int_2 : Unit → MCode := fun _ => .region [] [⟨(some 9), .mv (.const (.bool true)), none, []⟩] [0, 1, 2, 3, 8, 9]
def m_slices_pdqsortOrdered_int_3 : Unit → MCode := fun _ => .region [] [⟨(some 19), .mv (.tmp 2), none, []⟩,
    ⟨(some 20), .mv (.tmp 1), none, []⟩,
    ⟨(some 21), .bin .sub (.tmp 19) (.tmp 20), none, []⟩,
    ⟨(some 10), .mv (.tmp 21), none, []⟩] [0, 1, 2, 3, 8, 9, 10]
def m_slices_pdqsortOrdered_int_4 : Unit → MCode := fun _ => .region [] [⟨(some 22), .mv (.tmp 10), none, []⟩,
    ⟨(some 23), .bin .leq (.tmp 22) (.const (.int .i64 12)), none, []⟩] [0, 1, 2, 3, 8, 9, 10, 23]
def m_slices_pdqsortOrdered_int_5 : Unit → MCode := fun _ => .region [] [⟨(some 24), .mv (.tmp 0), none, []⟩,
    ⟨(some 25), .mv (.tmp 1), none, []⟩,
    ⟨(some 26), .mv (.tmp 2), none, []⟩,
    ⟨(some 27), .callm 145 [(.tmp 24), (.tmp 25), (.tmp 26)], none, []⟩] []
def m_slices_pdqsortOrdered_int_6 : Unit → MCode := fun _ => .seq m_slices_pdqsortOrdered_int_5 (fun _ => .ret)
def m_slices_pdqsortOrdered_int_7 : Unit → MCode := fun _ => .cond (.tmp 23) m_slices_pdqsortOrdered_int_6 (fun _ => .skip)
def m_slices_pdqsortOrdered_int_8 : Unit → MCode := fun _ => .seq m_slices_pdqsortOrdered_int_4 m_slices_pdqsortOrdered_int_7
def m_slices_pdqsortOrdered_int_9 : Unit → MCode := fun _ => .region [] [⟨(some 28), .mv (.tmp 3), none, []⟩,
    ⟨(some 29), .bin .eql (.tmp 28) (.const (.int .i64 0)), none, []⟩] [0, 1, 2, 3, 8, 9, 10, 29]
def m_slices_pdqsortOrdered_int_10 : Unit → MCode := fun _ => .region [] [⟨(some 30), .mv (.tmp 0), none, []⟩,
    ⟨(some 31), .mv (.tmp 1), none, []⟩,
    ⟨(some 32), .mv (.tmp 2), none, []⟩,
    ⟨(some 33), .callm 146 [(.tmp 30), (.tmp 31), (.tmp 32)], none, []⟩] []
def m_slices_pdqsortOrdered_int_11 : Unit → MCode := fun _ => .seq m_slices_pdqsortOrdered_int_10 (fun _ => .ret)
def m_slices_pdqsortOrdered_int_12 : Unit → MCode := fun _ => .cond (.tmp 29) m_slices_pdqsortOrdered_int_11 (fun _ => .skip)
def m_slices_pdqsortOrdered_int_13 : Unit → MCode := fun _ => .seq m_slices_pdqsortOrdered_int_9 m_slices_pdqsortOrdered_int_12
def m_slices_pdqsortOrdered_int_14 : Unit → MCode := fun _ => .region [] [⟨(some 34), .mv (.tmp 8), none, []⟩,
    ⟨(some 35), .not (.tmp 34), none, []⟩] [0, 1, 2, 3, 8, 9, 10, 35]
def m_slices_pdqsortOrdered_int_15 : Unit → MCode := fun _ => .region [] [⟨(some 36), .mv (.tmp 0), none, []⟩,
    ⟨(some 37), .mv (.tmp 1), none, []⟩,
    ⟨(some 38), .mv (.tmp 2), none, []⟩,
    ⟨(some 39), .callm 147 [(.tmp 36), (.tmp 37), (.tmp 38)], none, []⟩] [0, 1, 2, 3, 8, 9, 10]
def m_slices_pdqsortOrdered_int_16 : Unit → MCode := fun _ => .region [] [⟨(some 40), .mv (.tmp 3), none, []⟩,
    ⟨(some 41), .bin .sub (.tmp 40) (.const (.int .i64 1)), none, []⟩,
    ⟨(some 3), .mv (.tmp 41), none, []⟩] [0, 1, 2, 3, 8, 9, 10]
def m_slices_pdqsortOrdered_int_17 : Unit → MCode := fun _ => .seq m_slices_pdqsortOrdered_int_15 m_slices_pdqsortOrdered_int_16
def m_slices_pdqsortOrdered_int_18 : Unit → MCode := fun _ => .cond (.tmp 35) m_slices_pdqsortOrdered_int_17 (fun _ => .skip)
def m_slices_pdqsortOrdered_int_19 : Unit → MCode := fun _ => .seq m_slices_pdqsortOrdered_int_14 m_slices_pdqsortOrdered_int_18
def m_slices_pdqsortOrdered_int_20 : Unit → MCode := fun _ => .region [] [⟨(some 43), .mv (.tmp 0), none, []⟩,
    ⟨(some 44), .mv (.tmp 1), none, []⟩,
    ⟨(some 45), .mv (.tmp 2), none, []⟩,
    ⟨(some 46), .call 148 [(.tmp 43), (.tmp 44), (.tmp 45)], none, []⟩,
    ⟨(some 42), .mv (.tmp 46), none, []⟩,
    ⟨(some 47), .ext (.tmp 42) 0, none, []⟩,
    ⟨(some 48), .ext (.tmp 42) 1, none, []⟩,
    ⟨(some 11), .mv (.tmp 47), none, []⟩,
    ⟨(some 12), .mv (.tmp 48), none, []⟩] [0, 1, 2, 3, 8, 9, 10, 11, 12]
def m_slices_pdqsortOrdered_int_21 : Unit → MCode := fun _ => .region [] [⟨(some 49), .mv (.tmp 12), none, []⟩,
    ⟨(some 50), .bin .eql (.tmp 49) (.const (.int .i64 2)), none, []⟩] [0, 1, 2, 3, 8, 9, 10, 11, 12, 50]
def m_slices_pdqsortOrdered_int_22 : Unit → MCode := fun _ => .region [] [⟨(some 51), .mv (.tmp 0), none, []⟩,
    ⟨(some 52), .mv (.tmp 1), none, []⟩,
    ⟨(some 53), .mv (.tmp 2), none, []⟩,
    ⟨(some 54), .callm 149 [(.tmp 51), (.tmp 52), (.tmp 53)], none, []⟩] [0, 1, 2, 3, 8, 9, 10, 11]
def m_slices_pdqsortOrdered_int_23 : Unit → MCode := fun _ => .region [] [⟨(some 55), .mv (.tmp 2), none, []⟩,
    ⟨(some 56), .bin .sub (.tmp 55) (.const (.int .i64 1)), none, []⟩,
    ⟨(some 57), .mv (.tmp 11), none, []⟩,
    ⟨(some 58), .mv (.tmp 1), none, []⟩,
    ⟨(some 59), .bin .sub (.tmp 57) (.tmp 58), none, []⟩,
    ⟨(some 60), .bin .sub (.tmp 56) (.tmp 59), none, []⟩,
    ⟨(some 11), .mv (.tmp 60), none, []⟩] [0, 1, 2, 3, 8, 9, 10, 11]
def m_slices_pdqsortOrdered_int_24 : Unit → MCode := fun _ => .region [] [⟨(some 12), .mv (.const (.int .i64 1)), none, []⟩] [0, 1, 2, 3, 8, 9, 10, 11, 12]
def m_slices_pdqsortOrdered_int_25 : Unit → MCode := fun _ => .seq m_slices_pdqsortOrdered_int_23 m_slices_pdqsortOrdered_int_24
def m_slices_pdqsortOrdered_int_26 : Unit → MCode := fun _ => .seq m_slices_pdqsortOrdered_int_22 m_slices_pdqsortOrdered_int_25
def m_slices_pdqsortOrdered_int_27 : Unit → MCode := fun _ => .cond (.tmp 50) m_slices_pdqsortOrdered_int_26 (fun _ => .skip)
def m_slices_pdqsortOrdered_int_28 : Unit → MCode := fun _ => .seq m_slices_pdqsortOrdered_int_21 m_slices_pdqsortOrdered_int_27
def m_slices_pdqsortOrdered_int_29 : Unit → MCode := fun _ => .region [] [⟨(some 61), .mv (.tmp 8), none, []⟩,
    ⟨(some 62), .mv (.tmp 61), none, []⟩,
    ⟨(some 63), .mv (.tmp 9), (some (62, true)), []⟩,
    ⟨(some 64), .pick (.tmp 62) (.tmp 63) (.const (.bool false)), none, []⟩,
    ⟨(some 65), .mv (.tmp 64), none, []⟩,
    ⟨(some 66), .mv (.tmp 12), (some (65, true)), []⟩,
    ⟨(some 67), .bin .eql (.tmp 66) (.const (.int .i64 1)), (some (65, true)), []⟩,
    ⟨(some 68), .pick (.tmp 65) (.tmp 67) (.const (.bool false)), none, []⟩] [0, 1, 2, 3, 8, 9, 10, 11, 68]
def m_slices_pdqsortOrdered_int_30 : Unit → MCode := fun _ => .region [] [⟨(some 69), .mv (.tmp 0), none, []⟩,
    ⟨(some 70), .mv (.tmp 1), none, []⟩,
    ⟨(some 71), .mv (.tmp 2), none, []⟩,
    ⟨(some 72), .callm 150 [(.tmp 69), (.tmp 70), (.tmp 71)], none, []⟩] [0, 1, 2, 3, 8, 9, 10, 11, 72]
def m_slices_pdqsortOrdered_int_31 : Unit → MCode := fun _ => .cond (.tmp 72) (fun _ => .ret) (fun _ => .skip)
def m_slices_pdqsortOrdered_int_32 : Unit → MCode := fun _ => .seq m_slices_pdqsortOrdered_int_30 m_slices_pdqsortOrdered_int_31
def m_slices_pdqsortOrdered_int_33 : Unit → MCode := fun _ => .cond (.tmp 68) m_slices_pdqsortOrdered_int_32 (fun _ => .skip)
def m_slices_pdqsortOrdered_int_34 : Unit → MCode := fun _ => .seq m_slices_pdqsortOrdered_int_29 m_slices_pdqsortOrdered_int_33
def m_slices_pdqsortOrdered_int_35 : Unit → MCode := fun _ => .region [] [⟨(some 73), .mv (.tmp 1), none, []⟩,
    ⟨(some 74), .bin .gtr (.tmp 73) (.const (.int .i64 0)), none, []⟩,
    ⟨(some 75), .mv (.tmp 74), none, []⟩,
    ⟨(some 76), .mv (.tmp 0), (some (75, true)), []⟩,
    ⟨(some 77), .mv (.tmp 1), (some (75, true)), []⟩,
    ⟨(some 78), .bin .sub (.tmp 77) (.const (.int .i64 1)), (some (75, true)), []⟩,
    ⟨(some 79), .ia (.tmp 76) (.tmp 78) 1, (some (75, true)), []⟩,
    ⟨(some 80), .ld (.tmp 79) 1 false, (some (75, true)), []⟩,
    ⟨(some 81), .mv (.tmp 0), (some (75, true)), []⟩,
    ⟨(some 82), .mv (.tmp 11), (some (75, true)), []⟩,
    ⟨(some 83), .ia (.tmp 81) (.tmp 82) 1, (some (75, true)), [3, 4, 5, 6, 7]⟩,
    ⟨(some 84), .ld (.tmp 83) 1 false, (some (75, true)), [3, 4, 5, 6, 7]⟩,
    ⟨(some 85), .call 151 [(.tmp 80), (.tmp 84)], (some (75, true)), []⟩,
    ⟨(some 86), .not (.tmp 85), (some (75, true)), []⟩,
    ⟨(some 87), .pick (.tmp 75) (.tmp 86) (.const (.bool false)), none, []⟩] [0, 1, 2, 3, 8, 9, 10, 11, 87]
def m_slices_pdqsortOrdered_int_36 : Unit → MCode := fun _ => .region [] [⟨(some 88), .mv (.tmp 0), none, []⟩,
    ⟨(some 89), .mv (.tmp 1), none, []⟩,
    ⟨(some 90), .mv (.tmp 2), none, []⟩,
    ⟨(some 91), .mv (.tmp 11), none, []⟩,
    ⟨(some 92), .callm 152 [(.tmp 88), (.tmp 89), (.tmp 90), (.tmp 91)], none, []⟩,
    ⟨(some 13), .mv (.tmp 92), none, []⟩] [0, 2, 3, 8, 9, 13]
def m_slices_pdqsortOrdered_int_37 : Unit → MCode := fun _ => .region [] [⟨(some 93), .mv (.tmp 13), none, []⟩,
    ⟨(some 1), .mv (.tmp 93), none, []⟩] [0, 1, 2, 3, 8, 9]
def m_slices_pdqsortOrdered_int_38 : Unit → MCode := fun _ => .seq m_slices_pdqsortOrdered_int_37 (fun _ => .exit 1)
def m_slices_pdqsortOrdered_int_39 : Unit → MCode := fun _ => .seq m_slices_pdqsortOrdered_int_36 m_slices_pdqsortOrdered_int_38
def m_slices_pdqsortOrdered_int_40 : Unit → MCode := fun _ => .cond (.tmp 87) m_slices_pdqsortOrdered_int_39 (fun _ => .skip)
def m_slices_pdqsortOrdered_int_41 : Unit → MCode := fun _ => .seq m_slices_pdqsortOrdered_int_35 m_slices_pdqsortOrdered_int_40
def m_slices_pdqsortOrdered_int_42 : Unit → MCode := fun _ => .region [] [⟨(some 95), .mv (.tmp 0), none, []⟩,
    ⟨(some 96), .mv (.tmp 1), none, []⟩,
    ⟨(some 97), .mv (.tmp 2), none, []⟩,
    ⟨(some 98), .mv (.tmp 11), none, []⟩,
    ⟨(some 99), .callm 153 [(.tmp 95), (.tmp 96), (.tmp 97), (.tmp 98)], none, []⟩,
    ⟨(some 94), .mv (.tmp 99), none, []⟩,
    ⟨(some 100), .ext (.tmp 94) 0, none, []⟩,
    ⟨(some 101), .ext (.tmp 94) 1, none, []⟩,
    ⟨(some 14), .mv (.tmp 100), none, []⟩,
    ⟨(some 15), .mv (.tmp 101), none, []⟩] [0, 1, 2, 3, 10, 14, 15]
def m_slices_pdqsortOrdered_int_43 : Unit → MCode := fun _ => .region [] [⟨(some 102), .mv (.tmp 15), none, []⟩,
    ⟨(some 9), .mv (.tmp 102), none, []⟩] [0, 1, 2, 3, 9, 10, 14]
def m_slices_pdqsortOrdered_int_44 : Unit → MCode := fun _ => .region [] [⟨(some 103), .mv (.tmp 14), none, []⟩,
    ⟨(some 104), .mv (.tmp 1), none, []⟩,
    ⟨(some 105), .bin .sub (.tmp 103) (.tmp 104), none, []⟩,
    ⟨(some 106), .mv (.tmp 2), none, []⟩,
    ⟨(some 107), .mv (.tmp 14), none, []⟩,
    ⟨(some 108), .bin .sub (.tmp 106) (.tmp 107), none, []⟩,
    ⟨(some 16), .mv (.tmp 105), none, []⟩,
    ⟨(some 17), .mv (.tmp 108), none, []⟩] [0, 1, 2, 3, 9, 10, 14, 16, 17]
def m_slices_pdqsortOrdered_int_45 : Unit → MCode := fun _ => .region [] [⟨(some 109), .mv (.tmp 10), none, []⟩,
    ⟨(some 110), .bin .quo (.tmp 109) (.const (.int .i64 8)), none, []⟩,
    ⟨(some 18), .mv (.tmp 110), none, []⟩] [0, 1, 2, 3, 9, 14, 16, 17, 18]
def m_slices_pdqsortOrdered_int_46 : Unit → MCode := fun _ => .region [] [⟨(some 111), .mv (.tmp 16), none, []⟩,
    ⟨(some 112), .mv (.tmp 17), none, []⟩,
    ⟨(some 113), .bin .lss (.tmp 111) (.tmp 112), none, []⟩] [0, 1, 2, 3, 9, 14, 16, 17, 18, 113]
def m_slices_pdqsortOrdered_int_47 : Unit → MCode := fun _ => .region [] [⟨(some 114), .mv (.tmp 16), none, []⟩,
    ⟨(some 115), .mv (.tmp 18), none, []⟩,
    ⟨(some 116), .bin .geq (.tmp 114) (.tmp 115), none, []⟩,
    ⟨(some 8), .mv (.tmp 116), none, []⟩] [0, 1, 2, 3, 8, 9, 14]
def m_slices_pdqsortOrdered_int_48 : Unit → MCode := fun _ => .region [] [⟨(some 117), .mv (.tmp 0), none, []⟩,
    ⟨(some 118), .mv (.tmp 1), none, []⟩,
    ⟨(some 119), .mv (.tmp 14), none, []⟩,
    ⟨(some 120), .mv (.tmp 3), none, []⟩,
    ⟨(some 121), .callm 139 [(.tmp 117), (.tmp 118), (.tmp 119), (.tmp 120)], none, []⟩] [0, 2, 3, 8, 9, 14]
def m_slices_pdqsortOrdered_int_49 : Unit → MCode := fun _ => .region [] [⟨(some 122), .mv (.tmp 14), none, []⟩,
    ⟨(some 123), .bin .add (.tmp 122) (.const (.int .i64 1)), none, []⟩,
    ⟨(some 1), .mv (.tmp 123), none, []⟩] [0, 1, 2, 3, 8, 9]
def m_slices_pdqsortOrdered_int_50 : Unit → MCode := fun _ => .seq m_slices_pdqsortOrdered_int_48 m_slices_pdqsortOrdered_int_49
def m_slices_pdqsortOrdered_int_51 : Unit → MCode := fun _ => .seq m_slices_pdqsortOrdered_int_47 m_slices_pdqsortOrdered_int_50
def m_slices_pdqsortOrdered_int_52 : Unit → MCode := fun _ => .region [] [⟨(some 124), .mv (.tmp 17), none, []⟩,
    ⟨(some 125), .mv (.tmp 18), none, []⟩,
    ⟨(some 126), .bin .geq (.tmp 124) (.tmp 125), none, []⟩,
    ⟨(some 8), .mv (.tmp 126), none, []⟩] [0, 1, 2, 3, 8, 9, 14]
def m_slices_pdqsortOrdered_int_53 : Unit → MCode := fun _ => .region [] [⟨(some 127), .mv (.tmp 0), none, []⟩,
    ⟨(some 128), .mv (.tmp 14), none, []⟩,
    ⟨(some 129), .bin .add (.tmp 128) (.const (.int .i64 1)), none, []⟩,
    ⟨(some 130), .mv (.tmp 2), none, []⟩,
    ⟨(some 131), .mv (.tmp 3), none, []⟩,
    ⟨(some 132), .callm 139 [(.tmp 127), (.tmp 129), (.tmp 130), (.tmp 131)], none, []⟩] [0, 1, 3, 8, 9, 14]
def m_slices_pdqsortOrdered_int_54 : Unit → MCode := fun _ => .region [] [⟨(some 133), .mv (.tmp 14), none, []⟩,
    ⟨(some 2), .mv (.tmp 133), none, []⟩] [0, 1, 2, 3, 8, 9]
def m_slices_pdqsortOrdered_int_55 : Unit → MCode := fun _ => .seq m_slices_pdqsortOrdered_int_53 m_slices_pdqsortOrdered_int_54
def m_slices_pdqsortOrdered_int_56 : Unit → MCode := fun _ => .seq m_slices_pdqsortOrdered_int_52 m_slices_pdqsortOrdered_int_55
def m_slices_pdqsortOrdered_int_57 : Unit → MCode := fun _ => .cond (.tmp 113) m_slices_pdqsortOrdered_int_51 m_slices_pdqsortOrdered_int_56
def m_slices_pdqsortOrdered_int_58 : Unit → MCode := fun _ => .seq m_slices_pdqsortOrdered_int_46 m_slices_pdqsortOrdered_int_57
def m_slices_pdqsortOrdered_int_59 : Unit → MCode := fun _ => .seq m_slices_pdqsortOrdered_int_45 m_slices_pdqsortOrdered_int_58
def m_slices_pdqsortOrdered_int_60 : Unit → MCode := fun _ => .seq m_slices_pdqsortOrdered_int_44 m_slices_pdqsortOrdered_int_59
def m_slices_pdqsortOrdered_int_61 : Unit → MCode := fun _ => .seq m_slices_pdqsortOrdered_int_43 m_slices_pdqsortOrdered_int_60
def m_slices_pdqsortOrdered_int_62 : Unit → MCode := fun _ => .seq m_slices_pdqsortOrdered_int_42 m_slices_pdqsortOrdered_int_61
def m_slices_pdqsortOrdered_int_63 : Unit → MCode := fun _ => .seq m_slices_pdqsortOrdered_int_41 m_slices_pdqsortOrdered_int_62
def m_slices_pdqsortOrdered_int_64 : Unit → MCode := fun _ => .seq m_slices_pdqsortOrdered_int_34 m_slices_pdqsortOrdered_int_63
def m_slices_pdqsortOrdered_int_65 : Unit → MCode := fun _ => .seq m_slices_pdqsortOrdered_int_28 m_slices_pdqsortOrdered_int_64
def m_slices_pdqsortOrdered_int_66 : Unit → MCode := fun _ => .seq m_slices_pdqsortOrdered_int_20 m_slices_pdqsortOrdered_int_65
def m_slices_pdqsortOrdered_int_67 : Unit → MCode := fun _ => .seq m_slices_pdqsortOrdered_int_19 m_slices_pdqsortOrdered_int_66
def m_slices_pdqsortOrdered_int_68 : Unit → MCode := fun _ => .seq m_slices_pdqsortOrdered_int_13 m_slices_pdqsortOrdered_int_67
def m_slices_pdqsortOrdered_int_69 : Unit → MCode := fun _ => .seq m_slices_pdqsortOrdered_int_8 m_slices_pdqsortOrdered_int_68
def m_slices_pdqsortOrdered_int_70 : Unit → MCode := fun _ => .seq m_slices_pdqsortOrdered_int_3 m_slices_pdqsortOrdered_int_69
def m_slices_pdqsortOrdered_int_71 : Unit → MCode := fun _ => .block 1 m_slices_pdqsortOrdered_int_70
def m_slices_pdqsortOrdered_int_72 : Unit → MCode := fun _ => .loop m_slices_pdqsortOrdered_int_71
def m_slices_pdqsortOrdered_int_73 : Unit → MCode := fun _ => .block 0 m_slices_pdqsortOrdered_int_72
def m_slices_pdqsortOrdered_int_74 : Unit → MCode := fun _ => .seq m_slices_pdqsortOrdered_int_2 m_slices_pdqsortOrdered_int_73
def m_slices_pdqsortOrdered_int_75 : Unit → MCode := fun _ => .seq m_slices_pdqsortOrdered_int_1 m_slices_pdqsortOrdered_int_74
def m_slices_pdqsortOrdered_int : MCode := m_slices_pdqsortOrdered_int_75 ()
def h_slices_pdqsortOrdered_int : Hints := [(0, [0, 1, 2, 3, 8], [], [], []), (1, [0, 1, 2, 3, 8, 9], [], [], []), (2, [0, 1, 2, 3, 8, 9, 10], [], [], []), (3, [0, 1, 2, 3, 8, 9, 10, 23], [], [], []), (4, [], [], [], []), (5, [0, 1, 2, 3, 8, 9, 10, 29], [], [], []), (6, [], [], [], []), (7, [0, 1, 2, 3, 8, 9, 10, 35], [], [], []), (8, [0, 1, 2, 3, 8, 9, 10], [], [], []), (9, [0, 1, 2, 3, 8, 9, 10], [], [], []), (10, [0, 1, 2, 3, 8, 9, 10, 11, 12], [], [], []), (11, [0, 1, 2, 3, 8, 9, 10, 11, 12, 50], [], [], []), (12, [0, 1, 2, 3, 8, 9, 10, 11], [], [], []), (13, [0, 1, 2, 3, 8, 9, 10, 11], [], [], []), (14, [0, 1, 2, 3, 8, 9, 10, 11, 12], [], [], []), (15, [0, 1, 2, 3, 8, 9, 10, 11, 68], [], [], []), (16, [0, 1, 2, 3, 8, 9, 10, 11, 72], [], [], []), (17, [0, 1, 2, 3, 8, 9, 10, 11, 87], [[], [], [], [], [], [], [], [], [], [], [3, 4, 5, 6, 7], [3, 4, 5, 6, 7]], [], []), (18, [0, 2, 3, 8, 9, 13], [], [], []), (19, [0, 1, 2, 3, 8, 9], [], [], []), (20, [0, 1, 2, 3, 10, 14, 15], [], [], []), (21, [0, 1, 2, 3, 9, 10, 14], [], [], []), (22, [0, 1, 2, 3, 9, 10, 14, 16, 17], [], [], []), (23, [0, 1, 2, 3, 9, 14, 16, 17, 18], [], [], []), (24, [0, 1, 2, 3, 9, 14, 16, 17, 18, 113], [], [], []), (25, [0, 1, 2, 3, 8, 9, 14], [], [], []), (26, [0, 2, 3, 8, 9, 14], [], [], []), (27, [0, 1, 2, 3, 8, 9], [], [], []), (28, [0, 1, 2, 3, 8, 9, 14], [], [], []), (29, [0, 1, 3, 8, 9, 14], [], [], []), (30, [0, 1, 2, 3, 8, 9], [], [], [])]
def r_slices_pdqsortOrdered_int : List RV := []
abbrev n_slices_pdqsortOrdered_int : Nat := 139
theorem k_slices_pdqsortOrdered_int : Known Pr mu n_slices_pdqsortOrdered_int m_slices_pdqsortOrdered_int r_slices_pdqsortOrdered_int Go.Proofs.Try.f139.ntmps := .of h_slices_pdqsortOrdered_int hm Go.Proofs.Try.func139 (by kernel_rfl) (by kernel_rfl) (by kernel_rfl) (by kernel_rfl)
def m_math_bits_Len_1 : Unit → MCode := fun _ => .region [] [⟨(some 2), .mv (.const (.int .i64 0)), none, []⟩] [0]
def m_math_bits_Len_2 : Unit → MCode := fun _ => .region [] [⟨(some 3), .mv (.tmp 0), none, []⟩,
    ⟨(some 4), .conv .u32 (.tmp 3), none, []⟩,
    ⟨(some 5), .call 154 [(.tmp 4)], none, []⟩,
    ⟨(some 2), .mv (.tmp 5), none, []⟩] [2]
def m_math_bits_Len_3 : Unit → MCode := fun _ => .seq m_math_bits_Len_2 (fun _ => .ret)
def m_math_bits_Len_4 : Unit → MCode := fun _ => .cond (.const (.bool false)) m_math_bits_Len_3 (fun _ => .skip)
def m_math_bits_Len_5 : Unit → MCode := fun _ => .region [] [⟨(some 6), .mv (.tmp 0), none, []⟩,
    ⟨(some 7), .call 155 [(.tmp 6)], none, []⟩,
    ⟨(some 2), .mv (.tmp 7), none, []⟩] [2]
def m_math_bits_Len_6 : Unit → MCode := fun _ => .seq m_math_bits_Len_5 (fun _ => .ret)
def m_math_bits_Len_7 : Unit → MCode := fun _ => .seq m_math_bits_Len_4 m_math_bits_Len_6
def m_math_bits_Len_8 : Unit → MCode := fun _ => .seq m_math_bits_Len_1 m_math_bits_Len_7
def m_math_bits_Len : MCode := m_math_bits_Len_8 ()
def h_math_bits_Len : Hints := [(0, [0], [], [], []), (1, [2], [], [], []), (2, [2], [], [], [])]
def r_math_bits_Len : List RV := [.t 2]
abbrev n_math_bits_Len : Nat := 140
theorem k_math_bits_Len : Known Pr mu n_math_bits_Len m_math_bits_Len r_math_bits_Len Go.Proofs.Try.f140.ntmps := .of h_math_bits_Len hm Go.Proofs.Try.func140 (by kernel_rfl) (by kernel_rfl) (by kernel_rfl) (by kernel_rfl)
def m_slices_Equal_intint_1 : Unit → MCode := fun _ => .region [] [⟨(some 4), .mv (.const (.bool false)), none, []⟩] [0, 1]
def m_slices_Equal_intint_2 : Unit → MCode := fun _ => .region [] [⟨(some 6), .mv (.tmp 0), none, []⟩,
    ⟨(some 7), .len false (.tmp 6), none, []⟩,
    ⟨(some 8), .mv (.tmp 1), none, []⟩,
    ⟨(some 9), .len false (.tmp 8), none, []⟩,
    ⟨(some 10), .bin .neq (.tmp 7) (.tmp 9), none, []⟩] [0, 1, 10]
def m_slices_Equal_intint_3 : Unit → MCode := fun _ => .region [] [⟨(some 4), .mv (.const (.bool false)), none, []⟩] [4]
def m_slices_Equal_intint_4 : Unit → MCode := fun _ => .seq m_slices_Equal_intint_3 (fun _ => .ret)
def m_slices_Equal_intint_5 : Unit → MCode := fun _ => .cond (.tmp 10) m_slices_Equal_intint_4 (fun _ => .skip)
def m_slices_Equal_intint_6 : Unit → MCode := fun _ => .seq m_slices_Equal_intint_2 m_slices_Equal_intint_5
def m_slices_Equal_intint_7 : Unit → MCode := fun _ => .region [] [⟨(some 11), .mv (.tmp 0), none, []⟩,
    ⟨(some 12), .len false (.tmp 11), none, []⟩,
    ⟨(some 13), .mv (.const (.int .i64 0)), none, []⟩] [0, 1, 12, 13]
def m_slices_Equal_intint_8 : Unit → MCode := fun _ => .region [] [⟨(some 14), .bin .lss (.tmp 13) (.tmp 12), none, []⟩] [0, 1, 12, 13, 14]
def m_slices_Equal_intint_9 : Unit → MCode := fun _ => .cond (.tmp 14) (fun _ => .skip) (fun _ => .exit 0)
def m_slices_Equal_intint_10 : Unit → MCode := fun _ => .region [] [⟨(some 15), .mv (.tmp 13), none, []⟩,
    ⟨(some 5), .mv (.tmp 15), none, []⟩] [0, 1, 5, 12, 13]
def m_slices_Equal_intint_11 : Unit → MCode := fun _ => .region [] [⟨(some 16), .mv (.tmp 0), none, []⟩,
    ⟨(some 17), .mv (.tmp 5), none, []⟩,
    ⟨(some 18), .ia (.tmp 16) (.tmp 17) 1, none, []⟩,
    ⟨(some 19), .ld (.tmp 18) 1 false, none, []⟩,
    ⟨(some 20), .mv (.tmp 1), none, []⟩,
    ⟨(some 21), .mv (.tmp 5), none, []⟩,
    ⟨(some 22), .ia (.tmp 20) (.tmp 21) 1, none, [0, 1, 2, 3]⟩,
    ⟨(some 23), .ld (.tmp 22) 1 false, none, [0, 1, 2, 3]⟩,
    ⟨(some 24), .bin .neq (.tmp 19) (.tmp 23), none, []⟩] [0, 1, 12, 13, 24]
def m_slices_Equal_intint_12 : Unit → MCode := fun _ => .region [] [⟨(some 4), .mv (.const (.bool false)), none, []⟩] [4]
def m_slices_Equal_intint_13 : Unit → MCode := fun _ => .seq m_slices_Equal_intint_12 (fun _ => .ret)
def m_slices_Equal_intint_14 : Unit → MCode := fun _ => .cond (.tmp 24) m_slices_Equal_intint_13 (fun _ => .skip)
def m_slices_Equal_intint_15 : Unit → MCode := fun _ => .seq m_slices_Equal_intint_11 m_slices_Equal_intint_14
def m_slices_Equal_intint_16 : Unit → MCode := fun _ => .seq m_slices_Equal_intint_10 m_slices_Equal_intint_15
def m_slices_Equal_intint_17 : Unit → MCode := fun _ => .block 1 m_slices_Equal_intint_16
def m_slices_Equal_intint_18 : Unit → MCode := fun _ => .region [] [⟨(some 25), .bin .add (.tmp 13) (.const (.int .i64 1)), none, []⟩,
    ⟨(some 13), .mv (.tmp 25), none, []⟩] [0, 1, 12, 13]
def m_slices_Equal_intint_19 : Unit → MCode := fun _ => .seq m_slices_Equal_intint_17 m_slices_Equal_intint_18
def m_slices_Equal_intint_20 : Unit → MCode := fun _ => .seq m_slices_Equal_intint_9 m_slices_Equal_intint_19
def m_slices_Equal_intint_21 : Unit → MCode := fun _ => .seq m_slices_Equal_intint_8 m_slices_Equal_intint_20
def m_slices_Equal_intint_22 : Unit → MCode := fun _ => .loop m_slices_Equal_intint_21
def m_slices_Equal_intint_23 : Unit → MCode := fun _ => .block 0 m_slices_Equal_intint_22
def m_slices_Equal_intint_24 : Unit → MCode := fun _ => .seq m_slices_Equal_intint_7 m_slices_Equal_intint_23
def m_slices_Equal_intint_25 : Unit → MCode := fun _ => .region [] [⟨(some 4), .mv (.const (.bool true)), none, []⟩] [4]
def m_slices_Equal_intint_26 : Unit → MCode := fun _ => .seq m_slices_Equal_intint_25 (fun _ => .ret)
def m_slices_Equal_intint_27 : Unit → MCode := fun _ => .seq m_slices_Equal_intint_24 m_slices_Equal_intint_26
def m_slices_Equal_intint_28 : Unit → MCode := fun _ => .seq m_slices_Equal_intint_6 m_slices_Equal_intint_27
def m_slices_Equal_intint_29 : Unit → MCode := fun _ => .seq m_slices_Equal_intint_1 m_slices_Equal_intint_28
def m_slices_Equal_intint : MCode := m_slices_Equal_intint_29 ()
def h_slices_Equal_intint : Hints := [(0, [0, 1], [], [], []), (1, [0, 1, 10], [], [], []), (2, [4], [], [], []), (3, [0, 1, 12, 13], [], [], []), (4, [0, 1, 12, 13, 14], [], [], []), (5, [0, 1, 5, 12, 13], [], [], []), (6, [0, 1, 12, 13, 24], [[], [], [], [], [], [], [0, 1, 2, 3], [0, 1, 2, 3]], [], []), (7, [4], [], [], []), (8, [0, 1, 12, 13], [], [], []), (9, [4], [], [], [])]
def r_slices_Equal_intint : List RV := [.t 4]
abbrev n_slices_Equal_intint : Nat := 142
theorem k_slices_Equal_intint : Known Pr mu n_slices_Equal_intint m_slices_Equal_intint r_slices_Equal_intint Go.Proofs.Try.f142.ntmps := .of h_slices_Equal_intint hm Go.Proofs.Try.func142 (by kernel_rfl) (by kernel_rfl) (by kernel_rfl) (by kernel_rfl)
def m_laws_toOp_1 : Unit → MCode := fun _ => .region [] [⟨(some 1), .box (.tmp 0), none, []⟩,
    ⟨(some 2), .alloc [.int .i64 0, .int .i64 0, .int .i64 0, .int .i64 0, .int .i64 0, .int .i64 0], none, []⟩] [1, 2]
def m_laws_toOp_2 : Unit → MCode := fun _ => .region [] [⟨(some 3), .alloc [.int .i64 0, .int .i64 0, .int .i64 0, .int .i64 0, .int .i64 0, .int .i64 0], none, []⟩] [1, 2, 3]
def m_laws_toOp_3 : Unit → MCode := fun _ => .region [] [⟨(some 4), .fa (.tmp 1) 0, none, []⟩,
    ⟨(some 5), .ld (.tmp 4) 1 false, none, []⟩,
    ⟨(some 6), .fa (.tmp 3) 0, none, []⟩,
    ⟨none, .sto (.tmp 6) (.tmp 5) 1, none, []⟩] [1, 2, 3]
def m_laws_toOp_4 : Unit → MCode := fun _ => .region [] [⟨(some 7), .fa (.tmp 1) 1, none, []⟩,
    ⟨(some 8), .ld (.tmp 7) 1 false, none, []⟩,
    ⟨(some 9), .fa (.tmp 3) 1, none, []⟩,
    ⟨none, .sto (.tmp 9) (.tmp 8) 1, none, []⟩] [1, 2, 3]
def m_laws_toOp_5 : Unit → MCode := fun _ => .region [] [⟨(some 10), .fa (.tmp 1) 2, none, []⟩,
    ⟨(some 11), .ld (.tmp 10) 1 false, none, []⟩,
    ⟨(some 12), .fa (.tmp 3) 2, none, []⟩,
    ⟨none, .sto (.tmp 12) (.tmp 11) 1, none, []⟩] [1, 2, 3]
def m_laws_toOp_6 : Unit → MCode := fun _ => .region [] [⟨(some 13), .fa (.tmp 1) 3, none, []⟩,
    ⟨(some 14), .ld (.tmp 13) 1 false, none, []⟩,
    ⟨(some 15), .fa (.tmp 3) 3, none, []⟩,
    ⟨none, .sto (.tmp 15) (.tmp 14) 1, none, []⟩] [1, 2, 3]
def m_laws_toOp_7 : Unit → MCode := fun _ => .region [] [⟨(some 16), .fa (.tmp 1) 4, none, []⟩,
    ⟨(some 17), .ld (.tmp 16) 1 false, none, []⟩,
    ⟨(some 18), .fa (.tmp 3) 4, none, []⟩,
    ⟨none, .sto (.tmp 18) (.tmp 17) 1, none, []⟩] [1, 2, 3]
def m_laws_toOp_8 : Unit → MCode := fun _ => .region [] [⟨(some 19), .fa (.tmp 1) 5, none, []⟩,
    ⟨(some 20), .ld (.tmp 19) 1 false, none, []⟩,
    ⟨(some 21), .fa (.tmp 3) 5, none, []⟩,
    ⟨none, .sto (.tmp 21) (.tmp 20) 1, none, []⟩] [2, 3]
def m_laws_toOp_9 : Unit → MCode := fun _ => .region [] [⟨(some 22), .ld (.tmp 3) 6 true, none, []⟩,
    ⟨none, .sto (.tmp 2) (.tmp 22) 6, none, []⟩] [2]
def m_laws_toOp_10 : Unit → MCode := fun _ => .seq m_laws_toOp_9 (fun _ => .ret)
def m_laws_toOp_11 : Unit → MCode := fun _ => .seq m_laws_toOp_8 m_laws_toOp_10
def m_laws_toOp_12 : Unit → MCode := fun _ => .seq m_laws_toOp_7 m_laws_toOp_11
def m_laws_toOp_13 : Unit → MCode := fun _ => .seq m_laws_toOp_6 m_laws_toOp_12
def m_laws_toOp_14 : Unit → MCode := fun _ => .seq m_laws_toOp_5 m_laws_toOp_13
def m_laws_toOp_15 : Unit → MCode := fun _ => .seq m_laws_toOp_4 m_laws_toOp_14
def m_laws_toOp_16 : Unit → MCode := fun _ => .seq m_laws_toOp_3 m_laws_toOp_15
def m_laws_toOp_17 : Unit → MCode := fun _ => .seq m_laws_toOp_2 m_laws_toOp_16
def m_laws_toOp_18 : Unit → MCode := fun _ => .seq m_laws_toOp_1 m_laws_toOp_17
def m_laws_toOp : MCode := m_laws_toOp_18 ()
def h_laws_toOp : Hints := [(0, [1, 2], [], [], []), (1, [1, 2, 3], [], [], []), (2, [1, 2, 3], [], [], []), (3, [1, 2, 3], [], [], []), (4, [1, 2, 3], [], [], []), (5, [1, 2, 3], [], [], []), (6, [1, 2, 3], [], [], []), (7, [2, 3], [], [], []), (8, [2], [], [], [])]
def r_laws_toOp : List RV := [.c 2 6 true]
abbrev n_laws_toOp : Nat := 143
theorem k_laws_toOp : Known Pr mu n_laws_toOp m_laws_toOp r_laws_toOp Go.Proofs.Try.f143.ntmps := .of h_laws_toOp hm Go.Proofs.Try.func143 (by kernel_rfl) (by kernel_rfl) (by kernel_rfl) (by kernel_rfl)
def m_laws_eqOp_1 : Unit → MCode := fun _ => .region [] [⟨(some 2), .box (.tmp 0), none, []⟩,
    ⟨(some 3), .box (.tmp 1), none, []⟩,
    ⟨(some 4), .mv (.const (.bool false)), none, []⟩] [2, 3]
def m_laws_eqOp_2 : Unit → MCode := fun _ => .region [] [⟨(some 5), .fa (.tmp 2) 0, none, []⟩,
    ⟨(some 6), .ld (.tmp 5) 1 false, none, []⟩,
    ⟨(some 7), .fa (.tmp 3) 0, none, []⟩,
    ⟨(some 8), .ld (.tmp 7) 1 false, none, []⟩,
    ⟨(some 9), .bin .neq (.tmp 6) (.tmp 8), none, []⟩] [2, 3, 9]
def m_laws_eqOp_3 : Unit → MCode := fun _ => .region [] [⟨(some 4), .mv (.const (.bool false)), none, []⟩] [4]
def m_laws_eqOp_4 : Unit → MCode := fun _ => .seq m_laws_eqOp_3 (fun _ => .ret)
def m_laws_eqOp_5 : Unit → MCode := fun _ => .cond (.tmp 9) m_laws_eqOp_4 (fun _ => .skip)
def m_laws_eqOp_6 : Unit → MCode := fun _ => .seq m_laws_eqOp_2 m_laws_eqOp_5
def m_laws_eqOp_7 : Unit → MCode := fun _ => .region [] [⟨(some 10), .fa (.tmp 2) 1, none, []⟩,
    ⟨(some 11), .ld (.tmp 10) 1 false, none, []⟩,
    ⟨(some 12), .fa (.tmp 3) 1, none, []⟩,
    ⟨(some 13), .ld (.tmp 12) 1 false, none, []⟩,
    ⟨(some 14), .bin .neq (.tmp 11) (.tmp 13), none, []⟩] [2, 3, 14]
def m_laws_eqOp_8 : Unit → MCode := fun _ => .region [] [⟨(some 4), .mv (.const (.bool false)), none, []⟩] [4]
def m_laws_eqOp_9 : Unit → MCode := fun _ => .seq m_laws_eqOp_8 (fun _ => .ret)
def m_laws_eqOp_10 : Unit → MCode := fun _ => .cond (.tmp 14) m_laws_eqOp_9 (fun _ => .skip)
def m_laws_eqOp_11 : Unit → MCode := fun _ => .seq m_laws_eqOp_7 m_laws_eqOp_10
def m_laws_eqOp_12 : Unit → MCode := fun _ => .region [] [⟨(some 15), .fa (.tmp 2) 2, none, []⟩,
    ⟨(some 16), .ld (.tmp 15) 1 false, none, []⟩,
    ⟨(some 17), .fa (.tmp 3) 2, none, []⟩,
    ⟨(some 18), .ld (.tmp 17) 1 false, none, []⟩,
    ⟨(some 19), .bin .neq (.tmp 16) (.tmp 18), none, []⟩] [2, 3, 19]
def m_laws_eqOp_13 : Unit → MCode := fun _ => .region [] [⟨(some 4), .mv (.const (.bool false)), none, []⟩] [4]
def m_laws_eqOp_14 : Unit → MCode := fun _ => .seq m_laws_eqOp_13 (fun _ => .ret)
def m_laws_eqOp_15 : Unit → MCode := fun _ => .cond (.tmp 19) m_laws_eqOp_14 (fun _ => .skip)
def m_laws_eqOp_16 : Unit → MCode := fun _ => .seq m_laws_eqOp_12 m_laws_eqOp_15
def m_laws_eqOp_17 : Unit → MCode := fun _ => .region [] [⟨(some 20), .fa (.tmp 2) 3, none, []⟩,
    ⟨(some 21), .ld (.tmp 20) 1 false, none, []⟩,
    ⟨(some 22), .fa (.tmp 3) 3, none, []⟩,
    ⟨(some 23), .ld (.tmp 22) 1 false, none, []⟩,
    ⟨(some 24), .bin .neq (.tmp 21) (.tmp 23), none, []⟩] [2, 3, 24]
def m_laws_eqOp_18 : Unit → MCode := fun _ => .region [] [⟨(some 4), .mv (.const (.bool false)), none, []⟩] [4]
def m_laws_eqOp_19 : Unit → MCode := fun _ => .seq m_laws_eqOp_18 (fun _ => .ret)
def m_laws_eqOp_20 : Unit → MCode := fun _ => .cond (.tmp 24) m_laws_eqOp_19 (fun _ => .skip)
def m_laws_eqOp_21 : Unit → MCode := fun _ => .seq m_laws_eqOp_17 m_laws_eqOp_20
def m_laws_eqOp_22 : Unit → MCode := fun _ => .region [] [⟨(some 25), .fa (.tmp 2) 4, none, []⟩,
    ⟨(some 26), .ld (.tmp 25) 1 false, none, []⟩,
    ⟨(some 27), .fa (.tmp 3) 4, none, []⟩,
    ⟨(some 28), .ld (.tmp 27) 1 false, none, []⟩,
    ⟨(some 29), .bin .neq (.tmp 26) (.tmp 28), none, []⟩] [2, 3, 29]
def m_laws_eqOp_23 : Unit → MCode := fun _ => .region [] [⟨(some 4), .mv (.const (.bool false)), none, []⟩] [4]
def m_laws_eqOp_24 : Unit → MCode := fun _ => .seq m_laws_eqOp_23 (fun _ => .ret)
def m_laws_eqOp_25 : Unit → MCode := fun _ => .cond (.tmp 29) m_laws_eqOp_24 (fun _ => .skip)
def m_laws_eqOp_26 : Unit → MCode := fun _ => .seq m_laws_eqOp_22 m_laws_eqOp_25
def m_laws_eqOp_27 : Unit → MCode := fun _ => .region [] [⟨(some 30), .fa (.tmp 2) 5, none, []⟩,
    ⟨(some 31), .ld (.tmp 30) 1 false, none, []⟩,
    ⟨(some 32), .fa (.tmp 3) 5, none, []⟩,
    ⟨(some 33), .ld (.tmp 32) 1 false, none, []⟩,
    ⟨(some 34), .bin .neq (.tmp 31) (.tmp 33), none, []⟩] [34]
def m_laws_eqOp_28 : Unit → MCode := fun _ => .region [] [⟨(some 4), .mv (.const (.bool false)), none, []⟩] [4]
def m_laws_eqOp_29 : Unit → MCode := fun _ => .seq m_laws_eqOp_28 (fun _ => .ret)
def m_laws_eqOp_30 : Unit → MCode := fun _ => .cond (.tmp 34) m_laws_eqOp_29 (fun _ => .skip)
def m_laws_eqOp_31 : Unit → MCode := fun _ => .seq m_laws_eqOp_27 m_laws_eqOp_30
def m_laws_eqOp_32 : Unit → MCode := fun _ => .region [] [⟨(some 4), .mv (.const (.bool true)), none, []⟩] [4]
def m_laws_eqOp_33 : Unit → MCode := fun _ => .seq m_laws_eqOp_32 (fun _ => .ret)
def m_laws_eqOp_34 : Unit → MCode := fun _ => .seq m_laws_eqOp_31 m_laws_eqOp_33
def m_laws_eqOp_35 : Unit → MCode := fun _ => .seq m_laws_eqOp_26 m_laws_eqOp_34
def m_laws_eqOp_36 : Unit → MCode := fun _ => .seq m_laws_eqOp_21 m_laws_eqOp_35
def m_laws_eqOp_37 : Unit → MCode := fun _ => .seq m_laws_eqOp_16 m_laws_eqOp_36
def m_laws_eqOp_38 : Unit → MCode := fun _ => .seq m_laws_eqOp_11 m_laws_eqOp_37
def m_laws_eqOp_39 : Unit → MCode := fun _ => .seq m_laws_eqOp_6 m_laws_eqOp_38
def m_laws_eqOp_40 : Unit → MCode := fun _ => .seq m_laws_eqOp_1 m_laws_eqOp_39
def m_laws_eqOp : MCode := m_laws_eqOp_40 ()
def h_laws_eqOp : Hints := [(0, [2, 3], [], [], []), (1, [2, 3, 9], [], [], []), (2, [4], [], [], []), (3, [2, 3, 14], [], [], []), (4, [4], [], [], []), (5, [2, 3, 19], [], [], []), (6, [4], [], [], []), (7, [2, 3, 24], [], [], []), (8, [4], [], [], []), (9, [2, 3, 29], [], [], []), (10, [4], [], [], []), (11, [34], [], [], []), (12, [4], [], [], []), (13, [4], [], [], [])]
def r_laws_eqOp : List RV := [.t 4]
abbrev n_laws_eqOp : Nat := 144
theorem k_laws_eqOp : Known Pr mu n_laws_eqOp m_laws_eqOp r_laws_eqOp Go.Proofs.Try.f144.ntmps := .of h_laws_eqOp hm Go.Proofs.Try.func144 (by kernel_rfl) (by kernel_rfl) (by kernel_rfl) (by kernel_rfl)
def m_slices_insertionSortOrdered_int_1 : Unit → MCode := fun _ => .region [] [⟨(some 8), .mv (.tmp 1), none, []⟩,
    ⟨(some 9), .bin .add (.tmp 8) (.const (.int .i64 1)), none, []⟩,
    ⟨(some 6), .mv (.tmp 9), none, []⟩] [0, 1, 2, 6]
def m_slices_insertionSortOrdered_int_2 : Unit → MCode := fun _ => .region [] [⟨(some 10), .mv (.tmp 6), none, []⟩,
    ⟨(some 11), .mv (.tmp 2), none, []⟩,
    ⟨(some 12), .bin .lss (.tmp 10) (.tmp 11), none, []⟩] [0, 1, 2, 6, 12]
def m_slices_insertionSortOrdered_int_3 : Unit → MCode := fun _ => .cond (.tmp 12) (fun _ => .skip) (fun _ => .exit 0)
def m_slices_insertionSortOrdered_int_4 : Unit → MCode := fun _ => .seq m_slices_insertionSortOrdered_int_2 m_slices_insertionSortOrdered_int_3
def m_slices_insertionSortOrdered_int_5 : Unit → MCode := fun _ => .region [] [⟨(some 15), .mv (.tmp 6), none, []⟩,
    ⟨(some 7), .mv (.tmp 15), none, []⟩] [0, 1, 2, 6, 7]
def m_slices_insertionSortOrdered_int_6 : Unit → MCode := fun _ => .region [] [⟨(some 16), .mv (.tmp 7), none, []⟩,
    ⟨(some 17), .mv (.tmp 1), none, []⟩,
    ⟨(some 18), .bin .gtr (.tmp 16) (.tmp 17), none, []⟩,
    ⟨(some 19), .mv (.tmp 18), none, []⟩,
    ⟨(some 20), .mv (.tmp 0), (some (19, true)), []⟩,
    ⟨(some 21), .mv (.tmp 7), (some (19, true)), []⟩,
    ⟨(some 22), .ia (.tmp 20) (.tmp 21) 1, (some (19, true)), []⟩,
    ⟨(some 23), .ld (.tmp 22) 1 false, (some (19, true)), []⟩,
    ⟨(some 24), .mv (.tmp 0), (some (19, true)), []⟩,
    ⟨(some 25), .mv (.tmp 7), (some (19, true)), []⟩,
    ⟨(some 26), .bin .sub (.tmp 25) (.const (.int .i64 1)), (some (19, true)), []⟩,
    ⟨(some 27), .ia (.tmp 24) (.tmp 26) 1, (some (19, true)), [4, 5, 6, 7]⟩,
    ⟨(some 28), .ld (.tmp 27) 1 false, (some (19, true)), [4, 5, 6, 7]⟩,
    ⟨(some 29), .call 151 [(.tmp 23), (.tmp 28)], (some (19, true)), []⟩,
    ⟨(some 30), .pick (.tmp 19) (.tmp 29) (.const (.bool false)), none, []⟩] [0, 1, 2, 6, 7, 30]
def m_slices_insertionSortOrdered_int_7 : Unit → MCode := fun _ => .cond (.tmp 30) (fun _ => .skip) (fun _ => .exit 2)
def m_slices_insertionSortOrdered_int_8 : Unit → MCode := fun _ => .seq m_slices_insertionSortOrdered_int_6 m_slices_insertionSortOrdered_int_7
def m_slices_insertionSortOrdered_int_9 : Unit → MCode := fun _ => .region [] [⟨(some 33), .mv (.tmp 0), none, []⟩,
    ⟨(some 34), .mv (.tmp 7), none, []⟩,
    ⟨(some 35), .mv (.tmp 0), none, []⟩,
    ⟨(some 36), .mv (.tmp 7), none, []⟩,
    ⟨(some 37), .bin .sub (.tmp 36) (.const (.int .i64 1)), none, []⟩,
    ⟨(some 38), .mv (.tmp 0), none, []⟩,
    ⟨(some 39), .mv (.tmp 7), none, []⟩,
    ⟨(some 40), .bin .sub (.tmp 39) (.const (.int .i64 1)), none, []⟩,
    ⟨(some 41), .ia (.tmp 38) (.tmp 40) 1, none, [0, 1, 2, 3, 4]⟩,
    ⟨(some 42), .ld (.tmp 41) 1 false, none, [0, 1, 2, 3, 4]⟩,
    ⟨(some 43), .mv (.tmp 0), none, []⟩,
    ⟨(some 44), .mv (.tmp 7), none, []⟩,
    ⟨(some 45), .ia (.tmp 43) (.tmp 44) 1, none, [0, 1, 2, 3, 4, 5, 6, 7, 8, 9]⟩,
    ⟨(some 46), .ld (.tmp 45) 1 false, none, [0, 1, 2, 3, 4, 5, 6, 7, 8, 9]⟩,
    ⟨(some 47), .ia (.tmp 33) (.tmp 34) 1, none, [2, 3, 4]⟩,
    ⟨none, .sto (.tmp 47) (.tmp 42) 1, none, []⟩,
    ⟨(some 48), .ia (.tmp 35) (.tmp 37) 1, none, []⟩,
    ⟨none, .sto (.tmp 48) (.tmp 46) 1, none, []⟩] [0, 1, 2, 6, 7]
def m_slices_insertionSortOrdered_int_10 : Unit → MCode := fun _ => .block 3 m_slices_insertionSortOrdered_int_9
def m_slices_insertionSortOrdered_int_11 : Unit → MCode := fun _ => .region [] [⟨(some 31), .mv (.tmp 7), none, []⟩,
    ⟨(some 32), .bin .sub (.tmp 31) (.const (.int .i64 1)), none, []⟩,
    ⟨(some 7), .mv (.tmp 32), none, []⟩] [0, 1, 2, 6, 7]
def m_slices_insertionSortOrdered_int_12 : Unit → MCode := fun _ => .seq m_slices_insertionSortOrdered_int_10 m_slices_insertionSortOrdered_int_11
def m_slices_insertionSortOrdered_int_13 : Unit → MCode := fun _ => .seq m_slices_insertionSortOrdered_int_8 m_slices_insertionSortOrdered_int_12
def m_slices_insertionSortOrdered_int_14 : Unit → MCode := fun _ => .loop m_slices_insertionSortOrdered_int_13
def m_slices_insertionSortOrdered_int_15 : Unit → MCode := fun _ => .block 2 m_slices_insertionSortOrdered_int_14
def m_slices_insertionSortOrdered_int_16 : Unit → MCode := fun _ => .seq m_slices_insertionSortOrdered_int_5 m_slices_insertionSortOrdered_int_15
def m_slices_insertionSortOrdered_int_17 : Unit → MCode := fun _ => .block 1 m_slices_insertionSortOrdered_int_16
def m_slices_insertionSortOrdered_int_18 : Unit → MCode := fun _ => .region [] [⟨(some 13), .mv (.tmp 6), none, []⟩,
    ⟨(some 14), .bin .add (.tmp 13) (.const (.int .i64 1)), none, []⟩,
    ⟨(some 6), .mv (.tmp 14), none, []⟩] [0, 1, 2, 6]
def m_slices_insertionSortOrdered_int_19 : Unit → MCode := fun _ => .seq m_slices_insertionSortOrdered_int_17 m_slices_insertionSortOrdered_int_18
def m_slices_insertionSortOrdered_int_20 : Unit → MCode := fun _ => .seq m_slices_insertionSortOrdered_int_4 m_slices_insertionSortOrdered_int_19
def m_slices_insertionSortOrdered_int_21 : Unit → MCode := fun _ => .loop m_slices_insertionSortOrdered_int_20
def m_slices_insertionSortOrdered_int_22 : Unit → MCode := fun _ => .block 0 m_slices_insertionSortOrdered_int_21
def m_slices_insertionSortOrdered_int_23 : Unit → MCode := fun _ => .seq m_slices_insertionSortOrdered_int_1 m_slices_insertionSortOrdered_int_22
def m_slices_insertionSortOrdered_int : MCode := m_slices_insertionSortOrdered_int_23 ()
def h_slices_insertionSortOrdered_int : Hints := [(0, [0, 1, 2, 6], [], [], []), (1, [0, 1, 2, 6, 12], [], [], []), (3, [0, 1, 2, 6, 7], [], [], []), (4, [0, 1, 2, 6, 7, 30], [[], [], [], [], [], [], [], [], [], [], [], [4, 5, 6, 7], [4, 5, 6, 7]], [], []), (6, [0, 1, 2, 6, 7], [[], [], [], [], [], [], [], [], [0, 1, 2, 3, 4], [0, 1, 2, 3, 4], [], [], [0, 1, 2, 3, 4, 5, 6, 7, 8, 9], [0, 1, 2, 3, 4, 5, 6, 7, 8, 9], [2, 3, 4]], [], [2, 3, 4]), (5, [0, 1, 2, 6, 7], [], [], []), (2, [0, 1, 2, 6], [], [], [])]
def r_slices_insertionSortOrdered_int : List RV := []
abbrev n_slices_insertionSortOrdered_int : Nat := 145
theorem k_slices_insertionSortOrdered_int : Known Pr mu n_slices_insertionSortOrdered_int m_slices_insertionSortOrdered_int r_slices_insertionSortOrdered_int Go.Proofs.Try.f145.ntmps := .of h_slices_insertionSortOrdered_int hm Go.Proofs.Try.func145 (by kernel_rfl) (by kernel_rfl) (by kernel_rfl) (by kernel_rfl)
def m_cmp_Less_int_1 : Unit → MCode := fun _ => .region [] [⟨(some 4), .mv (.const (.bool false)), none, []⟩] [0, 1]
def m_cmp_Less_int_2 : Unit → MCode := fun _ => .region [] [⟨(some 5), .mv (.tmp 0), none, []⟩,
    ⟨(some 6), .call 161 [(.tmp 5)], none, []⟩,
    ⟨(some 7), .mv (.tmp 6), none, []⟩,
    ⟨(some 8), .mv (.tmp 1), (some (7, true)), []⟩,
    ⟨(some 9), .call 161 [(.tmp 8)], (some (7, true)), []⟩,
    ⟨(some 10), .not (.tmp 9), (some (7, true)), []⟩,
    ⟨(some 11), .pick (.tmp 7) (.tmp 10) (.const (.bool false)), none, []⟩,
    ⟨(some 12), .mv (.tmp 11), none, []⟩,
    ⟨(some 13), .mv (.tmp 0), (some (12, false)), []⟩,
    ⟨(some 14), .mv (.tmp 1), (some (12, false)), []⟩,
    ⟨(some 15), .bin .lss (.tmp 13) (.tmp 14), (some (12, false)), []⟩,
    ⟨(some 16), .pick (.tmp 12) (.const (.bool true)) (.tmp 15), none, []⟩,
    ⟨(some 4), .mv (.tmp 16), none, []⟩] [4]
def m_cmp_Less_int_3 : Unit → MCode := fun _ => .seq m_cmp_Less_int_2 (fun _ => .ret)
def m_cmp_Less_int_4 : Unit → MCode := fun _ => .seq m_cmp_Less_int_1 m_cmp_Less_int_3
def m_cmp_Less_int : MCode := m_cmp_Less_int_4 ()
def h_cmp_Less_int : Hints := [(0, [0, 1], [], [], []), (1, [4], [], [], [])]
def r_cmp_Less_int : List RV := [.t 4]
abbrev n_cmp_Less_int : Nat := 151
theorem k_cmp_Less_int : Known Pr mu n_cmp_Less_int m_cmp_Less_int r_cmp_Less_int Go.Proofs.Try.f151.ntmps := .of h_cmp_Less_int hm Go.Proofs.Try.func151 (by kernel_rfl) (by kernel_rfl) (by kernel_rfl) (by kernel_rfl)
def m_math_bits_Len64_1 : Unit → MCode := fun _ => .region [] [⟨(some 2), .mv (.const (.int .i64 0)), none, []⟩] [0, 2]
def m_math_bits_Len64_2 : Unit → MCode := fun _ => .region [] [⟨(some 3), .mv (.tmp 0), none, []⟩,
    ⟨(some 4), .bin .geq (.tmp 3) (.const (.int .u64 4294967296)), none, []⟩] [0, 2, 4]
def m_math_bits_Len64_3 : Unit → MCode := fun _ => .region [] [⟨(some 5), .mv (.tmp 0), none, []⟩,
    ⟨(some 6), .bin .shr (.tmp 5) (.const (.int .u64 32)), none, []⟩,
    ⟨(some 0), .mv (.tmp 6), none, []⟩] [0]
def m_math_bits_Len64_4 : Unit → MCode := fun _ => .region [] [⟨(some 2), .mv (.const (.int .i64 32)), none, []⟩] [0, 2]
def m_math_bits_Len64_5 : Unit → MCode := fun _ => .seq m_math_bits_Len64_3 m_math_bits_Len64_4
def m_math_bits_Len64_6 : Unit → MCode := fun _ => .cond (.tmp 4) m_math_bits_Len64_5 (fun _ => .skip)
def m_math_bits_Len64_7 : Unit → MCode := fun _ => .seq m_math_bits_Len64_2 m_math_bits_Len64_6
def m_math_bits_Len64_8 : Unit → MCode := fun _ => .region [] [⟨(some 7), .mv (.tmp 0), none, []⟩,
    ⟨(some 8), .bin .geq (.tmp 7) (.const (.int .u64 65536)), none, []⟩] [0, 2, 8]
def m_math_bits_Len64_9 : Unit → MCode := fun _ => .region [] [⟨(some 9), .mv (.tmp 0), none, []⟩,
    ⟨(some 10), .bin .shr (.tmp 9) (.const (.int .u64 16)), none, []⟩,
    ⟨(some 0), .mv (.tmp 10), none, []⟩] [0, 2]
def m_math_bits_Len64_10 : Unit → MCode := fun _ => .region [] [⟨(some 11), .mv (.tmp 2), none, []⟩,
    ⟨(some 12), .bin .add (.tmp 11) (.const (.int .i64 16)), none, []⟩,
    ⟨(some 2), .mv (.tmp 12), none, []⟩] [0, 2]
def m_math_bits_Len64_11 : Unit → MCode := fun _ => .seq m_math_bits_Len64_9 m_math_bits_Len64_10
def m_math_bits_Len64_12 : Unit → MCode := fun _ => .cond (.tmp 8) m_math_bits_Len64_11 (fun _ => .skip)
def m_math_bits_Len64_13 : Unit → MCode := fun _ => .seq m_math_bits_Len64_8 m_math_bits_Len64_12
def m_math_bits_Len64_14 : Unit → MCode := fun _ => .region [] [⟨(some 13), .mv (.tmp 0), none, []⟩,
    ⟨(some 14), .bin .geq (.tmp 13) (.const (.int .u64 256)), none, []⟩] [0, 2, 14]
def m_math_bits_Len64_15 : Unit → MCode := fun _ => .region [] [⟨(some 15), .mv (.tmp 0), none, []⟩,
    ⟨(some 16), .bin .shr (.tmp 15) (.const (.int .u64 8)), none, []⟩,
    ⟨(some 0), .mv (.tmp 16), none, []⟩] [0, 2]
def m_math_bits_Len64_16 : Unit → MCode := fun _ => .region [] [⟨(some 17), .mv (.tmp 2), none, []⟩,
    ⟨(some 18), .bin .add (.tmp 17) (.const (.int .i64 8)), none, []⟩,
    ⟨(some 2), .mv (.tmp 18), none, []⟩] [0, 2]
def m_math_bits_Len64_17 : Unit → MCode := fun _ => .seq m_math_bits_Len64_15 m_math_bits_Len64_16
def m_math_bits_Len64_18 : Unit → MCode := fun _ => .cond (.tmp 14) m_math_bits_Len64_17 (fun _ => .skip)
def m_math_bits_Len64_19 : Unit → MCode := fun _ => .seq m_math_bits_Len64_14 m_math_bits_Len64_18
def m_math_bits_Len64_20 : Unit → MCode := fun _ => .region [] [⟨(some 19), .mv (.tmp 2), none, []⟩,
    ⟨(some 20), .mv (.tmp 0), none, []⟩,
    ⟨(some 21), .conv .u8 (.tmp 20), none, []⟩,
    ⟨(some 22), .sidx (.const (.string ⟨#[0, 1, 2, 2, 3, 3, 3, 3, 4, 4, 4, 4, 4, 4, 4, 4, 5, 5, 5, 5, 5, 5, 5, 5, 5, 5, 5, 5, 5, 5, 5, 5, 6, 6, 6, 6, 6, 6, 6, 6, 6, 6, 6, 6, 6, 6, 6, 6, 6, 6, 6, 6, 6, 6, 6, 6, 6, 6, 6, 6, 6, 6, 6, 6, 7, 7, 7, 7, 7, 7, 7, 7, 7, 7, 7, 7, 7, 7, 7, 7, 7, 7, 7, 7, 7, 7, 7, 7, 7, 7, 7, 7, 7, 7, 7, 7, 7, 7, 7, 7, 7, 7, 7, 7, 7, 7, 7, 7, 7, 7, 7, 7, 7, 7, 7, 7, 7, 7, 7, 7, 7, 7, 7, 7, 7, 7, 7, 7, 8, 8, 8, 8, 8, 8, 8, 8, 8, 8, 8, 8, 8, 8, 8, 8, 8, 8, 8, 8, 8, 8, 8, 8, 8, 8, 8, 8, 8, 8, 8, 8, 8, 8, 8, 8, 8, 8, 8, 8, 8, 8, 8, 8, 8, 8, 8, 8, 8, 8, 8, 8, 8, 8, 8, 8, 8, 8, 8, 8, 8, 8, 8, 8, 8, 8, 8, 8, 8, 8, 8, 8, 8, 8, 8, 8, 8, 8, 8, 8, 8, 8, 8, 8, 8, 8, 8, 8, 8, 8, 8, 8, 8, 8, 8, 8, 8, 8, 8, 8, 8, 8, 8, 8, 8, 8, 8, 8, 8, 8, 8, 8, 8, 8, 8, 8, 8, 8, 8, 8, 8, 8, 8, 8, 8, 8, 8, 8]⟩)) (.tmp 21), none, []⟩,
    ⟨(some 23), .conv .i64 (.tmp 22), none, []⟩,
    ⟨(some 24), .bin .add (.tmp 19) (.tmp 23), none, []⟩,
    ⟨(some 2), .mv (.tmp 24), none, []⟩] [2]
def m_math_bits_Len64_21 : Unit → MCode := fun _ => .seq m_math_bits_Len64_20 (fun _ => .ret)
def m_math_bits_Len64_22 : Unit → MCode := fun _ => .seq m_math_bits_Len64_19 m_math_bits_Len64_21
def m_math_bits_Len64_23 : Unit → MCode := fun _ => .seq m_math_bits_Len64_13 m_math_bits_Len64_22
def m_math_bits_Len64_24 : Unit → MCode := fun _ => .seq m_math_bits_Len64_7 m_math_bits_Len64_23
def m_math_bits_Len64_25 : Unit → MCode := fun _ => .seq m_math_bits_Len64_1 m_math_bits_Len64_24
def m_math_bits_Len64 : MCode := m_math_bits_Len64_25 ()
def h_math_bits_Len64 : Hints := [(0, [0, 2], [], [], []), (1, [0, 2, 4], [], [], []), (2, [0], [], [], []), (3, [0, 2], [], [], []), (4, [0, 2, 8], [], [], []), (5, [0, 2], [], [], []), (6, [0, 2], [], [], []), (7, [0, 2, 14], [], [], []), (8, [0, 2], [], [], []), (9, [0, 2], [], [], []), (10, [2], [], [], [])]
def r_math_bits_Len64 : List RV := [.t 2]
abbrev n_math_bits_Len64 : Nat := 155
theorem k_math_bits_Len64 : Known Pr mu n_math_bits_Len64 m_math_bits_Len64 r_math_bits_Len64 Go.Proofs.Try.f155.ntmps := .of h_math_bits_Len64 hm Go.Proofs.Try.func155 (by kernel_rfl) (by kernel_rfl) (by kernel_rfl) (by kernel_rfl)
def m_cmp_isNaN_int_1 : Unit → MCode := fun _ => .region [] [⟨(some 2), .mv (.const (.bool false)), none, []⟩] [0]
def m_cmp_isNaN_int_2 : Unit → MCode := fun _ => .region [] [⟨(some 3), .mv (.tmp 0), none, []⟩,
    ⟨(some 4), .mv (.tmp 0), none, []⟩,
    ⟨(some 5), .bin .neq (.tmp 3) (.tmp 4), none, []⟩,
    ⟨(some 2), .mv (.tmp 5), none, []⟩] [2]
def m_cmp_isNaN_int_3 : Unit → MCode := fun _ => .seq m_cmp_isNaN_int_2 (fun _ => .ret)
def m_cmp_isNaN_int_4 : Unit → MCode := fun _ => .seq m_cmp_isNaN_int_1 m_cmp_isNaN_int_3
def m_cmp_isNaN_int : MCode := m_cmp_isNaN_int_4 ()
def h_cmp_isNaN_int : Hints := [(0, [0], [], [], []), (1, [2], [], [], [])]
def r_cmp_isNaN_int : List RV := [.t 2]
abbrev n_cmp_isNaN_int : Nat := 161
theorem k_cmp_isNaN_int : Known Pr mu n_cmp_isNaN_int m_cmp_isNaN_int r_cmp_isNaN_int Go.Proofs.Try.f161.ntmps := .of h_cmp_isNaN_int hm Go.Proofs.Try.func161 (by kernel_rfl) (by kernel_rfl) (by kernel_rfl) (by kernel_rfl)
end Go.V.T
