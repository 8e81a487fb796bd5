/- The short code of the functions that FnExactEqualServerStates reaches, held against the program. Conditions: none. -/
import Derived.Test.YtiamffhoiajgnaaV5
import Derived.Test.YtiamffhoiajgnaaProg
namespace Go.V.T
open Go Go.V
noncomputable abbrev Pr := Go.Proofs.Try.prog
def mu : Nat → Bool := fun n => Nat.beq n 32 || Nat.beq n 51 || Nat.beq n 59 || Nat.beq n 82 || Nat.beq n 98
theorem hm : Pr.follows .mixedOrders = true := by kernel_rfl
def m_laws_FnExactEqualServerStates_1 : Unit → MCode := fun _ => .region [] [⟨(some 2), .box (.tmp 0), none, []⟩,
    ⟨(some 3), .box (.tmp 1), none, []⟩,
    ⟨(some 4), .mv (.const (.bool false)), none, []⟩] [2, 3]
def m_laws_FnExactEqualServerStates_2 : Unit → MCode := fun _ => .region [] [⟨(some 5), .mv (.const (.int .i64 1048576)), none, []⟩] [2, 3, 5]
def m_laws_FnExactEqualServerStates_3 : Unit → MCode := fun _ => .region [] [⟨(some 10), .ld (.tmp 2) 12 true, none, []⟩,
    ⟨(some 11), .mv (.tmp 5), none, []⟩,
    ⟨(some 12), .call 63 [(.tmp 10), (.tmp 11)], none, []⟩,
    ⟨(some 5), .mv (.tmp 12), none, []⟩] [2, 3, 5]
def m_laws_FnExactEqualServerStates_4 : Unit → MCode := fun _ => .region [] [⟨(some 13), .mv (.tmp 5), none, []⟩,
    ⟨(some 14), .bin .lss (.tmp 13) (.const (.int .i64 0)), none, []⟩] [2, 3, 5, 14]
def m_laws_FnExactEqualServerStates_5 : Unit → MCode := fun _ => .region [] [⟨(some 4), .mv (.const (.bool true)), none, []⟩] [4]
def m_laws_FnExactEqualServerStates_6 : Unit → MCode := fun _ => .seq m_laws_FnExactEqualServerStates_5 (fun _ => .ret)
def m_laws_FnExactEqualServerStates_7 : Unit → MCode := fun _ => .cond (.tmp 14) m_laws_FnExactEqualServerStates_6 (fun _ => .skip)
def m_laws_FnExactEqualServerStates_8 : Unit → MCode := fun _ => .seq m_laws_FnExactEqualServerStates_4 m_laws_FnExactEqualServerStates_7
def m_laws_FnExactEqualServerStates_9 : Unit → MCode := fun _ => .region [] [⟨(some 15), .ld (.tmp 3) 12 true, none, []⟩,
    ⟨(some 16), .mv (.tmp 5), none, []⟩,
    ⟨(some 17), .call 63 [(.tmp 15), (.tmp 16)], none, []⟩,
    ⟨(some 5), .mv (.tmp 17), none, []⟩] [2, 3, 5]
def m_laws_FnExactEqualServerStates_10 : Unit → MCode := fun _ => .region [] [⟨(some 18), .mv (.tmp 5), none, []⟩,
    ⟨(some 19), .bin .lss (.tmp 18) (.const (.int .i64 0)), none, []⟩] [2, 3, 19]
def m_laws_FnExactEqualServerStates_11 : Unit → MCode := fun _ => .region [] [⟨(some 4), .mv (.const (.bool true)), none, []⟩] [4]
def m_laws_FnExactEqualServerStates_12 : Unit → MCode := fun _ => .seq m_laws_FnExactEqualServerStates_11 (fun _ => .ret)
def m_laws_FnExactEqualServerStates_13 : Unit → MCode := fun _ => .cond (.tmp 19) m_laws_FnExactEqualServerStates_12 (fun _ => .skip)
def m_laws_FnExactEqualServerStates_14 : Unit → MCode := fun _ => .seq m_laws_FnExactEqualServerStates_10 m_laws_FnExactEqualServerStates_13
def m_laws_FnExactEqualServerStates_15 : Unit → MCode := fun _ => .region [] [⟨(some 20), .ld (.tmp 2) 12 true, none, []⟩,
    ⟨(some 21), .call 65 [(.tmp 20)], none, []⟩,
    ⟨(some 22), .ld (.tmp 3) 12 true, none, [0, 1]⟩,
    ⟨(some 23), .call 65 [(.tmp 22)], none, []⟩,
    ⟨(some 24), .call 64 [(.tmp 21), (.tmp 23)], none, []⟩,
    ⟨(some 6), .mv (.tmp 24), none, []⟩] [2, 3, 6]
def m_laws_FnExactEqualServerStates_16 : Unit → MCode := fun _ => .region [] [⟨(some 25), .ld (.tmp 2) 12 true, none, []⟩,
    ⟨(some 26), .call 65 [(.tmp 25)], none, []⟩,
    ⟨(some 7), .alloc [.bool false, .bool false, .int .i64 0, .int .i64 0, .int .i64 0, .int .i64 0, .slice none 0 0, .slice none 0 0, .int .i64 0, .slice none 0 0, .int .i64 0, .slice none 0 0], none, []⟩,
    ⟨none, .sto (.tmp 7) (.tmp 26) 12, none, []⟩] [2, 3, 6, 7]
def m_laws_FnExactEqualServerStates_17 : Unit → MCode := fun _ => .region [] [⟨(some 27), .ld (.tmp 3) 12 true, none, []⟩,
    ⟨(some 28), .call 65 [(.tmp 27)], none, []⟩,
    ⟨(some 8), .alloc [.bool false, .bool false, .int .i64 0, .int .i64 0, .int .i64 0, .int .i64 0, .slice none 0 0, .slice none 0 0, .int .i64 0, .slice none 0 0, .int .i64 0, .slice none 0 0], none, []⟩,
    ⟨none, .sto (.tmp 8) (.tmp 28) 12, none, []⟩] [2, 3, 6, 7, 8]
def m_laws_FnExactEqualServerStates_18 : Unit → MCode := fun _ => .region [] [⟨(some 29), .ld (.tmp 7) 12 true, none, []⟩,
    ⟨(some 30), .ld (.tmp 8) 12 true, none, []⟩,
    ⟨(some 31), .call 66 [(.tmp 29), (.tmp 30)], none, []⟩,
    ⟨(some 9), .mv (.tmp 31), none, []⟩] [2, 3, 6, 7, 8, 9]
def m_laws_FnExactEqualServerStates_19 : Unit → MCode := fun _ => .region [] [⟨(some 32), .mv (.tmp 9), none, []⟩,
    ⟨(some 33), .mv (.tmp 6), none, []⟩,
    ⟨(some 34), .bbin .neq (.tmp 32) (.tmp 33), none, []⟩] [2, 3, 7, 8, 34]
def m_laws_FnExactEqualServerStates_20 : Unit → MCode := fun _ => .region [] [⟨(some 4), .mv (.const (.bool false)), none, []⟩] [4]
def m_laws_FnExactEqualServerStates_21 : Unit → MCode := fun _ => .seq m_laws_FnExactEqualServerStates_20 (fun _ => .ret)
def m_laws_FnExactEqualServerStates_22 : Unit → MCode := fun _ => .cond (.tmp 34) m_laws_FnExactEqualServerStates_21 (fun _ => .skip)
def m_laws_FnExactEqualServerStates_23 : Unit → MCode := fun _ => .seq m_laws_FnExactEqualServerStates_19 m_laws_FnExactEqualServerStates_22
def m_laws_FnExactEqualServerStates_24 : Unit → MCode := fun _ => .region [] [⟨(some 35), .ld (.tmp 7) 12 true, none, []⟩,
    ⟨(some 36), .ld (.tmp 2) 12 true, none, [0]⟩,
    ⟨(some 37), .call 65 [(.tmp 36)], none, [0]⟩,
    ⟨(some 38), .call 58 [(.tmp 35), (.tmp 37)], none, []⟩,
    ⟨(some 39), .not (.tmp 38), none, []⟩] [3, 8, 39]
def m_laws_FnExactEqualServerStates_25 : Unit → MCode := fun _ => .region [] [⟨(some 4), .mv (.const (.bool false)), none, []⟩] [4]
def m_laws_FnExactEqualServerStates_26 : Unit → MCode := fun _ => .seq m_laws_FnExactEqualServerStates_25 (fun _ => .ret)
def m_laws_FnExactEqualServerStates_27 : Unit → MCode := fun _ => .cond (.tmp 39) m_laws_FnExactEqualServerStates_26 (fun _ => .skip)
def m_laws_FnExactEqualServerStates_28 : Unit → MCode := fun _ => .seq m_laws_FnExactEqualServerStates_24 m_laws_FnExactEqualServerStates_27
def m_laws_FnExactEqualServerStates_29 : Unit → MCode := fun _ => .region [] [⟨(some 40), .ld (.tmp 8) 12 true, none, []⟩,
    ⟨(some 41), .ld (.tmp 3) 12 true, none, [0]⟩,
    ⟨(some 42), .call 65 [(.tmp 41)], none, [0]⟩,
    ⟨(some 43), .call 58 [(.tmp 40), (.tmp 42)], none, []⟩,
    ⟨(some 44), .not (.tmp 43), none, []⟩] [44]
def m_laws_FnExactEqualServerStates_30 : Unit → MCode := fun _ => .region [] [⟨(some 4), .mv (.const (.bool false)), none, []⟩] [4]
def m_laws_FnExactEqualServerStates_31 : Unit → MCode := fun _ => .seq m_laws_FnExactEqualServerStates_30 (fun _ => .ret)
def m_laws_FnExactEqualServerStates_32 : Unit → MCode := fun _ => .cond (.tmp 44) m_laws_FnExactEqualServerStates_31 (fun _ => .skip)
def m_laws_FnExactEqualServerStates_33 : Unit → MCode := fun _ => .seq m_laws_FnExactEqualServerStates_29 m_laws_FnExactEqualServerStates_32
def m_laws_FnExactEqualServerStates_34 : Unit → MCode := fun _ => .region [] [⟨(some 4), .mv (.const (.bool true)), none, []⟩] [4]
def m_laws_FnExactEqualServerStates_35 : Unit → MCode := fun _ => .seq m_laws_FnExactEqualServerStates_34 (fun _ => .ret)
def m_laws_FnExactEqualServerStates_36 : Unit → MCode := fun _ => .seq m_laws_FnExactEqualServerStates_33 m_laws_FnExactEqualServerStates_35
def m_laws_FnExactEqualServerStates_37 : Unit → MCode := fun _ => .seq m_laws_FnExactEqualServerStates_28 m_laws_FnExactEqualServerStates_36
def m_laws_FnExactEqualServerStates_38 : Unit → MCode := fun _ => .seq m_laws_FnExactEqualServerStates_23 m_laws_FnExactEqualServerStates_37
def m_laws_FnExactEqualServerStates_39 : Unit → MCode := fun _ => .seq m_laws_FnExactEqualServerStates_18 m_laws_FnExactEqualServerStates_38
def m_laws_FnExactEqualServerStates_40 : Unit → MCode := fun _ => .seq m_laws_FnExactEqualServerStates_17 m_laws_FnExactEqualServerStates_39
def m_laws_FnExactEqualServerStates_41 : Unit → MCode := fun _ => .seq m_laws_FnExactEqualServerStates_16 m_laws_FnExactEqualServerStates_40
def m_laws_FnExactEqualServerStates_42 : Unit → MCode := fun _ => .seq m_laws_FnExactEqualServerStates_15 m_laws_FnExactEqualServerStates_41
def m_laws_FnExactEqualServerStates_43 : Unit → MCode := fun _ => .seq m_laws_FnExactEqualServerStates_14 m_laws_FnExactEqualServerStates_42
def m_laws_FnExactEqualServerStates_44 : Unit → MCode := fun _ => .seq m_laws_FnExactEqualServerStates_9 m_laws_FnExactEqualServerStates_43
def m_laws_FnExactEqualServerStates_45 : Unit → MCode := fun _ => .seq m_laws_FnExactEqualServerStates_8 m_laws_FnExactEqualServerStates_44
def m_laws_FnExactEqualServerStates_46 : Unit → MCode := fun _ => .seq m_laws_FnExactEqualServerStates_3 m_laws_FnExactEqualServerStates_45
def m_laws_FnExactEqualServerStates_47 : Unit → MCode := fun _ => .seq m_laws_FnExactEqualServerStates_2 m_laws_FnExactEqualServerStates_46
def m_laws_FnExactEqualServerStates_48 : Unit → MCode := fun _ => .seq m_laws_FnExactEqualServerStates_1 m_laws_FnExactEqualServerStates_47
def m_laws_FnExactEqualServerStates : MCode := m_laws_FnExactEqualServerStates_48 ()
def h_laws_FnExactEqualServerStates : Hints := [(0, [2, 3], [], [], []), (1, [2, 3, 5], [], [], []), (2, [2, 3, 5], [], [], []), (3, [2, 3, 5, 14], [], [], []), (4, [4], [], [], []), (5, [2, 3, 5], [], [], []), (6, [2, 3, 19], [], [], []), (7, [4], [], [], []), (8, [2, 3, 6], [[], [], [0, 1]], [], []), (9, [2, 3, 6, 7], [], [], []), (10, [2, 3, 6, 7, 8], [], [], []), (11, [2, 3, 6, 7, 8, 9], [], [], []), (12, [2, 3, 7, 8, 34], [], [], []), (13, [4], [], [], []), (14, [3, 8, 39], [[], [0], [0]], [], []), (15, [4], [], [], []), (16, [44], [[], [0], [0]], [], []), (17, [4], [], [], []), (18, [4], [], [], [])]
def r_laws_FnExactEqualServerStates : List RV := [.t 4]
abbrev n_laws_FnExactEqualServerStates : Nat := 14
theorem k_laws_FnExactEqualServerStates : Known Pr mu n_laws_FnExactEqualServerStates m_laws_FnExactEqualServerStates r_laws_FnExactEqualServerStates Go.Proofs.Try.f14.ntmps := .of h_laws_FnExactEqualServerStates hm Go.Proofs.Try.func14 (by kernel_rfl) (by kernel_rfl) (by kernel_rfl) (by kernel_rfl)
def m_laws_szConfig_1 : Unit → MCode := fun _ => .region [] [⟨(some 2), .box (.tmp 0), none, []⟩,
    ⟨(some 4), .mv (.const (.int .i64 0)), none, []⟩] [1, 2]
def m_laws_szConfig_2 : Unit → MCode := fun _ => .region [] [⟨(some 5), .fa (.tmp 2) 2, none, []⟩,
    ⟨(some 6), .ld (.tmp 5) 1 false, none, []⟩,
    ⟨(some 7), .mv (.tmp 1), none, []⟩,
    ⟨(some 8), .call 77 [(.tmp 6), (.tmp 7)], none, []⟩,
    ⟨(some 1), .mv (.tmp 8), none, []⟩] [1, 2]
def m_laws_szConfig_3 : Unit → MCode := fun _ => .region [] [⟨(some 9), .mv (.tmp 1), none, []⟩,
    ⟨(some 10), .bin .lss (.tmp 9) (.const (.int .i64 0)), none, []⟩] [1, 2, 10]
def m_laws_szConfig_4 : Unit → MCode := fun _ => .region [] [⟨(some 4), .mv (.const (.int .i64 (-1))), none, []⟩] [4]
def m_laws_szConfig_5 : Unit → MCode := fun _ => .seq m_laws_szConfig_4 (fun _ => .ret)
def m_laws_szConfig_6 : Unit → MCode := fun _ => .cond (.tmp 10) m_laws_szConfig_5 (fun _ => .skip)
def m_laws_szConfig_7 : Unit → MCode := fun _ => .seq m_laws_szConfig_3 m_laws_szConfig_6
def m_laws_szConfig_8 : Unit → MCode := fun _ => .region [] [⟨(some 11), .fa (.tmp 2) 3, none, []⟩,
    ⟨(some 12), .ld (.tmp 11) 1 false, none, []⟩,
    ⟨(some 13), .mv (.tmp 1), none, []⟩,
    ⟨(some 14), .call 77 [(.tmp 12), (.tmp 13)], none, []⟩,
    ⟨(some 1), .mv (.tmp 14), none, []⟩] [1]
def m_laws_szConfig_9 : Unit → MCode := fun _ => .region [] [⟨(some 15), .mv (.tmp 1), none, []⟩,
    ⟨(some 16), .bin .lss (.tmp 15) (.const (.int .i64 0)), none, []⟩] [1, 16]
def m_laws_szConfig_10 : Unit → MCode := fun _ => .region [] [⟨(some 4), .mv (.const (.int .i64 (-1))), none, []⟩] [4]
def m_laws_szConfig_11 : Unit → MCode := fun _ => .seq m_laws_szConfig_10 (fun _ => .ret)
def m_laws_szConfig_12 : Unit → MCode := fun _ => .cond (.tmp 16) m_laws_szConfig_11 (fun _ => .skip)
def m_laws_szConfig_13 : Unit → MCode := fun _ => .seq m_laws_szConfig_9 m_laws_szConfig_12
def m_laws_szConfig_14 : Unit → MCode := fun _ => .region [] [⟨(some 17), .mv (.tmp 1), none, []⟩,
    ⟨(some 4), .mv (.tmp 17), none, []⟩] [4]
def m_laws_szConfig_15 : Unit → MCode := fun _ => .seq m_laws_szConfig_14 (fun _ => .ret)
def m_laws_szConfig_16 : Unit → MCode := fun _ => .seq m_laws_szConfig_13 m_laws_szConfig_15
def m_laws_szConfig_17 : Unit → MCode := fun _ => .seq m_laws_szConfig_8 m_laws_szConfig_16
def m_laws_szConfig_18 : Unit → MCode := fun _ => .seq m_laws_szConfig_7 m_laws_szConfig_17
def m_laws_szConfig_19 : Unit → MCode := fun _ => .seq m_laws_szConfig_2 m_laws_szConfig_18
def m_laws_szConfig_20 : Unit → MCode := fun _ => .seq m_laws_szConfig_1 m_laws_szConfig_19
def m_laws_szConfig : MCode := m_laws_szConfig_20 ()
def h_laws_szConfig : Hints := [(0, [1, 2], [], [], []), (1, [1, 2], [], [], []), (2, [1, 2, 10], [], [], []), (3, [4], [], [], []), (4, [1], [], [], []), (5, [1, 16], [], [], []), (6, [4], [], [], []), (7, [4], [], [], [])]
def r_laws_szConfig : List RV := [.t 4]
abbrev n_laws_szConfig : Nat := 24
theorem k_laws_szConfig : Known Pr mu n_laws_szConfig m_laws_szConfig r_laws_szConfig Go.Proofs.Try.f24.ntmps := .of h_laws_szConfig hm Go.Proofs.Try.func24 (by kernel_rfl) (by kernel_rfl) (by kernel_rfl) (by kernel_rfl)
def m_spec_EqualConfigs_1 : Unit → MCode := fun _ => .region [] [⟨(some 2), .box (.tmp 0), none, []⟩,
    ⟨(some 3), .box (.tmp 1), none, []⟩,
    ⟨(some 4), .mv (.const (.bool false)), none, []⟩] [2, 3]
def m_spec_EqualConfigs_2 : Unit → MCode := fun _ => .region [] [⟨(some 5), .fa (.tmp 2) 0, none, []⟩,
    ⟨(some 6), .ld (.tmp 5) 1 false, none, []⟩,
    ⟨(some 7), .fa (.tmp 3) 0, none, []⟩,
    ⟨(some 8), .ld (.tmp 7) 1 false, none, []⟩,
    ⟨(some 9), .bin .eql (.tmp 6) (.tmp 8), none, []⟩,
    ⟨(some 10), .mv (.tmp 9), none, []⟩,
    ⟨(some 11), .fa (.tmp 2) 1, (some (10, true)), []⟩,
    ⟨(some 12), .ld (.tmp 11) 1 false, (some (10, true)), []⟩,
    ⟨(some 13), .fa (.tmp 3) 1, (some (10, true)), []⟩,
    ⟨(some 14), .ld (.tmp 13) 1 false, (some (10, true)), []⟩,
    ⟨(some 15), .bin .eql (.tmp 12) (.tmp 14), (some (10, true)), []⟩,
    ⟨(some 16), .pick (.tmp 10) (.tmp 15) (.const (.bool false)), none, []⟩,
    ⟨(some 17), .mv (.tmp 16), none, []⟩,
    ⟨(some 18), .fa (.tmp 2) 2, (some (17, true)), []⟩,
    ⟨(some 19), .ld (.tmp 18) 1 false, (some (17, true)), []⟩,
    ⟨(some 20), .fa (.tmp 3) 2, (some (17, true)), []⟩,
    ⟨(some 21), .ld (.tmp 20) 1 false, (some (17, true)), []⟩,
    ⟨(some 22), .call 78 [(.tmp 19), (.tmp 21)], (some (17, true)), []⟩,
    ⟨(some 23), .pick (.tmp 17) (.tmp 22) (.const (.bool false)), none, []⟩,
    ⟨(some 24), .mv (.tmp 23), none, []⟩,
    ⟨(some 25), .fa (.tmp 2) 3, (some (24, true)), []⟩,
    ⟨(some 26), .ld (.tmp 25) 1 false, (some (24, true)), []⟩,
    ⟨(some 27), .fa (.tmp 3) 3, (some (24, true)), []⟩,
    ⟨(some 28), .ld (.tmp 27) 1 false, (some (24, true)), []⟩,
    ⟨(some 29), .call 78 [(.tmp 26), (.tmp 28)], (some (24, true)), []⟩,
    ⟨(some 30), .pick (.tmp 24) (.tmp 29) (.const (.bool false)), none, []⟩,
    ⟨(some 4), .mv (.tmp 30), none, []⟩] [4]
def m_spec_EqualConfigs_3 : Unit → MCode := fun _ => .seq m_spec_EqualConfigs_2 (fun _ => .ret)
def m_spec_EqualConfigs_4 : Unit → MCode := fun _ => .seq m_spec_EqualConfigs_1 m_spec_EqualConfigs_3
def m_spec_EqualConfigs : MCode := m_spec_EqualConfigs_4 ()
def h_spec_EqualConfigs : Hints := [(0, [2, 3], [], [], []), (1, [4], [], [], [])]
def r_spec_EqualConfigs : List RV := [.t 4]
abbrev n_spec_EqualConfigs : Nat := 25
theorem k_spec_EqualConfigs : Known Pr mu n_spec_EqualConfigs m_spec_EqualConfigs r_spec_EqualConfigs Go.Proofs.Try.f25.ntmps := .of h_spec_EqualConfigs hm Go.Proofs.Try.func25 (by kernel_rfl) (by kernel_rfl) (by kernel_rfl) (by kernel_rfl)
def m_laws_toConfig_1 : Unit → MCode := fun _ => .region [] [⟨(some 1), .box (.tmp 0), none, []⟩,
    ⟨(some 2), .alloc [.int .i64 0, .int .i64 0, .slice none 0 0, .slice none 0 0], none, []⟩] [1, 2]
def m_laws_toConfig_2 : Unit → MCode := fun _ => .region [] [⟨(some 3), .alloc [.int .i64 0, .int .i64 0, .slice none 0 0, .slice none 0 0], none, []⟩] [1, 2, 3]
def m_laws_toConfig_3 : Unit → MCode := fun _ => .region [] [⟨(some 4), .fa (.tmp 1) 0, none, []⟩,
    ⟨(some 5), .ld (.tmp 4) 1 false, none, []⟩,
    ⟨(some 6), .fa (.tmp 3) 0, none, []⟩,
    ⟨none, .sto (.tmp 6) (.tmp 5) 1, none, []⟩] [1, 2, 3]
def m_laws_toConfig_4 : Unit → MCode := fun _ => .region [] [⟨(some 7), .fa (.tmp 1) 1, none, []⟩,
    ⟨(some 8), .ld (.tmp 7) 1 false, none, []⟩,
    ⟨(some 9), .fa (.tmp 3) 1, none, []⟩,
    ⟨none, .sto (.tmp 9) (.tmp 8) 1, none, []⟩] [1, 2, 3]
def m_laws_toConfig_5 : Unit → MCode := fun _ => .region [] [⟨(some 10), .fa (.tmp 1) 2, none, []⟩,
    ⟨(some 11), .ld (.tmp 10) 1 false, none, []⟩,
    ⟨(some 12), .call 79 [(.tmp 11)], none, []⟩,
    ⟨(some 13), .fa (.tmp 3) 2, none, []⟩,
    ⟨none, .sto (.tmp 13) (.tmp 12) 1, none, []⟩] [1, 2, 3]
def m_laws_toConfig_6 : Unit → MCode := fun _ => .region [] [⟨(some 14), .fa (.tmp 1) 3, none, []⟩,
    ⟨(some 15), .ld (.tmp 14) 1 false, none, []⟩,
    ⟨(some 16), .call 79 [(.tmp 15)], none, []⟩,
    ⟨(some 17), .fa (.tmp 3) 3, none, []⟩,
    ⟨none, .sto (.tmp 17) (.tmp 16) 1, none, []⟩] [2, 3]
def m_laws_toConfig_7 : Unit → MCode := fun _ => .region [] [⟨(some 18), .ld (.tmp 3) 4 true, none, []⟩,
    ⟨none, .sto (.tmp 2) (.tmp 18) 4, none, []⟩] [2]
def m_laws_toConfig_8 : Unit → MCode := fun _ => .seq m_laws_toConfig_7 (fun _ => .ret)
def m_laws_toConfig_9 : Unit → MCode := fun _ => .seq m_laws_toConfig_6 m_laws_toConfig_8
def m_laws_toConfig_10 : Unit → MCode := fun _ => .seq m_laws_toConfig_5 m_laws_toConfig_9
def m_laws_toConfig_11 : Unit → MCode := fun _ => .seq m_laws_toConfig_4 m_laws_toConfig_10
def m_laws_toConfig_12 : Unit → MCode := fun _ => .seq m_laws_toConfig_3 m_laws_toConfig_11
def m_laws_toConfig_13 : Unit → MCode := fun _ => .seq m_laws_toConfig_2 m_laws_toConfig_12
def m_laws_toConfig_14 : Unit → MCode := fun _ => .seq m_laws_toConfig_1 m_laws_toConfig_13
def m_laws_toConfig : MCode := m_laws_toConfig_14 ()
def h_laws_toConfig : Hints := [(0, [1, 2], [], [], []), (1, [1, 2, 3], [], [], []), (2, [1, 2, 3], [], [], []), (3, [1, 2, 3], [], [], []), (4, [1, 2, 3], [], [], []), (5, [2, 3], [], [], []), (6, [2], [], [], [])]
def r_laws_toConfig : List RV := [.c 2 4 true]
abbrev n_laws_toConfig : Nat := 26
theorem k_laws_toConfig : Known Pr mu n_laws_toConfig m_laws_toConfig r_laws_toConfig Go.Proofs.Try.f26.ntmps := .of h_laws_toConfig hm Go.Proofs.Try.func26 (by kernel_rfl) (by kernel_rfl) (by kernel_rfl) (by kernel_rfl)
def m_impl_EqualConfigs_1 : Unit → MCode := fun _ => .region [] [⟨(some 2), .box (.tmp 0), none, []⟩,
    ⟨(some 3), .box (.tmp 1), none, []⟩,
    ⟨(some 4), .mv (.const (.bool false)), none, []⟩] [2, 3]
def m_impl_EqualConfigs_2 : Unit → MCode := fun _ => .region [] [⟨(some 5), .fa (.tmp 2) 0, none, []⟩,
    ⟨(some 6), .ld (.tmp 5) 1 false, none, []⟩,
    ⟨(some 7), .fa (.tmp 3) 0, none, []⟩,
    ⟨(some 8), .ld (.tmp 7) 1 false, none, []⟩,
    ⟨(some 9), .bin .eql (.tmp 6) (.tmp 8), none, []⟩,
    ⟨(some 10), .mv (.tmp 9), none, []⟩,
    ⟨(some 11), .fa (.tmp 2) 1, (some (10, true)), []⟩,
    ⟨(some 12), .ld (.tmp 11) 1 false, (some (10, true)), []⟩,
    ⟨(some 13), .fa (.tmp 3) 1, (some (10, true)), []⟩,
    ⟨(some 14), .ld (.tmp 13) 1 false, (some (10, true)), []⟩,
    ⟨(some 15), .bin .eql (.tmp 12) (.tmp 14), (some (10, true)), []⟩,
    ⟨(some 16), .pick (.tmp 10) (.tmp 15) (.const (.bool false)), none, []⟩,
    ⟨(some 17), .mv (.tmp 16), none, []⟩,
    ⟨(some 18), .fa (.tmp 2) 2, (some (17, true)), []⟩,
    ⟨(some 19), .ld (.tmp 18) 1 false, (some (17, true)), []⟩,
    ⟨(some 20), .fa (.tmp 3) 2, (some (17, true)), []⟩,
    ⟨(some 21), .ld (.tmp 20) 1 false, (some (17, true)), []⟩,
    ⟨(some 22), .call 80 [(.tmp 19), (.tmp 21)], (some (17, true)), []⟩,
    ⟨(some 23), .pick (.tmp 17) (.tmp 22) (.const (.bool false)), none, []⟩,
    ⟨(some 24), .mv (.tmp 23), none, []⟩,
    ⟨(some 25), .fa (.tmp 2) 3, (some (24, true)), []⟩,
    ⟨(some 26), .ld (.tmp 25) 1 false, (some (24, true)), []⟩,
    ⟨(some 27), .fa (.tmp 3) 3, (some (24, true)), []⟩,
    ⟨(some 28), .ld (.tmp 27) 1 false, (some (24, true)), []⟩,
    ⟨(some 29), .call 80 [(.tmp 26), (.tmp 28)], (some (24, true)), []⟩,
    ⟨(some 30), .pick (.tmp 24) (.tmp 29) (.const (.bool false)), none, []⟩,
    ⟨(some 4), .mv (.tmp 30), none, []⟩] [4]
def m_impl_EqualConfigs_3 : Unit → MCode := fun _ => .seq m_impl_EqualConfigs_2 (fun _ => .ret)
def m_impl_EqualConfigs_4 : Unit → MCode := fun _ => .seq m_impl_EqualConfigs_1 m_impl_EqualConfigs_3
def m_impl_EqualConfigs : MCode := m_impl_EqualConfigs_4 ()
def h_impl_EqualConfigs : Hints := [(0, [2, 3], [], [], []), (1, [4], [], [], [])]
def r_impl_EqualConfigs : List RV := [.t 4]
abbrev n_impl_EqualConfigs : Nat := 27
theorem k_impl_EqualConfigs : Known Pr mu n_impl_EqualConfigs m_impl_EqualConfigs r_impl_EqualConfigs Go.Proofs.Try.f27.ntmps := .of h_impl_EqualConfigs hm Go.Proofs.Try.func27 (by kernel_rfl) (by kernel_rfl) (by kernel_rfl) (by kernel_rfl)
def m_laws_eqConfig_1 : Unit → MCode := fun _ => .region [] [⟨(some 2), .box (.tmp 0), none, []⟩,
    ⟨(some 3), .box (.tmp 1), none, []⟩,
    ⟨(some 4), .mv (.const (.bool false)), none, []⟩] [2, 3]
def m_laws_eqConfig_2 : Unit → MCode := fun _ => .region [] [⟨(some 5), .fa (.tmp 2) 0, none, []⟩,
    ⟨(some 6), .ld (.tmp 5) 1 false, none, []⟩,
    ⟨(some 7), .fa (.tmp 3) 0, none, []⟩,
    ⟨(some 8), .ld (.tmp 7) 1 false, none, []⟩,
    ⟨(some 9), .bin .neq (.tmp 6) (.tmp 8), none, []⟩] [2, 3, 9]
def m_laws_eqConfig_3 : Unit → MCode := fun _ => .region [] [⟨(some 4), .mv (.const (.bool false)), none, []⟩] [4]
def m_laws_eqConfig_4 : Unit → MCode := fun _ => .seq m_laws_eqConfig_3 (fun _ => .ret)
def m_laws_eqConfig_5 : Unit → MCode := fun _ => .cond (.tmp 9) m_laws_eqConfig_4 (fun _ => .skip)
def m_laws_eqConfig_6 : Unit → MCode := fun _ => .seq m_laws_eqConfig_2 m_laws_eqConfig_5
def m_laws_eqConfig_7 : Unit → MCode := fun _ => .region [] [⟨(some 10), .fa (.tmp 2) 1, none, []⟩,
    ⟨(some 11), .ld (.tmp 10) 1 false, none, []⟩,
    ⟨(some 12), .fa (.tmp 3) 1, none, []⟩,
    ⟨(some 13), .ld (.tmp 12) 1 false, none, []⟩,
    ⟨(some 14), .bin .neq (.tmp 11) (.tmp 13), none, []⟩] [2, 3, 14]
def m_laws_eqConfig_8 : Unit → MCode := fun _ => .region [] [⟨(some 4), .mv (.const (.bool false)), none, []⟩] [4]
def m_laws_eqConfig_9 : Unit → MCode := fun _ => .seq m_laws_eqConfig_8 (fun _ => .ret)
def m_laws_eqConfig_10 : Unit → MCode := fun _ => .cond (.tmp 14) m_laws_eqConfig_9 (fun _ => .skip)
def m_laws_eqConfig_11 : Unit → MCode := fun _ => .seq m_laws_eqConfig_7 m_laws_eqConfig_10
def m_laws_eqConfig_12 : Unit → MCode := fun _ => .region [] [⟨(some 15), .fa (.tmp 2) 2, none, []⟩,
    ⟨(some 16), .ld (.tmp 15) 1 false, none, []⟩,
    ⟨(some 17), .fa (.tmp 3) 2, none, []⟩,
    ⟨(some 18), .ld (.tmp 17) 1 false, none, []⟩,
    ⟨(some 19), .call 81 [(.tmp 16), (.tmp 18)], none, []⟩,
    ⟨(some 20), .not (.tmp 19), none, []⟩] [2, 3, 20]
def m_laws_eqConfig_13 : Unit → MCode := fun _ => .region [] [⟨(some 4), .mv (.const (.bool false)), none, []⟩] [4]
def m_laws_eqConfig_14 : Unit → MCode := fun _ => .seq m_laws_eqConfig_13 (fun _ => .ret)
def m_laws_eqConfig_15 : Unit → MCode := fun _ => .cond (.tmp 20) m_laws_eqConfig_14 (fun _ => .skip)
def m_laws_eqConfig_16 : Unit → MCode := fun _ => .seq m_laws_eqConfig_12 m_laws_eqConfig_15
def m_laws_eqConfig_17 : Unit → MCode := fun _ => .region [] [⟨(some 21), .fa (.tmp 2) 3, none, []⟩,
    ⟨(some 22), .ld (.tmp 21) 1 false, none, []⟩,
    ⟨(some 23), .fa (.tmp 3) 3, none, []⟩,
    ⟨(some 24), .ld (.tmp 23) 1 false, none, []⟩,
    ⟨(some 25), .call 81 [(.tmp 22), (.tmp 24)], none, []⟩,
    ⟨(some 26), .not (.tmp 25), none, []⟩] [26]
def m_laws_eqConfig_18 : Unit → MCode := fun _ => .region [] [⟨(some 4), .mv (.const (.bool false)), none, []⟩] [4]
def m_laws_eqConfig_19 : Unit → MCode := fun _ => .seq m_laws_eqConfig_18 (fun _ => .ret)
def m_laws_eqConfig_20 : Unit → MCode := fun _ => .cond (.tmp 26) m_laws_eqConfig_19 (fun _ => .skip)
def m_laws_eqConfig_21 : Unit → MCode := fun _ => .seq m_laws_eqConfig_17 m_laws_eqConfig_20
def m_laws_eqConfig_22 : Unit → MCode := fun _ => .region [] [⟨(some 4), .mv (.const (.bool true)), none, []⟩] [4]
def m_laws_eqConfig_23 : Unit → MCode := fun _ => .seq m_laws_eqConfig_22 (fun _ => .ret)
def m_laws_eqConfig_24 : Unit → MCode := fun _ => .seq m_laws_eqConfig_21 m_laws_eqConfig_23
def m_laws_eqConfig_25 : Unit → MCode := fun _ => .seq m_laws_eqConfig_16 m_laws_eqConfig_24
def m_laws_eqConfig_26 : Unit → MCode := fun _ => .seq m_laws_eqConfig_11 m_laws_eqConfig_25
def m_laws_eqConfig_27 : Unit → MCode := fun _ => .seq m_laws_eqConfig_6 m_laws_eqConfig_26
def m_laws_eqConfig_28 : Unit → MCode := fun _ => .seq m_laws_eqConfig_1 m_laws_eqConfig_27
def m_laws_eqConfig : MCode := m_laws_eqConfig_28 ()
def h_laws_eqConfig : Hints := [(0, [2, 3], [], [], []), (1, [2, 3, 9], [], [], []), (2, [4], [], [], []), (3, [2, 3, 14], [], [], []), (4, [4], [], [], []), (5, [2, 3, 20], [], [], []), (6, [4], [], [], []), (7, [26], [], [], []), (8, [4], [], [], []), (9, [4], [], [], [])]
def r_laws_eqConfig : List RV := [.t 4]
abbrev n_laws_eqConfig : Nat := 28
theorem k_laws_eqConfig : Known Pr mu n_laws_eqConfig m_laws_eqConfig r_laws_eqConfig Go.Proofs.Try.f28.ntmps := .of h_laws_eqConfig hm Go.Proofs.Try.func28 (by kernel_rfl) (by kernel_rfl) (by kernel_rfl) (by kernel_rfl)
def m_laws_szEntryS_1 : Unit → MCode := fun _ => .region [] [⟨(some 4), .mv (.const (.int .i64 0)), none, []⟩] [0, 1]
def m_laws_szEntryS_2 : Unit → MCode := fun _ => .region [] [⟨(some 5), .mv (.tmp 1), none, []⟩,
    ⟨(some 6), .mv (.tmp 0), none, []⟩,
    ⟨(some 7), .len false (.tmp 6), none, []⟩,
    ⟨(some 8), .bin .sub (.tmp 5) (.tmp 7), none, []⟩,
    ⟨(some 1), .mv (.tmp 8), none, []⟩] [1]
def m_laws_szEntryS_3 : Unit → MCode := fun _ => .region [] [⟨(some 9), .mv (.tmp 1), none, []⟩,
    ⟨(some 10), .bin .lss (.tmp 9) (.const (.int .i64 0)), none, []⟩] [1, 10]
def m_laws_szEntryS_4 : Unit → MCode := fun _ => .region [] [⟨(some 4), .mv (.const (.int .i64 (-1))), none, []⟩] [4]
def m_laws_szEntryS_5 : Unit → MCode := fun _ => .seq m_laws_szEntryS_4 (fun _ => .ret)
def m_laws_szEntryS_6 : Unit → MCode := fun _ => .cond (.tmp 10) m_laws_szEntryS_5 (fun _ => .skip)
def m_laws_szEntryS_7 : Unit → MCode := fun _ => .seq m_laws_szEntryS_3 m_laws_szEntryS_6
def m_laws_szEntryS_8 : Unit → MCode := fun _ => .region [] [⟨(some 11), .mv (.tmp 1), none, []⟩,
    ⟨(some 4), .mv (.tmp 11), none, []⟩] [4]
def m_laws_szEntryS_9 : Unit → MCode := fun _ => .seq m_laws_szEntryS_8 (fun _ => .ret)
def m_laws_szEntryS_10 : Unit → MCode := fun _ => .seq m_laws_szEntryS_7 m_laws_szEntryS_9
def m_laws_szEntryS_11 : Unit → MCode := fun _ => .seq m_laws_szEntryS_2 m_laws_szEntryS_10
def m_laws_szEntryS_12 : Unit → MCode := fun _ => .seq m_laws_szEntryS_1 m_laws_szEntryS_11
def m_laws_szEntryS : MCode := m_laws_szEntryS_12 ()
def h_laws_szEntryS : Hints := [(0, [0, 1], [], [], []), (1, [1], [], [], []), (2, [1, 10], [], [], []), (3, [4], [], [], []), (4, [4], [], [], [])]
def r_laws_szEntryS : List RV := [.t 4]
abbrev n_laws_szEntryS : Nat := 34
theorem k_laws_szEntryS : Known Pr mu n_laws_szEntryS m_laws_szEntryS r_laws_szEntryS Go.Proofs.Try.f34.ntmps := .of h_laws_szEntryS hm Go.Proofs.Try.func34 (by kernel_rfl) (by kernel_rfl) (by kernel_rfl) (by kernel_rfl)
def m_laws_toEntryS_1 : Unit → MCode := fun _ => .region [] [⟨(some 2), .mv (.const (.slice none 0 0)), none, []⟩] [0]
def m_laws_toEntryS_2 : Unit → MCode := fun _ => .region [] [⟨(some 5), .mv (.tmp 0), none, []⟩,
    ⟨(some 6), .len false (.tmp 5), none, []⟩,
    ⟨(some 7), .mks 7 56 [.int .i64 0, .int .i64 0, .int .i64 0, .int .i64 0, .int .i64 0, .int .i64 0, .int .i64 0] (.tmp 6) (.tmp 6), none, []⟩,
    ⟨(some 3), .mv (.tmp 7), none, []⟩] [0, 3]
def m_laws_toEntryS_3 : Unit → MCode := fun _ => .region [] [⟨(some 4), .mv (.const (.int .i64 0)), none, []⟩] [0, 3, 4]
def m_laws_toEntryS_4 : Unit → MCode := fun _ => .region [] [⟨(some 8), .mv (.tmp 4), none, []⟩,
    ⟨(some 9), .mv (.tmp 0), none, []⟩,
    ⟨(some 10), .len false (.tmp 9), none, []⟩,
    ⟨(some 11), .bin .lss (.tmp 8) (.tmp 10), none, []⟩] [0, 3, 4, 11]
def m_laws_toEntryS_5 : Unit → MCode := fun _ => .cond (.tmp 11) (fun _ => .skip) (fun _ => .exit 0)
def m_laws_toEntryS_6 : Unit → MCode := fun _ => .seq m_laws_toEntryS_4 m_laws_toEntryS_5
def m_laws_toEntryS_7 : Unit → MCode := fun _ => .region [] [⟨(some 14), .mv (.tmp 3), none, []⟩,
    ⟨(some 15), .mv (.tmp 4), none, []⟩,
    ⟨(some 16), .mv (.tmp 0), none, []⟩,
    ⟨(some 17), .mv (.tmp 4), none, []⟩,
    ⟨(some 18), .ia (.tmp 16) (.tmp 17) 7, none, []⟩,
    ⟨(some 19), .ld (.tmp 18) 7 true, none, []⟩,
    ⟨(some 20), .call 54 [(.tmp 19)], none, []⟩,
    ⟨(some 21), .ia (.tmp 14) (.tmp 15) 7, none, []⟩,
    ⟨none, .sto (.tmp 21) (.tmp 20) 7, none, []⟩] [0, 3, 4]
def m_laws_toEntryS_8 : Unit → MCode := fun _ => .block 1 m_laws_toEntryS_7
def m_laws_toEntryS_9 : Unit → MCode := fun _ => .region [] [⟨(some 12), .mv (.tmp 4), none, []⟩,
    ⟨(some 13), .bin .add (.tmp 12) (.const (.int .i64 1)), none, []⟩,
    ⟨(some 4), .mv (.tmp 13), none, []⟩] [0, 3, 4]
def m_laws_toEntryS_10 : Unit → MCode := fun _ => .seq m_laws_toEntryS_8 m_laws_toEntryS_9
def m_laws_toEntryS_11 : Unit → MCode := fun _ => .seq m_laws_toEntryS_6 m_laws_toEntryS_10
def m_laws_toEntryS_12 : Unit → MCode := fun _ => .loop m_laws_toEntryS_11
def m_laws_toEntryS_13 : Unit → MCode := fun _ => .block 0 m_laws_toEntryS_12
def m_laws_toEntryS_14 : Unit → MCode := fun _ => .seq m_laws_toEntryS_3 m_laws_toEntryS_13
def m_laws_toEntryS_15 : Unit → MCode := fun _ => .region [] [⟨(some 22), .mv (.tmp 3), none, []⟩,
    ⟨(some 2), .mv (.tmp 22), none, []⟩] [2]
def m_laws_toEntryS_16 : Unit → MCode := fun _ => .seq m_laws_toEntryS_15 (fun _ => .ret)
def m_laws_toEntryS_17 : Unit → MCode := fun _ => .seq m_laws_toEntryS_14 m_laws_toEntryS_16
def m_laws_toEntryS_18 : Unit → MCode := fun _ => .seq m_laws_toEntryS_2 m_laws_toEntryS_17
def m_laws_toEntryS_19 : Unit → MCode := fun _ => .seq m_laws_toEntryS_1 m_laws_toEntryS_18
def m_laws_toEntryS : MCode := m_laws_toEntryS_19 ()
def h_laws_toEntryS : Hints := [(0, [0], [], [], []), (1, [0, 3], [], [], []), (2, [0, 3, 4], [], [], []), (3, [0, 3, 4, 11], [], [], []), (5, [0, 3, 4], [], [], []), (4, [0, 3, 4], [], [], []), (6, [2], [], [], [])]
def r_laws_toEntryS : List RV := [.t 2]
abbrev n_laws_toEntryS : Nat := 36
theorem k_laws_toEntryS : Known Pr mu n_laws_toEntryS m_laws_toEntryS r_laws_toEntryS Go.Proofs.Try.f36.ntmps := .of h_laws_toEntryS hm Go.Proofs.Try.func36 (by kernel_rfl) (by kernel_rfl) (by kernel_rfl) (by kernel_rfl)
def m_laws_eqEntryS_1 : Unit → MCode := fun _ => .region [] [⟨(some 4), .mv (.const (.bool false)), none, []⟩] [0, 1]
def m_laws_eqEntryS_2 : Unit → MCode := fun _ => .region [] [⟨(some 6), .mv (.tmp 0), none, []⟩,
    ⟨(some 7), .len false (.tmp 6), none, []⟩,
    ⟨(some 8), .mv (.tmp 1), none, []⟩,
    ⟨(some 9), .len false (.tmp 8), none, []⟩,
    ⟨(some 10), .bin .neq (.tmp 7) (.tmp 9), none, []⟩] [0, 1, 10]
def m_laws_eqEntryS_3 : Unit → MCode := fun _ => .region [] [⟨(some 4), .mv (.const (.bool false)), none, []⟩] [4]
def m_laws_eqEntryS_4 : Unit → MCode := fun _ => .seq m_laws_eqEntryS_3 (fun _ => .ret)
def m_laws_eqEntryS_5 : Unit → MCode := fun _ => .cond (.tmp 10) m_laws_eqEntryS_4 (fun _ => .skip)
def m_laws_eqEntryS_6 : Unit → MCode := fun _ => .seq m_laws_eqEntryS_2 m_laws_eqEntryS_5
def m_laws_eqEntryS_7 : Unit → MCode := fun _ => .region [] [⟨(some 5), .mv (.const (.int .i64 0)), none, []⟩] [0, 1, 5]
def m_laws_eqEntryS_8 : Unit → MCode := fun _ => .region [] [⟨(some 11), .mv (.tmp 5), none, []⟩,
    ⟨(some 12), .mv (.tmp 0), none, []⟩,
    ⟨(some 13), .len false (.tmp 12), none, []⟩,
    ⟨(some 14), .bin .lss (.tmp 11) (.tmp 13), none, []⟩] [0, 1, 5, 14]
def m_laws_eqEntryS_9 : Unit → MCode := fun _ => .cond (.tmp 14) (fun _ => .skip) (fun _ => .exit 0)
def m_laws_eqEntryS_10 : Unit → MCode := fun _ => .seq m_laws_eqEntryS_8 m_laws_eqEntryS_9
def m_laws_eqEntryS_11 : Unit → MCode := fun _ => .region [] [⟨(some 17), .mv (.tmp 0), none, []⟩,
    ⟨(some 18), .mv (.tmp 5), none, []⟩,
    ⟨(some 19), .ia (.tmp 17) (.tmp 18) 7, none, []⟩,
    ⟨(some 20), .ld (.tmp 19) 7 true, none, []⟩,
    ⟨(some 21), .mv (.tmp 1), none, []⟩,
    ⟨(some 22), .mv (.tmp 5), none, []⟩,
    ⟨(some 23), .ia (.tmp 21) (.tmp 22) 7, none, [0, 1, 2, 3]⟩,
    ⟨(some 24), .ld (.tmp 23) 7 true, none, [0, 1, 2, 3]⟩,
    ⟨(some 25), .call 86 [(.tmp 20), (.tmp 24)], none, []⟩,
    ⟨(some 26), .not (.tmp 25), none, []⟩] [0, 1, 5, 26]
def m_laws_eqEntryS_12 : Unit → MCode := fun _ => .region [] [⟨(some 4), .mv (.const (.bool false)), none, []⟩] [4]
def m_laws_eqEntryS_13 : Unit → MCode := fun _ => .seq m_laws_eqEntryS_12 (fun _ => .ret)
def m_laws_eqEntryS_14 : Unit → MCode := fun _ => .cond (.tmp 26) m_laws_eqEntryS_13 (fun _ => .skip)
def m_laws_eqEntryS_15 : Unit → MCode := fun _ => .seq m_laws_eqEntryS_11 m_laws_eqEntryS_14
def m_laws_eqEntryS_16 : Unit → MCode := fun _ => .block 1 m_laws_eqEntryS_15
def m_laws_eqEntryS_17 : Unit → MCode := fun _ => .region [] [⟨(some 15), .mv (.tmp 5), none, []⟩,
    ⟨(some 16), .bin .add (.tmp 15) (.const (.int .i64 1)), none, []⟩,
    ⟨(some 5), .mv (.tmp 16), none, []⟩] [0, 1, 5]
def m_laws_eqEntryS_18 : Unit → MCode := fun _ => .seq m_laws_eqEntryS_16 m_laws_eqEntryS_17
def m_laws_eqEntryS_19 : Unit → MCode := fun _ => .seq m_laws_eqEntryS_10 m_laws_eqEntryS_18
def m_laws_eqEntryS_20 : Unit → MCode := fun _ => .loop m_laws_eqEntryS_19
def m_laws_eqEntryS_21 : Unit → MCode := fun _ => .block 0 m_laws_eqEntryS_20
def m_laws_eqEntryS_22 : Unit → MCode := fun _ => .seq m_laws_eqEntryS_7 m_laws_eqEntryS_21
def m_laws_eqEntryS_23 : Unit → MCode := fun _ => .region [] [⟨(some 4), .mv (.const (.bool true)), none, []⟩] [4]
def m_laws_eqEntryS_24 : Unit → MCode := fun _ => .seq m_laws_eqEntryS_23 (fun _ => .ret)
def m_laws_eqEntryS_25 : Unit → MCode := fun _ => .seq m_laws_eqEntryS_22 m_laws_eqEntryS_24
def m_laws_eqEntryS_26 : Unit → MCode := fun _ => .seq m_laws_eqEntryS_6 m_laws_eqEntryS_25
def m_laws_eqEntryS_27 : Unit → MCode := fun _ => .seq m_laws_eqEntryS_1 m_laws_eqEntryS_26
def m_laws_eqEntryS : MCode := m_laws_eqEntryS_27 ()
def h_laws_eqEntryS : Hints := [(0, [0, 1], [], [], []), (1, [0, 1, 10], [], [], []), (2, [4], [], [], []), (3, [0, 1, 5], [], [], []), (4, [0, 1, 5, 14], [], [], []), (6, [0, 1, 5, 26], [[], [], [], [], [], [], [0, 1, 2, 3], [0, 1, 2, 3]], [], []), (7, [4], [], [], []), (5, [0, 1, 5], [], [], []), (8, [4], [], [], [])]
def r_laws_eqEntryS : List RV := [.t 4]
abbrev n_laws_eqEntryS : Nat := 38
theorem k_laws_eqEntryS : Known Pr mu n_laws_eqEntryS m_laws_eqEntryS r_laws_eqEntryS Go.Proofs.Try.f38.ntmps := .of h_laws_eqEntryS hm Go.Proofs.Try.func38 (by kernel_rfl) (by kernel_rfl) (by kernel_rfl) (by kernel_rfl)
def m_laws_toEntry_1 : Unit → MCode := fun _ => .region [] [⟨(some 1), .box (.tmp 0), none, []⟩,
    ⟨(some 2), .alloc [.int .i64 0, .int .i64 0, .int .i64 0, .int .i64 0, .int .i64 0, .int .i64 0, .int .i64 0], none, []⟩] [1, 2]
def m_laws_toEntry_2 : Unit → MCode := fun _ => .region [] [⟨(some 3), .alloc [.int .i64 0, .int .i64 0, .int .i64 0, .int .i64 0, .int .i64 0, .int .i64 0, .int .i64 0], none, []⟩] [1, 2, 3]
def m_laws_toEntry_3 : Unit → MCode := fun _ => .region [] [⟨(some 4), .fa (.tmp 1) 0, none, []⟩,
    ⟨(some 5), .ld (.tmp 4) 1 false, none, []⟩,
    ⟨(some 6), .fa (.tmp 3) 0, none, []⟩,
    ⟨none, .sto (.tmp 6) (.tmp 5) 1, none, []⟩] [1, 2, 3]
def m_laws_toEntry_4 : Unit → MCode := fun _ => .region [] [⟨(some 7), .fa (.tmp 1) 1, none, []⟩,
    ⟨(some 8), .ld (.tmp 7) 6 true, none, []⟩,
    ⟨(some 9), .call 96 [(.tmp 8)], none, []⟩,
    ⟨(some 10), .fa (.tmp 3) 1, none, []⟩,
    ⟨none, .sto (.tmp 10) (.tmp 9) 6, none, []⟩] [2, 3]
def m_laws_toEntry_5 : Unit → MCode := fun _ => .region [] [⟨(some 11), .ld (.tmp 3) 7 true, none, []⟩,
    ⟨none, .sto (.tmp 2) (.tmp 11) 7, none, []⟩] [2]
def m_laws_toEntry_6 : Unit → MCode := fun _ => .seq m_laws_toEntry_5 (fun _ => .ret)
def m_laws_toEntry_7 : Unit → MCode := fun _ => .seq m_laws_toEntry_4 m_laws_toEntry_6
def m_laws_toEntry_8 : Unit → MCode := fun _ => .seq m_laws_toEntry_3 m_laws_toEntry_7
def m_laws_toEntry_9 : Unit → MCode := fun _ => .seq m_laws_toEntry_2 m_laws_toEntry_8
def m_laws_toEntry_10 : Unit → MCode := fun _ => .seq m_laws_toEntry_1 m_laws_toEntry_9
def m_laws_toEntry : MCode := m_laws_toEntry_10 ()
def h_laws_toEntry : Hints := [(0, [1, 2], [], [], []), (1, [1, 2, 3], [], [], []), (2, [1, 2, 3], [], [], []), (3, [2, 3], [], [], []), (4, [2], [], [], [])]
def r_laws_toEntry : List RV := [.c 2 7 true]
abbrev n_laws_toEntry : Nat := 54
theorem k_laws_toEntry : Known Pr mu n_laws_toEntry m_laws_toEntry r_laws_toEntry Go.Proofs.Try.f54.ntmps := .of h_laws_toEntry hm Go.Proofs.Try.func54 (by kernel_rfl) (by kernel_rfl) (by kernel_rfl) (by kernel_rfl)
def m_laws_eqServer_1 : Unit → MCode := fun _ => .region [] [⟨(some 2), .box (.tmp 0), none, []⟩,
    ⟨(some 3), .box (.tmp 1), none, []⟩,
    ⟨(some 4), .mv (.const (.bool false)), none, []⟩] [2, 3]
def m_laws_eqServer_2 : Unit → MCode := fun _ => .region [] [⟨(some 5), .fa (.tmp 2) 0, none, []⟩,
    ⟨(some 6), .ld (.tmp 5) 1 false, none, []⟩,
    ⟨(some 7), .fa (.tmp 3) 0, none, []⟩,
    ⟨(some 8), .ld (.tmp 7) 1 false, none, []⟩,
    ⟨(some 9), .bbin .neq (.tmp 6) (.tmp 8), none, []⟩] [2, 3, 9]
def m_laws_eqServer_3 : Unit → MCode := fun _ => .region [] [⟨(some 4), .mv (.const (.bool false)), none, []⟩] [4]
def m_laws_eqServer_4 : Unit → MCode := fun _ => .seq m_laws_eqServer_3 (fun _ => .ret)
def m_laws_eqServer_5 : Unit → MCode := fun _ => .cond (.tmp 9) m_laws_eqServer_4 (fun _ => .skip)
def m_laws_eqServer_6 : Unit → MCode := fun _ => .seq m_laws_eqServer_2 m_laws_eqServer_5
def m_laws_eqServer_7 : Unit → MCode := fun _ => .region [] [⟨(some 10), .fa (.tmp 2) 1, none, []⟩,
    ⟨(some 11), .ld (.tmp 10) 1 false, none, []⟩,
    ⟨(some 12), .fa (.tmp 3) 1, none, []⟩,
    ⟨(some 13), .ld (.tmp 12) 1 false, none, []⟩,
    ⟨(some 14), .bbin .neq (.tmp 11) (.tmp 13), none, []⟩] [2, 3, 14]
def m_laws_eqServer_8 : Unit → MCode := fun _ => .region [] [⟨(some 4), .mv (.const (.bool false)), none, []⟩] [4]
def m_laws_eqServer_9 : Unit → MCode := fun _ => .seq m_laws_eqServer_8 (fun _ => .ret)
def m_laws_eqServer_10 : Unit → MCode := fun _ => .cond (.tmp 14) m_laws_eqServer_9 (fun _ => .skip)
def m_laws_eqServer_11 : Unit → MCode := fun _ => .seq m_laws_eqServer_7 m_laws_eqServer_10
def m_laws_eqServer_12 : Unit → MCode := fun _ => .region [] [⟨(some 15), .fa (.tmp 2) 2, none, []⟩,
    ⟨(some 16), .ld (.tmp 15) 1 false, none, []⟩,
    ⟨(some 17), .fa (.tmp 3) 2, none, []⟩,
    ⟨(some 18), .ld (.tmp 17) 1 false, none, []⟩,
    ⟨(some 19), .bin .neq (.tmp 16) (.tmp 18), none, []⟩] [2, 3, 19]
def m_laws_eqServer_13 : Unit → MCode := fun _ => .region [] [⟨(some 4), .mv (.const (.bool false)), none, []⟩] [4]
def m_laws_eqServer_14 : Unit → MCode := fun _ => .seq m_laws_eqServer_13 (fun _ => .ret)
def m_laws_eqServer_15 : Unit → MCode := fun _ => .cond (.tmp 19) m_laws_eqServer_14 (fun _ => .skip)
def m_laws_eqServer_16 : Unit → MCode := fun _ => .seq m_laws_eqServer_12 m_laws_eqServer_15
def m_laws_eqServer_17 : Unit → MCode := fun _ => .region [] [⟨(some 20), .fa (.tmp 2) 3, none, []⟩,
    ⟨(some 21), .ld (.tmp 20) 1 false, none, []⟩,
    ⟨(some 22), .fa (.tmp 3) 3, none, []⟩,
    ⟨(some 23), .ld (.tmp 22) 1 false, none, []⟩,
    ⟨(some 24), .bin .neq (.tmp 21) (.tmp 23), none, []⟩] [2, 3, 24]
def m_laws_eqServer_18 : Unit → MCode := fun _ => .region [] [⟨(some 4), .mv (.const (.bool false)), none, []⟩] [4]
def m_laws_eqServer_19 : Unit → MCode := fun _ => .seq m_laws_eqServer_18 (fun _ => .ret)
def m_laws_eqServer_20 : Unit → MCode := fun _ => .cond (.tmp 24) m_laws_eqServer_19 (fun _ => .skip)
def m_laws_eqServer_21 : Unit → MCode := fun _ => .seq m_laws_eqServer_17 m_laws_eqServer_20
def m_laws_eqServer_22 : Unit → MCode := fun _ => .region [] [⟨(some 25), .fa (.tmp 2) 4, none, []⟩,
    ⟨(some 26), .ld (.tmp 25) 4 true, none, []⟩,
    ⟨(some 27), .fa (.tmp 3) 4, none, []⟩,
    ⟨(some 28), .ld (.tmp 27) 4 true, none, []⟩,
    ⟨(some 29), .call 28 [(.tmp 26), (.tmp 28)], none, []⟩,
    ⟨(some 30), .not (.tmp 29), none, []⟩] [2, 3, 30]
def m_laws_eqServer_23 : Unit → MCode := fun _ => .region [] [⟨(some 4), .mv (.const (.bool false)), none, []⟩] [4]
def m_laws_eqServer_24 : Unit → MCode := fun _ => .seq m_laws_eqServer_23 (fun _ => .ret)
def m_laws_eqServer_25 : Unit → MCode := fun _ => .cond (.tmp 30) m_laws_eqServer_24 (fun _ => .skip)
def m_laws_eqServer_26 : Unit → MCode := fun _ => .seq m_laws_eqServer_22 m_laws_eqServer_25
def m_laws_eqServer_27 : Unit → MCode := fun _ => .region [] [⟨(some 31), .fa (.tmp 2) 8, none, []⟩,
    ⟨(some 32), .ld (.tmp 31) 1 false, none, []⟩,
    ⟨(some 33), .fa (.tmp 3) 8, none, []⟩,
    ⟨(some 34), .ld (.tmp 33) 1 false, none, []⟩,
    ⟨(some 35), .bin .neq (.tmp 32) (.tmp 34), none, []⟩] [2, 3, 35]
def m_laws_eqServer_28 : Unit → MCode := fun _ => .region [] [⟨(some 4), .mv (.const (.bool false)), none, []⟩] [4]
def m_laws_eqServer_29 : Unit → MCode := fun _ => .seq m_laws_eqServer_28 (fun _ => .ret)
def m_laws_eqServer_30 : Unit → MCode := fun _ => .cond (.tmp 35) m_laws_eqServer_29 (fun _ => .skip)
def m_laws_eqServer_31 : Unit → MCode := fun _ => .seq m_laws_eqServer_27 m_laws_eqServer_30
def m_laws_eqServer_32 : Unit → MCode := fun _ => .region [] [⟨(some 36), .fa (.tmp 2) 9, none, []⟩,
    ⟨(some 37), .ld (.tmp 36) 1 false, none, []⟩,
    ⟨(some 38), .fa (.tmp 3) 9, none, []⟩,
    ⟨(some 39), .ld (.tmp 38) 1 false, none, []⟩,
    ⟨(some 40), .call 38 [(.tmp 37), (.tmp 39)], none, []⟩,
    ⟨(some 41), .not (.tmp 40), none, []⟩] [2, 3, 41]
def m_laws_eqServer_33 : Unit → MCode := fun _ => .region [] [⟨(some 4), .mv (.const (.bool false)), none, []⟩] [4]
def m_laws_eqServer_34 : Unit → MCode := fun _ => .seq m_laws_eqServer_33 (fun _ => .ret)
def m_laws_eqServer_35 : Unit → MCode := fun _ => .cond (.tmp 41) m_laws_eqServer_34 (fun _ => .skip)
def m_laws_eqServer_36 : Unit → MCode := fun _ => .seq m_laws_eqServer_32 m_laws_eqServer_35
def m_laws_eqServer_37 : Unit → MCode := fun _ => .region [] [⟨(some 42), .fa (.tmp 2) 10, none, []⟩,
    ⟨(some 43), .ld (.tmp 42) 1 false, none, []⟩,
    ⟨(some 44), .fa (.tmp 3) 10, none, []⟩,
    ⟨(some 45), .ld (.tmp 44) 1 false, none, []⟩,
    ⟨(some 46), .bin .neq (.tmp 43) (.tmp 45), none, []⟩] [2, 3, 46]
def m_laws_eqServer_38 : Unit → MCode := fun _ => .region [] [⟨(some 4), .mv (.const (.bool false)), none, []⟩] [4]
def m_laws_eqServer_39 : Unit → MCode := fun _ => .seq m_laws_eqServer_38 (fun _ => .ret)
def m_laws_eqServer_40 : Unit → MCode := fun _ => .cond (.tmp 46) m_laws_eqServer_39 (fun _ => .skip)
def m_laws_eqServer_41 : Unit → MCode := fun _ => .seq m_laws_eqServer_37 m_laws_eqServer_40
def m_laws_eqServer_42 : Unit → MCode := fun _ => .region [] [⟨(some 47), .fa (.tmp 2) 11, none, []⟩,
    ⟨(some 48), .ld (.tmp 47) 1 false, none, []⟩,
    ⟨(some 49), .fa (.tmp 3) 11, none, []⟩,
    ⟨(some 50), .ld (.tmp 49) 1 false, none, []⟩,
    ⟨(some 51), .call 38 [(.tmp 48), (.tmp 50)], none, []⟩,
    ⟨(some 52), .not (.tmp 51), none, []⟩] [52]
def m_laws_eqServer_43 : Unit → MCode := fun _ => .region [] [⟨(some 4), .mv (.const (.bool false)), none, []⟩] [4]
def m_laws_eqServer_44 : Unit → MCode := fun _ => .seq m_laws_eqServer_43 (fun _ => .ret)
def m_laws_eqServer_45 : Unit → MCode := fun _ => .cond (.tmp 52) m_laws_eqServer_44 (fun _ => .skip)
def m_laws_eqServer_46 : Unit → MCode := fun _ => .seq m_laws_eqServer_42 m_laws_eqServer_45
def m_laws_eqServer_47 : Unit → MCode := fun _ => .region [] [⟨(some 4), .mv (.const (.bool true)), none, []⟩] [4]
def m_laws_eqServer_48 : Unit → MCode := fun _ => .seq m_laws_eqServer_47 (fun _ => .ret)
def m_laws_eqServer_49 : Unit → MCode := fun _ => .seq m_laws_eqServer_46 m_laws_eqServer_48
def m_laws_eqServer_50 : Unit → MCode := fun _ => .seq m_laws_eqServer_41 m_laws_eqServer_49
def m_laws_eqServer_51 : Unit → MCode := fun _ => .seq m_laws_eqServer_36 m_laws_eqServer_50
def m_laws_eqServer_52 : Unit → MCode := fun _ => .seq m_laws_eqServer_31 m_laws_eqServer_51
def m_laws_eqServer_53 : Unit → MCode := fun _ => .seq m_laws_eqServer_26 m_laws_eqServer_52
def m_laws_eqServer_54 : Unit → MCode := fun _ => .seq m_laws_eqServer_21 m_laws_eqServer_53
def m_laws_eqServer_55 : Unit → MCode := fun _ => .seq m_laws_eqServer_16 m_laws_eqServer_54
def m_laws_eqServer_56 : Unit → MCode := fun _ => .seq m_laws_eqServer_11 m_laws_eqServer_55
def m_laws_eqServer_57 : Unit → MCode := fun _ => .seq m_laws_eqServer_6 m_laws_eqServer_56
def m_laws_eqServer_58 : Unit → MCode := fun _ => .seq m_laws_eqServer_1 m_laws_eqServer_57
def m_laws_eqServer : MCode := m_laws_eqServer_58 ()
def h_laws_eqServer : Hints := [(0, [2, 3], [], [], []), (1, [2, 3, 9], [], [], []), (2, [4], [], [], []), (3, [2, 3, 14], [], [], []), (4, [4], [], [], []), (5, [2, 3, 19], [], [], []), (6, [4], [], [], []), (7, [2, 3, 24], [], [], []), (8, [4], [], [], []), (9, [2, 3, 30], [], [], []), (10, [4], [], [], []), (11, [2, 3, 35], [], [], []), (12, [4], [], [], []), (13, [2, 3, 41], [], [], []), (14, [4], [], [], []), (15, [2, 3, 46], [], [], []), (16, [4], [], [], []), (17, [52], [], [], []), (18, [4], [], [], []), (19, [4], [], [], [])]
def r_laws_eqServer : List RV := [.t 4]
abbrev n_laws_eqServer : Nat := 58
theorem k_laws_eqServer : Known Pr mu n_laws_eqServer m_laws_eqServer r_laws_eqServer Go.Proofs.Try.f58.ntmps := .of h_laws_eqServer hm Go.Proofs.Try.func58 (by kernel_rfl) (by kernel_rfl) (by kernel_rfl) (by kernel_rfl)
def m_laws_szServer_1 : Unit → MCode := fun _ => .region [] [⟨(some 2), .box (.tmp 0), none, []⟩,
    ⟨(some 4), .mv (.const (.int .i64 0)), none, []⟩] [1, 2]
def m_laws_szServer_2 : Unit → MCode := fun _ => .region [] [⟨(some 5), .fa (.tmp 2) 4, none, []⟩,
    ⟨(some 6), .ld (.tmp 5) 4 true, none, []⟩,
    ⟨(some 7), .mv (.tmp 1), none, []⟩,
    ⟨(some 8), .call 24 [(.tmp 6), (.tmp 7)], none, []⟩,
    ⟨(some 1), .mv (.tmp 8), none, []⟩] [1, 2]
def m_laws_szServer_3 : Unit → MCode := fun _ => .region [] [⟨(some 9), .mv (.tmp 1), none, []⟩,
    ⟨(some 10), .bin .lss (.tmp 9) (.const (.int .i64 0)), none, []⟩] [1, 2, 10]
def m_laws_szServer_4 : Unit → MCode := fun _ => .region [] [⟨(some 4), .mv (.const (.int .i64 (-1))), none, []⟩] [4]
def m_laws_szServer_5 : Unit → MCode := fun _ => .seq m_laws_szServer_4 (fun _ => .ret)
def m_laws_szServer_6 : Unit → MCode := fun _ => .cond (.tmp 10) m_laws_szServer_5 (fun _ => .skip)
def m_laws_szServer_7 : Unit → MCode := fun _ => .seq m_laws_szServer_3 m_laws_szServer_6
def m_laws_szServer_8 : Unit → MCode := fun _ => .region [] [⟨(some 11), .fa (.tmp 2) 9, none, []⟩,
    ⟨(some 12), .ld (.tmp 11) 1 false, none, []⟩,
    ⟨(some 13), .mv (.tmp 1), none, []⟩,
    ⟨(some 14), .call 34 [(.tmp 12), (.tmp 13)], none, []⟩,
    ⟨(some 1), .mv (.tmp 14), none, []⟩] [1, 2]
def m_laws_szServer_9 : Unit → MCode := fun _ => .region [] [⟨(some 15), .mv (.tmp 1), none, []⟩,
    ⟨(some 16), .bin .lss (.tmp 15) (.const (.int .i64 0)), none, []⟩] [1, 2, 16]
def m_laws_szServer_10 : Unit → MCode := fun _ => .region [] [⟨(some 4), .mv (.const (.int .i64 (-1))), none, []⟩] [4]
def m_laws_szServer_11 : Unit → MCode := fun _ => .seq m_laws_szServer_10 (fun _ => .ret)
def m_laws_szServer_12 : Unit → MCode := fun _ => .cond (.tmp 16) m_laws_szServer_11 (fun _ => .skip)
def m_laws_szServer_13 : Unit → MCode := fun _ => .seq m_laws_szServer_9 m_laws_szServer_12
def m_laws_szServer_14 : Unit → MCode := fun _ => .region [] [⟨(some 17), .fa (.tmp 2) 11, none, []⟩,
    ⟨(some 18), .ld (.tmp 17) 1 false, none, []⟩,
    ⟨(some 19), .mv (.tmp 1), none, []⟩,
    ⟨(some 20), .call 34 [(.tmp 18), (.tmp 19)], none, []⟩,
    ⟨(some 1), .mv (.tmp 20), none, []⟩] [1]
def m_laws_szServer_15 : Unit → MCode := fun _ => .region [] [⟨(some 21), .mv (.tmp 1), none, []⟩,
    ⟨(some 22), .bin .lss (.tmp 21) (.const (.int .i64 0)), none, []⟩] [1, 22]
def m_laws_szServer_16 : Unit → MCode := fun _ => .region [] [⟨(some 4), .mv (.const (.int .i64 (-1))), none, []⟩] [4]
def m_laws_szServer_17 : Unit → MCode := fun _ => .seq m_laws_szServer_16 (fun _ => .ret)
def m_laws_szServer_18 : Unit → MCode := fun _ => .cond (.tmp 22) m_laws_szServer_17 (fun _ => .skip)
def m_laws_szServer_19 : Unit → MCode := fun _ => .seq m_laws_szServer_15 m_laws_szServer_18
def m_laws_szServer_20 : Unit → MCode := fun _ => .region [] [⟨(some 23), .mv (.tmp 1), none, []⟩,
    ⟨(some 4), .mv (.tmp 23), none, []⟩] [4]
def m_laws_szServer_21 : Unit → MCode := fun _ => .seq m_laws_szServer_20 (fun _ => .ret)
def m_laws_szServer_22 : Unit → MCode := fun _ => .seq m_laws_szServer_19 m_laws_szServer_21
def m_laws_szServer_23 : Unit → MCode := fun _ => .seq m_laws_szServer_14 m_laws_szServer_22
def m_laws_szServer_24 : Unit → MCode := fun _ => .seq m_laws_szServer_13 m_laws_szServer_23
def m_laws_szServer_25 : Unit → MCode := fun _ => .seq m_laws_szServer_8 m_laws_szServer_24
def m_laws_szServer_26 : Unit → MCode := fun _ => .seq m_laws_szServer_7 m_laws_szServer_25
def m_laws_szServer_27 : Unit → MCode := fun _ => .seq m_laws_szServer_2 m_laws_szServer_26
def m_laws_szServer_28 : Unit → MCode := fun _ => .seq m_laws_szServer_1 m_laws_szServer_27
def m_laws_szServer : MCode := m_laws_szServer_28 ()
def h_laws_szServer : Hints := [(0, [1, 2], [], [], []), (1, [1, 2], [], [], []), (2, [1, 2, 10], [], [], []), (3, [4], [], [], []), (4, [1, 2], [], [], []), (5, [1, 2, 16], [], [], []), (6, [4], [], [], []), (7, [1], [], [], []), (8, [1, 22], [], [], []), (9, [4], [], [], []), (10, [4], [], [], [])]
def r_laws_szServer : List RV := [.t 4]
abbrev n_laws_szServer : Nat := 63
theorem k_laws_szServer : Known Pr mu n_laws_szServer m_laws_szServer r_laws_szServer Go.Proofs.Try.f63.ntmps := .of h_laws_szServer hm Go.Proofs.Try.func63 (by kernel_rfl) (by kernel_rfl) (by kernel_rfl) (by kernel_rfl)
def m_spec_EqualServerStates_1 : Unit → MCode := fun _ => .region [] [⟨(some 2), .box (.tmp 0), none, []⟩,
    ⟨(some 3), .box (.tmp 1), none, []⟩,
    ⟨(some 4), .mv (.const (.bool false)), none, []⟩] [2, 3]
def m_spec_EqualServerStates_2 : Unit → MCode := fun _ => .region [] [⟨(some 5), .fa (.tmp 2) 0, none, []⟩,
    ⟨(some 6), .ld (.tmp 5) 1 false, none, []⟩,
    ⟨(some 7), .fa (.tmp 3) 0, none, []⟩,
    ⟨(some 8), .ld (.tmp 7) 1 false, none, []⟩,
    ⟨(some 9), .bbin .neq (.tmp 6) (.tmp 8), none, []⟩,
    ⟨(some 10), .mv (.tmp 9), none, []⟩,
    ⟨(some 11), .fa (.tmp 2) 1, (some (10, false)), []⟩,
    ⟨(some 12), .ld (.tmp 11) 1 false, (some (10, false)), []⟩,
    ⟨(some 13), .fa (.tmp 3) 1, (some (10, false)), []⟩,
    ⟨(some 14), .ld (.tmp 13) 1 false, (some (10, false)), []⟩,
    ⟨(some 15), .bbin .neq (.tmp 12) (.tmp 14), (some (10, false)), []⟩,
    ⟨(some 16), .pick (.tmp 10) (.const (.bool true)) (.tmp 15), none, []⟩,
    ⟨(some 17), .mv (.tmp 16), none, []⟩,
    ⟨(some 18), .fa (.tmp 2) 2, (some (17, false)), []⟩,
    ⟨(some 19), .ld (.tmp 18) 1 false, (some (17, false)), []⟩,
    ⟨(some 20), .fa (.tmp 3) 2, (some (17, false)), []⟩,
    ⟨(some 21), .ld (.tmp 20) 1 false, (some (17, false)), []⟩,
    ⟨(some 22), .bin .neq (.tmp 19) (.tmp 21), (some (17, false)), []⟩,
    ⟨(some 23), .pick (.tmp 17) (.const (.bool true)) (.tmp 22), none, []⟩,
    ⟨(some 24), .mv (.tmp 23), none, []⟩,
    ⟨(some 25), .fa (.tmp 2) 3, (some (24, false)), []⟩,
    ⟨(some 26), .ld (.tmp 25) 1 false, (some (24, false)), []⟩,
    ⟨(some 27), .fa (.tmp 3) 3, (some (24, false)), []⟩,
    ⟨(some 28), .ld (.tmp 27) 1 false, (some (24, false)), []⟩,
    ⟨(some 29), .bin .neq (.tmp 26) (.tmp 28), (some (24, false)), []⟩,
    ⟨(some 30), .pick (.tmp 24) (.const (.bool true)) (.tmp 29), none, []⟩,
    ⟨(some 31), .mv (.tmp 30), none, []⟩,
    ⟨(some 32), .fa (.tmp 2) 4, (some (31, false)), []⟩,
    ⟨(some 33), .ld (.tmp 32) 4 true, (some (31, false)), []⟩,
    ⟨(some 34), .fa (.tmp 3) 4, (some (31, false)), []⟩,
    ⟨(some 35), .ld (.tmp 34) 4 true, (some (31, false)), []⟩,
    ⟨(some 36), .call 25 [(.tmp 33), (.tmp 35)], (some (31, false)), []⟩,
    ⟨(some 37), .not (.tmp 36), (some (31, false)), []⟩,
    ⟨(some 38), .pick (.tmp 31) (.const (.bool true)) (.tmp 37), none, []⟩,
    ⟨(some 39), .mv (.tmp 38), none, []⟩,
    ⟨(some 40), .fa (.tmp 2) 8, (some (39, false)), []⟩,
    ⟨(some 41), .ld (.tmp 40) 1 false, (some (39, false)), []⟩,
    ⟨(some 42), .fa (.tmp 3) 8, (some (39, false)), []⟩,
    ⟨(some 43), .ld (.tmp 42) 1 false, (some (39, false)), []⟩,
    ⟨(some 44), .bin .neq (.tmp 41) (.tmp 43), (some (39, false)), []⟩,
    ⟨(some 45), .pick (.tmp 39) (.const (.bool true)) (.tmp 44), none, []⟩,
    ⟨(some 46), .mv (.tmp 45), none, []⟩,
    ⟨(some 47), .fa (.tmp 2) 10, (some (46, false)), []⟩,
    ⟨(some 48), .ld (.tmp 47) 1 false, (some (46, false)), []⟩,
    ⟨(some 49), .fa (.tmp 3) 10, (some (46, false)), []⟩,
    ⟨(some 50), .ld (.tmp 49) 1 false, (some (46, false)), []⟩,
    ⟨(some 51), .bin .neq (.tmp 48) (.tmp 50), (some (46, false)), []⟩,
    ⟨(some 52), .pick (.tmp 46) (.const (.bool true)) (.tmp 51), none, []⟩] [2, 3, 52]
def m_spec_EqualServerStates_3 : Unit → MCode := fun _ => .region [] [⟨(some 4), .mv (.const (.bool false)), none, []⟩] [4]
def m_spec_EqualServerStates_4 : Unit → MCode := fun _ => .seq m_spec_EqualServerStates_3 (fun _ => .ret)
def m_spec_EqualServerStates_5 : Unit → MCode := fun _ => .cond (.tmp 52) m_spec_EqualServerStates_4 (fun _ => .skip)
def m_spec_EqualServerStates_6 : Unit → MCode := fun _ => .seq m_spec_EqualServerStates_2 m_spec_EqualServerStates_5
def m_spec_EqualServerStates_7 : Unit → MCode := fun _ => .region [] [⟨(some 53), .fa (.tmp 2) 9, none, []⟩,
    ⟨(some 54), .ld (.tmp 53) 1 false, none, []⟩,
    ⟨(some 55), .len false (.tmp 54), none, []⟩,
    ⟨(some 56), .fa (.tmp 3) 9, none, []⟩,
    ⟨(some 57), .ld (.tmp 56) 1 false, none, []⟩,
    ⟨(some 58), .len false (.tmp 57), none, []⟩,
    ⟨(some 59), .bin .eql (.tmp 55) (.tmp 58), none, []⟩,
    ⟨(some 60), .mv (.tmp 59), none, []⟩,
    ⟨(some 61), .fa (.tmp 2) 9, (some (60, true)), []⟩,
    ⟨(some 62), .ld (.tmp 61) 1 false, (some (60, true)), []⟩,
    ⟨(some 63), .fa (.tmp 3) 9, (some (60, true)), []⟩,
    ⟨(some 64), .ld (.tmp 63) 1 false, (some (60, true)), []⟩,
    ⟨(some 65), .call 103 [(.tmp 62), (.tmp 64)], (some (60, true)), []⟩,
    ⟨(some 66), .pick (.tmp 60) (.tmp 65) (.const (.bool false)), none, []⟩,
    ⟨(some 67), .mv (.tmp 66), none, []⟩,
    ⟨(some 68), .fa (.tmp 2) 11, (some (67, true)), []⟩,
    ⟨(some 69), .ld (.tmp 68) 1 false, (some (67, true)), []⟩,
    ⟨(some 70), .len false (.tmp 69), (some (67, true)), []⟩,
    ⟨(some 71), .fa (.tmp 3) 11, (some (67, true)), []⟩,
    ⟨(some 72), .ld (.tmp 71) 1 false, (some (67, true)), []⟩,
    ⟨(some 73), .len false (.tmp 72), (some (67, true)), []⟩,
    ⟨(some 74), .bin .eql (.tmp 70) (.tmp 73), (some (67, true)), []⟩,
    ⟨(some 75), .pick (.tmp 67) (.tmp 74) (.const (.bool false)), none, []⟩,
    ⟨(some 76), .mv (.tmp 75), none, []⟩,
    ⟨(some 77), .fa (.tmp 2) 11, (some (76, true)), []⟩,
    ⟨(some 78), .ld (.tmp 77) 1 false, (some (76, true)), []⟩,
    ⟨(some 79), .fa (.tmp 3) 11, (some (76, true)), []⟩,
    ⟨(some 80), .ld (.tmp 79) 1 false, (some (76, true)), []⟩,
    ⟨(some 81), .call 103 [(.tmp 78), (.tmp 80)], (some (76, true)), []⟩,
    ⟨(some 82), .pick (.tmp 76) (.tmp 81) (.const (.bool false)), none, []⟩,
    ⟨(some 4), .mv (.tmp 82), none, []⟩] [4]
def m_spec_EqualServerStates_8 : Unit → MCode := fun _ => .seq m_spec_EqualServerStates_7 (fun _ => .ret)
def m_spec_EqualServerStates_9 : Unit → MCode := fun _ => .seq m_spec_EqualServerStates_6 m_spec_EqualServerStates_8
def m_spec_EqualServerStates_10 : Unit → MCode := fun _ => .seq m_spec_EqualServerStates_1 m_spec_EqualServerStates_9
def m_spec_EqualServerStates : MCode := m_spec_EqualServerStates_10 ()
def h_spec_EqualServerStates : Hints := [(0, [2, 3], [], [], []), (1, [2, 3, 52], [], [], []), (2, [4], [], [], []), (3, [4], [], [], [])]
def r_spec_EqualServerStates : List RV := [.t 4]
abbrev n_spec_EqualServerStates : Nat := 64
theorem k_spec_EqualServerStates : Known Pr mu n_spec_EqualServerStates m_spec_EqualServerStates r_spec_EqualServerStates Go.Proofs.Try.f64.ntmps := .of h_spec_EqualServerStates hm Go.Proofs.Try.func64 (by kernel_rfl) (by kernel_rfl) (by kernel_rfl) (by kernel_rfl)
def m_laws_toServer_1 : Unit → MCode := fun _ => .region [] [⟨(some 1), .box (.tmp 0), none, []⟩,
    ⟨(some 2), .alloc [.bool false, .bool false, .int .i64 0, .int .i64 0, .int .i64 0, .int .i64 0, .slice none 0 0, .slice none 0 0, .int .i64 0, .slice none 0 0, .int .i64 0, .slice none 0 0], none, []⟩] [1, 2]
def m_laws_toServer_2 : Unit → MCode := fun _ => .region [] [⟨(some 3), .alloc [.bool false, .bool false, .int .i64 0, .int .i64 0, .int .i64 0, .int .i64 0, .slice none 0 0, .slice none 0 0, .int .i64 0, .slice none 0 0, .int .i64 0, .slice none 0 0], none, []⟩] [1, 2, 3]
def m_laws_toServer_3 : Unit → MCode := fun _ => .region [] [⟨(some 4), .fa (.tmp 1) 0, none, []⟩,
    ⟨(some 5), .ld (.tmp 4) 1 false, none, []⟩,
    ⟨(some 6), .fa (.tmp 3) 0, none, []⟩,
    ⟨none, .sto (.tmp 6) (.tmp 5) 1, none, []⟩] [1, 2, 3]
def m_laws_toServer_4 : Unit → MCode := fun _ => .region [] [⟨(some 7), .fa (.tmp 1) 1, none, []⟩,
    ⟨(some 8), .ld (.tmp 7) 1 false, none, []⟩,
    ⟨(some 9), .fa (.tmp 3) 1, none, []⟩,
    ⟨none, .sto (.tmp 9) (.tmp 8) 1, none, []⟩] [1, 2, 3]
def m_laws_toServer_5 : Unit → MCode := fun _ => .region [] [⟨(some 10), .fa (.tmp 1) 2, none, []⟩,
    ⟨(some 11), .ld (.tmp 10) 1 false, none, []⟩,
    ⟨(some 12), .fa (.tmp 3) 2, none, []⟩,
    ⟨none, .sto (.tmp 12) (.tmp 11) 1, none, []⟩] [1, 2, 3]
def m_laws_toServer_6 : Unit → MCode := fun _ => .region [] [⟨(some 13), .fa (.tmp 1) 3, none, []⟩,
    ⟨(some 14), .ld (.tmp 13) 1 false, none, []⟩,
    ⟨(some 15), .fa (.tmp 3) 3, none, []⟩,
    ⟨none, .sto (.tmp 15) (.tmp 14) 1, none, []⟩] [1, 2, 3]
def m_laws_toServer_7 : Unit → MCode := fun _ => .region [] [⟨(some 16), .fa (.tmp 1) 4, none, []⟩,
    ⟨(some 17), .ld (.tmp 16) 4 true, none, []⟩,
    ⟨(some 18), .call 26 [(.tmp 17)], none, []⟩,
    ⟨(some 19), .fa (.tmp 3) 4, none, []⟩,
    ⟨none, .sto (.tmp 19) (.tmp 18) 4, none, []⟩] [1, 2, 3]
def m_laws_toServer_8 : Unit → MCode := fun _ => .region [] [⟨(some 20), .fa (.tmp 1) 8, none, []⟩,
    ⟨(some 21), .ld (.tmp 20) 1 false, none, []⟩,
    ⟨(some 22), .fa (.tmp 3) 8, none, []⟩,
    ⟨none, .sto (.tmp 22) (.tmp 21) 1, none, []⟩] [1, 2, 3]
def m_laws_toServer_9 : Unit → MCode := fun _ => .region [] [⟨(some 23), .fa (.tmp 1) 9, none, []⟩,
    ⟨(some 24), .ld (.tmp 23) 1 false, none, []⟩,
    ⟨(some 25), .call 36 [(.tmp 24)], none, []⟩,
    ⟨(some 26), .fa (.tmp 3) 9, none, []⟩,
    ⟨none, .sto (.tmp 26) (.tmp 25) 1, none, []⟩] [1, 2, 3]
def m_laws_toServer_10 : Unit → MCode := fun _ => .region [] [⟨(some 27), .fa (.tmp 1) 10, none, []⟩,
    ⟨(some 28), .ld (.tmp 27) 1 false, none, []⟩,
    ⟨(some 29), .fa (.tmp 3) 10, none, []⟩,
    ⟨none, .sto (.tmp 29) (.tmp 28) 1, none, []⟩] [1, 2, 3]
def m_laws_toServer_11 : Unit → MCode := fun _ => .region [] [⟨(some 30), .fa (.tmp 1) 11, none, []⟩,
    ⟨(some 31), .ld (.tmp 30) 1 false, none, []⟩,
    ⟨(some 32), .call 36 [(.tmp 31)], none, []⟩,
    ⟨(some 33), .fa (.tmp 3) 11, none, []⟩,
    ⟨none, .sto (.tmp 33) (.tmp 32) 1, none, []⟩] [2, 3]
def m_laws_toServer_12 : Unit → MCode := fun _ => .region [] [⟨(some 34), .ld (.tmp 3) 12 true, none, []⟩,
    ⟨none, .sto (.tmp 2) (.tmp 34) 12, none, []⟩] [2]
def m_laws_toServer_13 : Unit → MCode := fun _ => .seq m_laws_toServer_12 (fun _ => .ret)
def m_laws_toServer_14 : Unit → MCode := fun _ => .seq m_laws_toServer_11 m_laws_toServer_13
def m_laws_toServer_15 : Unit → MCode := fun _ => .seq m_laws_toServer_10 m_laws_toServer_14
def m_laws_toServer_16 : Unit → MCode := fun _ => .seq m_laws_toServer_9 m_laws_toServer_15
def m_laws_toServer_17 : Unit → MCode := fun _ => .seq m_laws_toServer_8 m_laws_toServer_16
def m_laws_toServer_18 : Unit → MCode := fun _ => .seq m_laws_toServer_7 m_laws_toServer_17
def m_laws_toServer_19 : Unit → MCode := fun _ => .seq m_laws_toServer_6 m_laws_toServer_18
def m_laws_toServer_20 : Unit → MCode := fun _ => .seq m_laws_toServer_5 m_laws_toServer_19
def m_laws_toServer_21 : Unit → MCode := fun _ => .seq m_laws_toServer_4 m_laws_toServer_20
def m_laws_toServer_22 : Unit → MCode := fun _ => .seq m_laws_toServer_3 m_laws_toServer_21
def m_laws_toServer_23 : Unit → MCode := fun _ => .seq m_laws_toServer_2 m_laws_toServer_22
def m_laws_toServer_24 : Unit → MCode := fun _ => .seq m_laws_toServer_1 m_laws_toServer_23
def m_laws_toServer : MCode := m_laws_toServer_24 ()
def h_laws_toServer : Hints := [(0, [1, 2], [], [], []), (1, [1, 2, 3], [], [], []), (2, [1, 2, 3], [], [], []), (3, [1, 2, 3], [], [], []), (4, [1, 2, 3], [], [], []), (5, [1, 2, 3], [], [], []), (6, [1, 2, 3], [], [], []), (7, [1, 2, 3], [], [], []), (8, [1, 2, 3], [], [], []), (9, [1, 2, 3], [], [], []), (10, [2, 3], [], [], []), (11, [2], [], [], [])]
def r_laws_toServer : List RV := [.c 2 12 true]
abbrev n_laws_toServer : Nat := 65
theorem k_laws_toServer : Known Pr mu n_laws_toServer m_laws_toServer r_laws_toServer Go.Proofs.Try.f65.ntmps := .of h_laws_toServer hm Go.Proofs.Try.func65 (by kernel_rfl) (by kernel_rfl) (by kernel_rfl) (by kernel_rfl)
def m_impl_EqualServerStates_1 : Unit → MCode := fun _ => .region [] [⟨(some 2), .box (.tmp 0), none, []⟩,
    ⟨(some 3), .box (.tmp 1), none, []⟩,
    ⟨(some 4), .mv (.const (.bool false)), none, []⟩] [2, 3]
def m_impl_EqualServerStates_2 : Unit → MCode := fun _ => .region [] [⟨(some 5), .fa (.tmp 2) 0, none, []⟩,
    ⟨(some 6), .ld (.tmp 5) 1 false, none, []⟩,
    ⟨(some 7), .fa (.tmp 3) 0, none, []⟩,
    ⟨(some 8), .ld (.tmp 7) 1 false, none, []⟩,
    ⟨(some 9), .bbin .eql (.tmp 6) (.tmp 8), none, []⟩,
    ⟨(some 10), .mv (.tmp 9), none, []⟩,
    ⟨(some 11), .fa (.tmp 2) 1, (some (10, true)), []⟩,
    ⟨(some 12), .ld (.tmp 11) 1 false, (some (10, true)), []⟩,
    ⟨(some 13), .fa (.tmp 3) 1, (some (10, true)), []⟩,
    ⟨(some 14), .ld (.tmp 13) 1 false, (some (10, true)), []⟩,
    ⟨(some 15), .bbin .eql (.tmp 12) (.tmp 14), (some (10, true)), []⟩,
    ⟨(some 16), .pick (.tmp 10) (.tmp 15) (.const (.bool false)), none, []⟩,
    ⟨(some 17), .mv (.tmp 16), none, []⟩,
    ⟨(some 18), .fa (.tmp 2) 2, (some (17, true)), []⟩,
    ⟨(some 19), .ld (.tmp 18) 1 false, (some (17, true)), []⟩,
    ⟨(some 20), .fa (.tmp 3) 2, (some (17, true)), []⟩,
    ⟨(some 21), .ld (.tmp 20) 1 false, (some (17, true)), []⟩,
    ⟨(some 22), .bin .eql (.tmp 19) (.tmp 21), (some (17, true)), []⟩,
    ⟨(some 23), .pick (.tmp 17) (.tmp 22) (.const (.bool false)), none, []⟩,
    ⟨(some 24), .mv (.tmp 23), none, []⟩,
    ⟨(some 25), .fa (.tmp 2) 3, (some (24, true)), []⟩,
    ⟨(some 26), .ld (.tmp 25) 1 false, (some (24, true)), []⟩,
    ⟨(some 27), .fa (.tmp 3) 3, (some (24, true)), []⟩,
    ⟨(some 28), .ld (.tmp 27) 1 false, (some (24, true)), []⟩,
    ⟨(some 29), .bin .eql (.tmp 26) (.tmp 28), (some (24, true)), []⟩,
    ⟨(some 30), .pick (.tmp 24) (.tmp 29) (.const (.bool false)), none, []⟩,
    ⟨(some 31), .mv (.tmp 30), none, []⟩,
    ⟨(some 32), .fa (.tmp 2) 4, (some (31, true)), []⟩,
    ⟨(some 33), .ld (.tmp 32) 4 true, (some (31, true)), []⟩,
    ⟨(some 34), .fa (.tmp 3) 4, (some (31, true)), []⟩,
    ⟨(some 35), .ld (.tmp 34) 4 true, (some (31, true)), []⟩,
    ⟨(some 36), .call 27 [(.tmp 33), (.tmp 35)], (some (31, true)), []⟩,
    ⟨(some 37), .pick (.tmp 31) (.tmp 36) (.const (.bool false)), none, []⟩,
    ⟨(some 38), .mv (.tmp 37), none, []⟩,
    ⟨(some 39), .fa (.tmp 2) 8, (some (38, true)), []⟩,
    ⟨(some 40), .ld (.tmp 39) 1 false, (some (38, true)), []⟩,
    ⟨(some 41), .fa (.tmp 3) 8, (some (38, true)), []⟩,
    ⟨(some 42), .ld (.tmp 41) 1 false, (some (38, true)), []⟩,
    ⟨(some 43), .bin .eql (.tmp 40) (.tmp 42), (some (38, true)), []⟩,
    ⟨(some 44), .pick (.tmp 38) (.tmp 43) (.const (.bool false)), none, []⟩,
    ⟨(some 45), .mv (.tmp 44), none, []⟩,
    ⟨(some 46), .fa (.tmp 2) 9, (some (45, true)), []⟩,
    ⟨(some 47), .ld (.tmp 46) 1 false, (some (45, true)), []⟩,
    ⟨(some 48), .fa (.tmp 3) 9, (some (45, true)), []⟩,
    ⟨(some 49), .ld (.tmp 48) 1 false, (some (45, true)), []⟩,
    ⟨(some 50), .call 102 [(.tmp 47), (.tmp 49)], (some (45, true)), []⟩,
    ⟨(some 51), .pick (.tmp 45) (.tmp 50) (.const (.bool false)), none, []⟩,
    ⟨(some 52), .mv (.tmp 51), none, []⟩,
    ⟨(some 53), .fa (.tmp 2) 10, (some (52, true)), []⟩,
    ⟨(some 54), .ld (.tmp 53) 1 false, (some (52, true)), []⟩,
    ⟨(some 55), .fa (.tmp 3) 10, (some (52, true)), []⟩,
    ⟨(some 56), .ld (.tmp 55) 1 false, (some (52, true)), []⟩,
    ⟨(some 57), .bin .eql (.tmp 54) (.tmp 56), (some (52, true)), []⟩,
    ⟨(some 58), .pick (.tmp 52) (.tmp 57) (.const (.bool false)), none, []⟩,
    ⟨(some 59), .mv (.tmp 58), none, []⟩,
    ⟨(some 60), .fa (.tmp 2) 11, (some (59, true)), []⟩,
    ⟨(some 61), .ld (.tmp 60) 1 false, (some (59, true)), []⟩,
    ⟨(some 62), .fa (.tmp 3) 11, (some (59, true)), []⟩,
    ⟨(some 63), .ld (.tmp 62) 1 false, (some (59, true)), []⟩,
    ⟨(some 64), .call 102 [(.tmp 61), (.tmp 63)], (some (59, true)), []⟩,
    ⟨(some 65), .pick (.tmp 59) (.tmp 64) (.const (.bool false)), none, []⟩,
    ⟨(some 4), .mv (.tmp 65), none, []⟩] [4]
def m_impl_EqualServerStates_3 : Unit → MCode := fun _ => .seq m_impl_EqualServerStates_2 (fun _ => .ret)
def m_impl_EqualServerStates_4 : Unit → MCode := fun _ => .seq m_impl_EqualServerStates_1 m_impl_EqualServerStates_3
def m_impl_EqualServerStates : MCode := m_impl_EqualServerStates_4 ()
def h_impl_EqualServerStates : Hints := [(0, [2, 3], [], [], []), (1, [4], [], [], [])]
def r_impl_EqualServerStates : List RV := [.t 4]
abbrev n_impl_EqualServerStates : Nat := 66
theorem k_impl_EqualServerStates : Known Pr mu n_impl_EqualServerStates m_impl_EqualServerStates r_impl_EqualServerStates Go.Proofs.Try.f66.ntmps := .of h_impl_EqualServerStates hm Go.Proofs.Try.func66 (by kernel_rfl) (by kernel_rfl) (by kernel_rfl) (by kernel_rfl)
def m_laws_szIntS_1 : Unit → MCode := fun _ => .region [] [⟨(some 4), .mv (.const (.int .i64 0)), none, []⟩] [0, 1]
def m_laws_szIntS_2 : Unit → MCode := fun _ => .region [] [⟨(some 5), .mv (.tmp 1), none, []⟩,
    ⟨(some 6), .mv (.tmp 0), none, []⟩,
    ⟨(some 7), .len false (.tmp 6), none, []⟩,
    ⟨(some 8), .bin .sub (.tmp 5) (.tmp 7), none, []⟩,
    ⟨(some 1), .mv (.tmp 8), none, []⟩] [1]
def m_laws_szIntS_3 : Unit → MCode := fun _ => .region [] [⟨(some 9), .mv (.tmp 1), none, []⟩,
    ⟨(some 10), .bin .lss (.tmp 9) (.const (.int .i64 0)), none, []⟩] [1, 10]
def m_laws_szIntS_4 : Unit → MCode := fun _ => .region [] [⟨(some 4), .mv (.const (.int .i64 (-1))), none, []⟩] [4]
def m_laws_szIntS_5 : Unit → MCode := fun _ => .seq m_laws_szIntS_4 (fun _ => .ret)
def m_laws_szIntS_6 : Unit → MCode := fun _ => .cond (.tmp 10) m_laws_szIntS_5 (fun _ => .skip)
def m_laws_szIntS_7 : Unit → MCode := fun _ => .seq m_laws_szIntS_3 m_laws_szIntS_6
def m_laws_szIntS_8 : Unit → MCode := fun _ => .region [] [⟨(some 11), .mv (.tmp 1), none, []⟩,
    ⟨(some 4), .mv (.tmp 11), none, []⟩] [4]
def m_laws_szIntS_9 : Unit → MCode := fun _ => .seq m_laws_szIntS_8 (fun _ => .ret)
def m_laws_szIntS_10 : Unit → MCode := fun _ => .seq m_laws_szIntS_7 m_laws_szIntS_9
def m_laws_szIntS_11 : Unit → MCode := fun _ => .seq m_laws_szIntS_2 m_laws_szIntS_10
def m_laws_szIntS_12 : Unit → MCode := fun _ => .seq m_laws_szIntS_1 m_laws_szIntS_11
def m_laws_szIntS : MCode := m_laws_szIntS_12 ()
def h_laws_szIntS : Hints := [(0, [0, 1], [], [], []), (1, [1], [], [], []), (2, [1, 10], [], [], []), (3, [4], [], [], []), (4, [4], [], [], [])]
def r_laws_szIntS : List RV := [.t 4]
abbrev n_laws_szIntS : Nat := 77
theorem k_laws_szIntS : Known Pr mu n_laws_szIntS m_laws_szIntS r_laws_szIntS Go.Proofs.Try.f77.ntmps := .of h_laws_szIntS hm Go.Proofs.Try.func77 (by kernel_rfl) (by kernel_rfl) (by kernel_rfl) (by kernel_rfl)
def m_spec_EqualServers_1 : Unit → MCode := fun _ => .region [] [⟨(some 4), .mv (.const (.bool false)), none, []⟩] [0, 1]
def m_spec_EqualServers_2 : Unit → MCode := fun _ => .region [] [⟨(some 6), .mv (.tmp 0), none, []⟩,
    ⟨(some 7), .len false (.tmp 6), none, []⟩,
    ⟨(some 8), .mv (.tmp 1), none, []⟩,
    ⟨(some 9), .len false (.tmp 8), none, []⟩,
    ⟨(some 10), .bin .neq (.tmp 7) (.tmp 9), none, []⟩] [0, 1, 10]
def m_spec_EqualServers_3 : Unit → MCode := fun _ => .region [] [⟨(some 4), .mv (.const (.bool false)), none, []⟩] [4]
def m_spec_EqualServers_4 : Unit → MCode := fun _ => .seq m_spec_EqualServers_3 (fun _ => .ret)
def m_spec_EqualServers_5 : Unit → MCode := fun _ => .cond (.tmp 10) m_spec_EqualServers_4 (fun _ => .skip)
def m_spec_EqualServers_6 : Unit → MCode := fun _ => .seq m_spec_EqualServers_2 m_spec_EqualServers_5
def m_spec_EqualServers_7 : Unit → MCode := fun _ => .region [] [⟨(some 5), .mv (.const (.int .i64 0)), none, []⟩] [0, 1, 5]
def m_spec_EqualServers_8 : Unit → MCode := fun _ => .region [] [⟨(some 11), .mv (.tmp 5), none, []⟩,
    ⟨(some 12), .mv (.tmp 0), none, []⟩,
    ⟨(some 13), .len false (.tmp 12), none, []⟩,
    ⟨(some 14), .bin .lss (.tmp 11) (.tmp 13), none, []⟩] [0, 1, 5, 14]
def m_spec_EqualServers_9 : Unit → MCode := fun _ => .cond (.tmp 14) (fun _ => .skip) (fun _ => .exit 0)
def m_spec_EqualServers_10 : Unit → MCode := fun _ => .seq m_spec_EqualServers_8 m_spec_EqualServers_9
def m_spec_EqualServers_11 : Unit → MCode := fun _ => .region [] [⟨(some 17), .mv (.tmp 0), none, []⟩,
    ⟨(some 18), .mv (.tmp 5), none, []⟩,
    ⟨(some 19), .ia (.tmp 17) (.tmp 18) 1, none, []⟩,
    ⟨(some 20), .ld (.tmp 19) 1 false, none, []⟩,
    ⟨(some 21), .mv (.tmp 1), none, []⟩,
    ⟨(some 22), .mv (.tmp 5), none, []⟩,
    ⟨(some 23), .ia (.tmp 21) (.tmp 22) 1, none, [0, 1, 2, 3]⟩,
    ⟨(some 24), .ld (.tmp 23) 1 false, none, [0, 1, 2, 3]⟩,
    ⟨(some 25), .bin .neq (.tmp 20) (.tmp 24), none, []⟩] [0, 1, 5, 25]
def m_spec_EqualServers_12 : Unit → MCode := fun _ => .region [] [⟨(some 4), .mv (.const (.bool false)), none, []⟩] [4]
def m_spec_EqualServers_13 : Unit → MCode := fun _ => .seq m_spec_EqualServers_12 (fun _ => .ret)
def m_spec_EqualServers_14 : Unit → MCode := fun _ => .cond (.tmp 25) m_spec_EqualServers_13 (fun _ => .skip)
def m_spec_EqualServers_15 : Unit → MCode := fun _ => .seq m_spec_EqualServers_11 m_spec_EqualServers_14
def m_spec_EqualServers_16 : Unit → MCode := fun _ => .block 1 m_spec_EqualServers_15
def m_spec_EqualServers_17 : Unit → MCode := fun _ => .region [] [⟨(some 15), .mv (.tmp 5), none, []⟩,
    ⟨(some 16), .bin .add (.tmp 15) (.const (.int .i64 1)), none, []⟩,
    ⟨(some 5), .mv (.tmp 16), none, []⟩] [0, 1, 5]
def m_spec_EqualServers_18 : Unit → MCode := fun _ => .seq m_spec_EqualServers_16 m_spec_EqualServers_17
def m_spec_EqualServers_19 : Unit → MCode := fun _ => .seq m_spec_EqualServers_10 m_spec_EqualServers_18
def m_spec_EqualServers_20 : Unit → MCode := fun _ => .loop m_spec_EqualServers_19
def m_spec_EqualServers_21 : Unit → MCode := fun _ => .block 0 m_spec_EqualServers_20
def m_spec_EqualServers_22 : Unit → MCode := fun _ => .seq m_spec_EqualServers_7 m_spec_EqualServers_21
def m_spec_EqualServers_23 : Unit → MCode := fun _ => .region [] [⟨(some 4), .mv (.const (.bool true)), none, []⟩] [4]
def m_spec_EqualServers_24 : Unit → MCode := fun _ => .seq m_spec_EqualServers_23 (fun _ => .ret)
def m_spec_EqualServers_25 : Unit → MCode := fun _ => .seq m_spec_EqualServers_22 m_spec_EqualServers_24
def m_spec_EqualServers_26 : Unit → MCode := fun _ => .seq m_spec_EqualServers_6 m_spec_EqualServers_25
def m_spec_EqualServers_27 : Unit → MCode := fun _ => .seq m_spec_EqualServers_1 m_spec_EqualServers_26
def m_spec_EqualServers : MCode := m_spec_EqualServers_27 ()
def h_spec_EqualServers : Hints := [(0, [0, 1], [], [], []), (1, [0, 1, 10], [], [], []), (2, [4], [], [], []), (3, [0, 1, 5], [], [], []), (4, [0, 1, 5, 14], [], [], []), (6, [0, 1, 5, 25], [[], [], [], [], [], [], [0, 1, 2, 3], [0, 1, 2, 3]], [], []), (7, [4], [], [], []), (5, [0, 1, 5], [], [], []), (8, [4], [], [], [])]
def r_spec_EqualServers : List RV := [.t 4]
abbrev n_spec_EqualServers : Nat := 78
theorem k_spec_EqualServers : Known Pr mu n_spec_EqualServers m_spec_EqualServers r_spec_EqualServers Go.Proofs.Try.f78.ntmps := .of h_spec_EqualServers hm Go.Proofs.Try.func78 (by kernel_rfl) (by kernel_rfl) (by kernel_rfl) (by kernel_rfl)
def m_laws_toIntS_1 : Unit → MCode := fun _ => .region [] [⟨(some 2), .mv (.const (.slice none 0 0)), none, []⟩] [0]
def m_laws_toIntS_2 : Unit → MCode := fun _ => .region [] [⟨(some 5), .mv (.tmp 0), none, []⟩,
    ⟨(some 6), .len false (.tmp 5), none, []⟩,
    ⟨(some 7), .mks 1 8 [.int .i64 0] (.tmp 6) (.tmp 6), none, []⟩,
    ⟨(some 3), .mv (.tmp 7), none, []⟩] [0, 3]
def m_laws_toIntS_3 : Unit → MCode := fun _ => .region [] [⟨(some 4), .mv (.const (.int .i64 0)), none, []⟩] [0, 3, 4]
def m_laws_toIntS_4 : Unit → MCode := fun _ => .region [] [⟨(some 8), .mv (.tmp 4), none, []⟩,
    ⟨(some 9), .mv (.tmp 0), none, []⟩,
    ⟨(some 10), .len false (.tmp 9), none, []⟩,
    ⟨(some 11), .bin .lss (.tmp 8) (.tmp 10), none, []⟩] [0, 3, 4, 11]
def m_laws_toIntS_5 : Unit → MCode := fun _ => .cond (.tmp 11) (fun _ => .skip) (fun _ => .exit 0)
def m_laws_toIntS_6 : Unit → MCode := fun _ => .seq m_laws_toIntS_4 m_laws_toIntS_5
def m_laws_toIntS_7 : Unit → MCode := fun _ => .region [] [⟨(some 14), .mv (.tmp 3), none, []⟩,
    ⟨(some 15), .mv (.tmp 4), none, []⟩,
    ⟨(some 16), .mv (.tmp 0), none, []⟩,
    ⟨(some 17), .mv (.tmp 4), none, []⟩,
    ⟨(some 18), .ia (.tmp 16) (.tmp 17) 1, none, []⟩,
    ⟨(some 19), .ld (.tmp 18) 1 false, none, []⟩,
    ⟨(some 20), .ia (.tmp 14) (.tmp 15) 1, none, []⟩,
    ⟨none, .sto (.tmp 20) (.tmp 19) 1, none, []⟩] [0, 3, 4]
def m_laws_toIntS_8 : Unit → MCode := fun _ => .block 1 m_laws_toIntS_7
def m_laws_toIntS_9 : Unit → MCode := fun _ => .region [] [⟨(some 12), .mv (.tmp 4), none, []⟩,
    ⟨(some 13), .bin .add (.tmp 12) (.const (.int .i64 1)), none, []⟩,
    ⟨(some 4), .mv (.tmp 13), none, []⟩] [0, 3, 4]
def m_laws_toIntS_10 : Unit → MCode := fun _ => .seq m_laws_toIntS_8 m_laws_toIntS_9
def m_laws_toIntS_11 : Unit → MCode := fun _ => .seq m_laws_toIntS_6 m_laws_toIntS_10
def m_laws_toIntS_12 : Unit → MCode := fun _ => .loop m_laws_toIntS_11
def m_laws_toIntS_13 : Unit → MCode := fun _ => .block 0 m_laws_toIntS_12
def m_laws_toIntS_14 : Unit → MCode := fun _ => .seq m_laws_toIntS_3 m_laws_toIntS_13
def m_laws_toIntS_15 : Unit → MCode := fun _ => .region [] [⟨(some 21), .mv (.tmp 3), none, []⟩,
    ⟨(some 2), .mv (.tmp 21), none, []⟩] [2]
def m_laws_toIntS_16 : Unit → MCode := fun _ => .seq m_laws_toIntS_15 (fun _ => .ret)
def m_laws_toIntS_17 : Unit → MCode := fun _ => .seq m_laws_toIntS_14 m_laws_toIntS_16
def m_laws_toIntS_18 : Unit → MCode := fun _ => .seq m_laws_toIntS_2 m_laws_toIntS_17
def m_laws_toIntS_19 : Unit → MCode := fun _ => .seq m_laws_toIntS_1 m_laws_toIntS_18
def m_laws_toIntS : MCode := m_laws_toIntS_19 ()
def h_laws_toIntS : Hints := [(0, [0], [], [], []), (1, [0, 3], [], [], []), (2, [0, 3, 4], [], [], []), (3, [0, 3, 4, 11], [], [], []), (5, [0, 3, 4], [], [], []), (4, [0, 3, 4], [], [], []), (6, [2], [], [], [])]
def r_laws_toIntS : List RV := [.t 2]
abbrev n_laws_toIntS : Nat := 79
theorem k_laws_toIntS : Known Pr mu n_laws_toIntS m_laws_toIntS r_laws_toIntS Go.Proofs.Try.f79.ntmps := .of h_laws_toIntS hm Go.Proofs.Try.func79 (by kernel_rfl) (by kernel_rfl) (by kernel_rfl) (by kernel_rfl)
def m_impl_EqualServers_1 : Unit → MCode := fun _ => .region [] [⟨(some 4), .mv (.const (.bool false)), none, []⟩] [0, 1]
def m_impl_EqualServers_2 : Unit → MCode := fun _ => .region [] [⟨(some 5), .mv (.tmp 0), none, []⟩,
    ⟨(some 6), .mv (.tmp 1), none, []⟩,
    ⟨(some 7), .call 108 [(.tmp 5), (.tmp 6)], none, []⟩,
    ⟨(some 4), .mv (.tmp 7), none, []⟩] [4]
def m_impl_EqualServers_3 : Unit → MCode := fun _ => .seq m_impl_EqualServers_2 (fun _ => .ret)
def m_impl_EqualServers_4 : Unit → MCode := fun _ => .seq m_impl_EqualServers_1 m_impl_EqualServers_3
def m_impl_EqualServers : MCode := m_impl_EqualServers_4 ()
def h_impl_EqualServers : Hints := [(0, [0, 1], [], [], []), (1, [4], [], [], [])]
def r_impl_EqualServers : List RV := [.t 4]
abbrev n_impl_EqualServers : Nat := 80
theorem k_impl_EqualServers : Known Pr mu n_impl_EqualServers m_impl_EqualServers r_impl_EqualServers Go.Proofs.Try.f80.ntmps := .of h_impl_EqualServers hm Go.Proofs.Try.func80 (by kernel_rfl) (by kernel_rfl) (by kernel_rfl) (by kernel_rfl)
def m_laws_eqIntS_1 : Unit → MCode := fun _ => .region [] [⟨(some 4), .mv (.const (.bool false)), none, []⟩] [0, 1]
def m_laws_eqIntS_2 : Unit → MCode := fun _ => .region [] [⟨(some 6), .mv (.tmp 0), none, []⟩,
    ⟨(some 7), .len false (.tmp 6), none, []⟩,
    ⟨(some 8), .mv (.tmp 1), none, []⟩,
    ⟨(some 9), .len false (.tmp 8), none, []⟩,
    ⟨(some 10), .bin .neq (.tmp 7) (.tmp 9), none, []⟩] [0, 1, 10]
def m_laws_eqIntS_3 : Unit → MCode := fun _ => .region [] [⟨(some 4), .mv (.const (.bool false)), none, []⟩] [4]
def m_laws_eqIntS_4 : Unit → MCode := fun _ => .seq m_laws_eqIntS_3 (fun _ => .ret)
def m_laws_eqIntS_5 : Unit → MCode := fun _ => .cond (.tmp 10) m_laws_eqIntS_4 (fun _ => .skip)
def m_laws_eqIntS_6 : Unit → MCode := fun _ => .seq m_laws_eqIntS_2 m_laws_eqIntS_5
def m_laws_eqIntS_7 : Unit → MCode := fun _ => .region [] [⟨(some 5), .mv (.const (.int .i64 0)), none, []⟩] [0, 1, 5]
def m_laws_eqIntS_8 : Unit → MCode := fun _ => .region [] [⟨(some 11), .mv (.tmp 5), none, []⟩,
    ⟨(some 12), .mv (.tmp 0), none, []⟩,
    ⟨(some 13), .len false (.tmp 12), none, []⟩,
    ⟨(some 14), .bin .lss (.tmp 11) (.tmp 13), none, []⟩] [0, 1, 5, 14]
def m_laws_eqIntS_9 : Unit → MCode := fun _ => .cond (.tmp 14) (fun _ => .skip) (fun _ => .exit 0)
def m_laws_eqIntS_10 : Unit → MCode := fun _ => .seq m_laws_eqIntS_8 m_laws_eqIntS_9
def m_laws_eqIntS_11 : Unit → MCode := fun _ => .region [] [⟨(some 17), .mv (.tmp 0), none, []⟩,
    ⟨(some 18), .mv (.tmp 5), none, []⟩,
    ⟨(some 19), .ia (.tmp 17) (.tmp 18) 1, none, []⟩,
    ⟨(some 20), .ld (.tmp 19) 1 false, none, []⟩,
    ⟨(some 21), .mv (.tmp 1), none, []⟩,
    ⟨(some 22), .mv (.tmp 5), none, []⟩,
    ⟨(some 23), .ia (.tmp 21) (.tmp 22) 1, none, [0, 1, 2, 3]⟩,
    ⟨(some 24), .ld (.tmp 23) 1 false, none, [0, 1, 2, 3]⟩,
    ⟨(some 25), .bin .neq (.tmp 20) (.tmp 24), none, []⟩] [0, 1, 5, 25]
def m_laws_eqIntS_12 : Unit → MCode := fun _ => .region [] [⟨(some 4), .mv (.const (.bool false)), none, []⟩] [4]
def m_laws_eqIntS_13 : Unit → MCode := fun _ => .seq m_laws_eqIntS_12 (fun _ => .ret)
def m_laws_eqIntS_14 : Unit → MCode := fun _ => .cond (.tmp 25) m_laws_eqIntS_13 (fun _ => .skip)
def m_laws_eqIntS_15 : Unit → MCode := fun _ => .seq m_laws_eqIntS_11 m_laws_eqIntS_14
def m_laws_eqIntS_16 : Unit → MCode := fun _ => .block 1 m_laws_eqIntS_15
def m_laws_eqIntS_17 : Unit → MCode := fun _ => .region [] [⟨(some 15), .mv (.tmp 5), none, []⟩,
    ⟨(some 16), .bin .add (.tmp 15) (.const (.int .i64 1)), none, []⟩,
    ⟨(some 5), .mv (.tmp 16), none, []⟩] [0, 1, 5]
def m_laws_eqIntS_18 : Unit → MCode := fun _ => .seq m_laws_eqIntS_16 m_laws_eqIntS_17
def m_laws_eqIntS_19 : Unit → MCode := fun _ => .seq m_laws_eqIntS_10 m_laws_eqIntS_18
def m_laws_eqIntS_20 : Unit → MCode := fun _ => .loop m_laws_eqIntS_19
def m_laws_eqIntS_21 : Unit → MCode := fun _ => .block 0 m_laws_eqIntS_20
def m_laws_eqIntS_22 : Unit → MCode := fun _ => .seq m_laws_eqIntS_7 m_laws_eqIntS_21
def m_laws_eqIntS_23 : Unit → MCode := fun _ => .region [] [⟨(some 4), .mv (.const (.bool true)), none, []⟩] [4]
def m_laws_eqIntS_24 : Unit → MCode := fun _ => .seq m_laws_eqIntS_23 (fun _ => .ret)
def m_laws_eqIntS_25 : Unit → MCode := fun _ => .seq m_laws_eqIntS_22 m_laws_eqIntS_24
def m_laws_eqIntS_26 : Unit → MCode := fun _ => .seq m_laws_eqIntS_6 m_laws_eqIntS_25
def m_laws_eqIntS_27 : Unit → MCode := fun _ => .seq m_laws_eqIntS_1 m_laws_eqIntS_26
def m_laws_eqIntS : MCode := m_laws_eqIntS_27 ()
def h_laws_eqIntS : Hints := [(0, [0, 1], [], [], []), (1, [0, 1, 10], [], [], []), (2, [4], [], [], []), (3, [0, 1, 5], [], [], []), (4, [0, 1, 5, 14], [], [], []), (6, [0, 1, 5, 25], [[], [], [], [], [], [], [0, 1, 2, 3], [0, 1, 2, 3]], [], []), (7, [4], [], [], []), (5, [0, 1, 5], [], [], []), (8, [4], [], [], [])]
def r_laws_eqIntS : List RV := [.t 4]
abbrev n_laws_eqIntS : Nat := 81
theorem k_laws_eqIntS : Known Pr mu n_laws_eqIntS m_laws_eqIntS r_laws_eqIntS Go.Proofs.Try.f81.ntmps := .of h_laws_eqIntS hm Go.Proofs.Try.func81 (by kernel_rfl) (by kernel_rfl) (by kernel_rfl) (by kernel_rfl)
def m_laws_eqEntry_1 : Unit → MCode := fun _ => .region [] [⟨(some 2), .box (.tmp 0), none, []⟩,
    ⟨(some 3), .box (.tmp 1), none, []⟩,
    ⟨(some 4), .mv (.const (.bool false)), none, []⟩] [2, 3]
def m_laws_eqEntry_2 : Unit → MCode := fun _ => .region [] [⟨(some 5), .fa (.tmp 2) 0, none, []⟩,
    ⟨(some 6), .ld (.tmp 5) 1 false, none, []⟩,
    ⟨(some 7), .fa (.tmp 3) 0, none, []⟩,
    ⟨(some 8), .ld (.tmp 7) 1 false, none, []⟩,
    ⟨(some 9), .bin .neq (.tmp 6) (.tmp 8), none, []⟩] [2, 3, 9]
def m_laws_eqEntry_3 : Unit → MCode := fun _ => .region [] [⟨(some 4), .mv (.const (.bool false)), none, []⟩] [4]
def m_laws_eqEntry_4 : Unit → MCode := fun _ => .seq m_laws_eqEntry_3 (fun _ => .ret)
def m_laws_eqEntry_5 : Unit → MCode := fun _ => .cond (.tmp 9) m_laws_eqEntry_4 (fun _ => .skip)
def m_laws_eqEntry_6 : Unit → MCode := fun _ => .seq m_laws_eqEntry_2 m_laws_eqEntry_5
def m_laws_eqEntry_7 : Unit → MCode := fun _ => .region [] [⟨(some 10), .fa (.tmp 2) 1, none, []⟩,
    ⟨(some 11), .ld (.tmp 10) 6 true, none, []⟩,
    ⟨(some 12), .fa (.tmp 3) 1, none, []⟩,
    ⟨(some 13), .ld (.tmp 12) 6 true, none, []⟩,
    ⟨(some 14), .call 109 [(.tmp 11), (.tmp 13)], none, []⟩,
    ⟨(some 15), .not (.tmp 14), none, []⟩] [15]
def m_laws_eqEntry_8 : Unit → MCode := fun _ => .region [] [⟨(some 4), .mv (.const (.bool false)), none, []⟩] [4]
def m_laws_eqEntry_9 : Unit → MCode := fun _ => .seq m_laws_eqEntry_8 (fun _ => .ret)
def m_laws_eqEntry_10 : Unit → MCode := fun _ => .cond (.tmp 15) m_laws_eqEntry_9 (fun _ => .skip)
def m_laws_eqEntry_11 : Unit → MCode := fun _ => .seq m_laws_eqEntry_7 m_laws_eqEntry_10
def m_laws_eqEntry_12 : Unit → MCode := fun _ => .region [] [⟨(some 4), .mv (.const (.bool true)), none, []⟩] [4]
def m_laws_eqEntry_13 : Unit → MCode := fun _ => .seq m_laws_eqEntry_12 (fun _ => .ret)
def m_laws_eqEntry_14 : Unit → MCode := fun _ => .seq m_laws_eqEntry_11 m_laws_eqEntry_13
def m_laws_eqEntry_15 : Unit → MCode := fun _ => .seq m_laws_eqEntry_6 m_laws_eqEntry_14
def m_laws_eqEntry_16 : Unit → MCode := fun _ => .seq m_laws_eqEntry_1 m_laws_eqEntry_15
def m_laws_eqEntry : MCode := m_laws_eqEntry_16 ()
def h_laws_eqEntry : Hints := [(0, [2, 3], [], [], []), (1, [2, 3, 9], [], [], []), (2, [4], [], [], []), (3, [15], [], [], []), (4, [4], [], [], []), (5, [4], [], [], [])]
def r_laws_eqEntry : List RV := [.t 4]
abbrev n_laws_eqEntry : Nat := 86
theorem k_laws_eqEntry : Known Pr mu n_laws_eqEntry m_laws_eqEntry r_laws_eqEntry Go.Proofs.Try.f86.ntmps := .of h_laws_eqEntry hm Go.Proofs.Try.func86 (by kernel_rfl) (by kernel_rfl) (by kernel_rfl) (by kernel_rfl)
def m_laws_toOp_1 : Unit → MCode := fun _ => .region [] [⟨(some 1), .box (.tmp 0), none, []⟩,
    ⟨(some 2), .alloc [.int .i64 0, .int .i64 0, .int .i64 0, .int .i64 0, .int .i64 0, .int .i64 0], none, []⟩] [1, 2]
def m_laws_toOp_2 : Unit → MCode := fun _ => .region [] [⟨(some 3), .alloc [.int .i64 0, .int .i64 0, .int .i64 0, .int .i64 0, .int .i64 0, .int .i64 0], none, []⟩] [1, 2, 3]
def m_laws_toOp_3 : Unit → MCode := fun _ => .region [] [⟨(some 4), .fa (.tmp 1) 0, none, []⟩,
    ⟨(some 5), .ld (.tmp 4) 1 false, none, []⟩,
    ⟨(some 6), .fa (.tmp 3) 0, none, []⟩,
    ⟨none, .sto (.tmp 6) (.tmp 5) 1, none, []⟩] [1, 2, 3]
def m_laws_toOp_4 : Unit → MCode := fun _ => .region [] [⟨(some 7), .fa (.tmp 1) 1, none, []⟩,
    ⟨(some 8), .ld (.tmp 7) 1 false, none, []⟩,
    ⟨(some 9), .fa (.tmp 3) 1, none, []⟩,
    ⟨none, .sto (.tmp 9) (.tmp 8) 1, none, []⟩] [1, 2, 3]
def m_laws_toOp_5 : Unit → MCode := fun _ => .region [] [⟨(some 10), .fa (.tmp 1) 2, none, []⟩,
    ⟨(some 11), .ld (.tmp 10) 1 false, none, []⟩,
    ⟨(some 12), .fa (.tmp 3) 2, none, []⟩,
    ⟨none, .sto (.tmp 12) (.tmp 11) 1, none, []⟩] [1, 2, 3]
def m_laws_toOp_6 : Unit → MCode := fun _ => .region [] [⟨(some 13), .fa (.tmp 1) 3, none, []⟩,
    ⟨(some 14), .ld (.tmp 13) 1 false, none, []⟩,
    ⟨(some 15), .fa (.tmp 3) 3, none, []⟩,
    ⟨none, .sto (.tmp 15) (.tmp 14) 1, none, []⟩] [1, 2, 3]
def m_laws_toOp_7 : Unit → MCode := fun _ => .region [] [⟨(some 16), .fa (.tmp 1) 4, none, []⟩,
    ⟨(some 17), .ld (.tmp 16) 1 false, none, []⟩,
    ⟨(some 18), .fa (.tmp 3) 4, none, []⟩,
    ⟨none, .sto (.tmp 18) (.tmp 17) 1, none, []⟩] [1, 2, 3]
def m_laws_toOp_8 : Unit → MCode := fun _ => .region [] [⟨(some 19), .fa (.tmp 1) 5, none, []⟩,
    ⟨(some 20), .ld (.tmp 19) 1 false, none, []⟩,
    ⟨(some 21), .fa (.tmp 3) 5, none, []⟩,
    ⟨none, .sto (.tmp 21) (.tmp 20) 1, none, []⟩] [2, 3]
def m_laws_toOp_9 : Unit → MCode := fun _ => .region [] [⟨(some 22), .ld (.tmp 3) 6 true, none, []⟩,
    ⟨none, .sto (.tmp 2) (.tmp 22) 6, none, []⟩] [2]
def m_laws_toOp_10 : Unit → MCode := fun _ => .seq m_laws_toOp_9 (fun _ => .ret)
def m_laws_toOp_11 : Unit → MCode := fun _ => .seq m_laws_toOp_8 m_laws_toOp_10
def m_laws_toOp_12 : Unit → MCode := fun _ => .seq m_laws_toOp_7 m_laws_toOp_11
def m_laws_toOp_13 : Unit → MCode := fun _ => .seq m_laws_toOp_6 m_laws_toOp_12
def m_laws_toOp_14 : Unit → MCode := fun _ => .seq m_laws_toOp_5 m_laws_toOp_13
def m_laws_toOp_15 : Unit → MCode := fun _ => .seq m_laws_toOp_4 m_laws_toOp_14
def m_laws_toOp_16 : Unit → MCode := fun _ => .seq m_laws_toOp_3 m_laws_toOp_15
def m_laws_toOp_17 : Unit → MCode := fun _ => .seq m_laws_toOp_2 m_laws_toOp_16
def m_laws_toOp_18 : Unit → MCode := fun _ => .seq m_laws_toOp_1 m_laws_toOp_17
def m_laws_toOp : MCode := m_laws_toOp_18 ()
def h_laws_toOp : Hints := [(0, [1, 2], [], [], []), (1, [1, 2, 3], [], [], []), (2, [1, 2, 3], [], [], []), (3, [1, 2, 3], [], [], []), (4, [1, 2, 3], [], [], []), (5, [1, 2, 3], [], [], []), (6, [1, 2, 3], [], [], []), (7, [2, 3], [], [], []), (8, [2], [], [], [])]
def r_laws_toOp : List RV := [.c 2 6 true]
abbrev n_laws_toOp : Nat := 96
theorem k_laws_toOp : Known Pr mu n_laws_toOp m_laws_toOp r_laws_toOp Go.Proofs.Try.f96.ntmps := .of h_laws_toOp hm Go.Proofs.Try.func96 (by kernel_rfl) (by kernel_rfl) (by kernel_rfl) (by kernel_rfl)
def m_spec_CommonPrefix_1 : Unit → MCode := fun _ => .region [] [⟨(some 4), .mv (.const (.int .i64 0)), none, []⟩] [0, 1]
def m_spec_CommonPrefix_2 : Unit → MCode := fun _ => .region [] [⟨(some 5), .mv (.const (.int .i64 0)), none, []⟩] [0, 1, 5]
def m_spec_CommonPrefix_3 : Unit → MCode := fun _ => .region [] [⟨(some 6), .mv (.tmp 5), none, []⟩,
    ⟨(some 7), .mv (.tmp 0), none, []⟩,
    ⟨(some 8), .len false (.tmp 7), none, []⟩,
    ⟨(some 9), .bin .lss (.tmp 6) (.tmp 8), none, []⟩,
    ⟨(some 10), .mv (.tmp 9), none, []⟩,
    ⟨(some 11), .mv (.tmp 5), (some (10, true)), []⟩,
    ⟨(some 12), .mv (.tmp 1), (some (10, true)), []⟩,
    ⟨(some 13), .len false (.tmp 12), (some (10, true)), []⟩,
    ⟨(some 14), .bin .lss (.tmp 11) (.tmp 13), (some (10, true)), []⟩,
    ⟨(some 15), .pick (.tmp 10) (.tmp 14) (.const (.bool false)), none, []⟩,
    ⟨(some 16), .mv (.tmp 15), none, []⟩,
    ⟨(some 17), .mv (.tmp 0), (some (16, true)), []⟩,
    ⟨(some 18), .mv (.tmp 5), (some (16, true)), []⟩,
    ⟨(some 19), .ia (.tmp 17) (.tmp 18) 7, (some (16, true)), []⟩,
    ⟨(some 20), .ld (.tmp 19) 7 true, (some (16, true)), []⟩,
    ⟨(some 21), .mv (.tmp 1), (some (16, true)), []⟩,
    ⟨(some 22), .mv (.tmp 5), (some (16, true)), []⟩,
    ⟨(some 23), .ia (.tmp 21) (.tmp 22) 7, (some (16, true)), [11, 12, 13, 14]⟩,
    ⟨(some 24), .ld (.tmp 23) 7 true, (some (16, true)), [11, 12, 13, 14]⟩,
    ⟨(some 25), .aeq false [.i, .i, .i, .i, .i, .i, .i] (.tmp 20) (.tmp 24), (some (16, true)), []⟩,
    ⟨(some 26), .pick (.tmp 16) (.tmp 25) (.const (.bool false)), none, []⟩] [0, 1, 5, 26]
def m_spec_CommonPrefix_4 : Unit → MCode := fun _ => .cond (.tmp 26) (fun _ => .skip) (fun _ => .exit 0)
def m_spec_CommonPrefix_5 : Unit → MCode := fun _ => .seq m_spec_CommonPrefix_3 m_spec_CommonPrefix_4
def m_spec_CommonPrefix_6 : Unit → MCode := fun _ => .region [] [⟨(some 27), .mv (.tmp 5), none, []⟩,
    ⟨(some 28), .bin .add (.tmp 27) (.const (.int .i64 1)), none, []⟩,
    ⟨(some 5), .mv (.tmp 28), none, []⟩] [0, 1, 5]
def m_spec_CommonPrefix_7 : Unit → MCode := fun _ => .block 1 m_spec_CommonPrefix_6
def m_spec_CommonPrefix_8 : Unit → MCode := fun _ => .seq m_spec_CommonPrefix_5 m_spec_CommonPrefix_7
def m_spec_CommonPrefix_9 : Unit → MCode := fun _ => .loop m_spec_CommonPrefix_8
def m_spec_CommonPrefix_10 : Unit → MCode := fun _ => .block 0 m_spec_CommonPrefix_9
def m_spec_CommonPrefix_11 : Unit → MCode := fun _ => .region [] [⟨(some 29), .mv (.tmp 5), none, []⟩,
    ⟨(some 4), .mv (.tmp 29), none, []⟩] [4]
def m_spec_CommonPrefix_12 : Unit → MCode := fun _ => .seq m_spec_CommonPrefix_11 (fun _ => .ret)
def m_spec_CommonPrefix_13 : Unit → MCode := fun _ => .seq m_spec_CommonPrefix_10 m_spec_CommonPrefix_12
def m_spec_CommonPrefix_14 : Unit → MCode := fun _ => .seq m_spec_CommonPrefix_2 m_spec_CommonPrefix_13
def m_spec_CommonPrefix_15 : Unit → MCode := fun _ => .seq m_spec_CommonPrefix_1 m_spec_CommonPrefix_14
def m_spec_CommonPrefix : MCode := m_spec_CommonPrefix_15 ()
def h_spec_CommonPrefix : Hints := [(0, [0, 1], [], [], []), (1, [0, 1, 5], [], [], []), (2, [0, 1, 5, 26], [[], [], [], [], [], [], [], [], [], [], [], [], [], [], [], [], [], [11, 12, 13, 14], [11, 12, 13, 14]], [], []), (3, [0, 1, 5], [], [], []), (4, [4], [], [], [])]
def r_spec_CommonPrefix : List RV := [.t 4]
abbrev n_spec_CommonPrefix : Nat := 100
theorem k_spec_CommonPrefix : Known Pr mu n_spec_CommonPrefix m_spec_CommonPrefix r_spec_CommonPrefix Go.Proofs.Try.f100.ntmps := .of h_spec_CommonPrefix hm Go.Proofs.Try.func100 (by kernel_rfl) (by kernel_rfl) (by kernel_rfl) (by kernel_rfl)
def m_slices_Equal_implEntryimplEntry_1 : Unit → MCode := fun _ => .region [] [⟨(some 4), .mv (.const (.bool false)), none, []⟩] [0, 1]
def m_slices_Equal_implEntryimplEntry_2 : Unit → MCode := fun _ => .region [] [⟨(some 6), .mv (.tmp 0), none, []⟩,
    ⟨(some 7), .len false (.tmp 6), none, []⟩,
    ⟨(some 8), .mv (.tmp 1), none, []⟩,
    ⟨(some 9), .len false (.tmp 8), none, []⟩,
    ⟨(some 10), .bin .neq (.tmp 7) (.tmp 9), none, []⟩] [0, 1, 10]
def m_slices_Equal_implEntryimplEntry_3 : Unit → MCode := fun _ => .region [] [⟨(some 4), .mv (.const (.bool false)), none, []⟩] [4]
def m_slices_Equal_implEntryimplEntry_4 : Unit → MCode := fun _ => .seq m_slices_Equal_implEntryimplEntry_3 (fun _ => .ret)
def m_slices_Equal_implEntryimplEntry_5 : Unit → MCode := fun _ => .cond (.tmp 10) m_slices_Equal_implEntryimplEntry_4 (fun _ => .skip)
def m_slices_Equal_implEntryimplEntry_6 : Unit → MCode := fun _ => .seq m_slices_Equal_implEntryimplEntry_2 m_slices_Equal_implEntryimplEntry_5
def m_slices_Equal_implEntryimplEntry_7 : Unit → MCode := fun _ => .region [] [⟨(some 11), .mv (.tmp 0), none, []⟩,
    ⟨(some 12), .len false (.tmp 11), none, []⟩,
    ⟨(some 13), .mv (.const (.int .i64 0)), none, []⟩] [0, 1, 12, 13]
def m_slices_Equal_implEntryimplEntry_8 : Unit → MCode := fun _ => .region [] [⟨(some 14), .bin .lss (.tmp 13) (.tmp 12), none, []⟩] [0, 1, 12, 13, 14]
def m_slices_Equal_implEntryimplEntry_9 : Unit → MCode := fun _ => .cond (.tmp 14) (fun _ => .skip) (fun _ => .exit 0)
def m_slices_Equal_implEntryimplEntry_10 : Unit → MCode := fun _ => .region [] [⟨(some 15), .mv (.tmp 13), none, []⟩,
    ⟨(some 5), .mv (.tmp 15), none, []⟩] [0, 1, 5, 12, 13]
def m_slices_Equal_implEntryimplEntry_11 : Unit → MCode := fun _ => .region [] [⟨(some 16), .mv (.tmp 0), none, []⟩,
    ⟨(some 17), .mv (.tmp 5), none, []⟩,
    ⟨(some 18), .ia (.tmp 16) (.tmp 17) 7, none, []⟩,
    ⟨(some 19), .ld (.tmp 18) 7 true, none, []⟩,
    ⟨(some 20), .mv (.tmp 1), none, []⟩,
    ⟨(some 21), .mv (.tmp 5), none, []⟩,
    ⟨(some 22), .ia (.tmp 20) (.tmp 21) 7, none, [0, 1, 2, 3]⟩,
    ⟨(some 23), .ld (.tmp 22) 7 true, none, [0, 1, 2, 3]⟩,
    ⟨(some 24), .aeq true [.i, .i, .i, .i, .i, .i, .i] (.tmp 19) (.tmp 23), none, []⟩] [0, 1, 12, 13, 24]
def m_slices_Equal_implEntryimplEntry_12 : Unit → MCode := fun _ => .region [] [⟨(some 4), .mv (.const (.bool false)), none, []⟩] [4]
def m_slices_Equal_implEntryimplEntry_13 : Unit → MCode := fun _ => .seq m_slices_Equal_implEntryimplEntry_12 (fun _ => .ret)
def m_slices_Equal_implEntryimplEntry_14 : Unit → MCode := fun _ => .cond (.tmp 24) m_slices_Equal_implEntryimplEntry_13 (fun _ => .skip)
def m_slices_Equal_implEntryimplEntry_15 : Unit → MCode := fun _ => .seq m_slices_Equal_implEntryimplEntry_11 m_slices_Equal_implEntryimplEntry_14
def m_slices_Equal_implEntryimplEntry_16 : Unit → MCode := fun _ => .seq m_slices_Equal_implEntryimplEntry_10 m_slices_Equal_implEntryimplEntry_15
def m_slices_Equal_implEntryimplEntry_17 : Unit → MCode := fun _ => .block 1 m_slices_Equal_implEntryimplEntry_16
def m_slices_Equal_implEntryimplEntry_18 : Unit → MCode := fun _ => .region [] [⟨(some 25), .bin .add (.tmp 13) (.const (.int .i64 1)), none, []⟩,
    ⟨(some 13), .mv (.tmp 25), none, []⟩] [0, 1, 12, 13]
def m_slices_Equal_implEntryimplEntry_19 : Unit → MCode := fun _ => .seq m_slices_Equal_implEntryimplEntry_17 m_slices_Equal_implEntryimplEntry_18
def m_slices_Equal_implEntryimplEntry_20 : Unit → MCode := fun _ => .seq m_slices_Equal_implEntryimplEntry_9 m_slices_Equal_implEntryimplEntry_19
def m_slices_Equal_implEntryimplEntry_21 : Unit → MCode := fun _ => .seq m_slices_Equal_implEntryimplEntry_8 m_slices_Equal_implEntryimplEntry_20
def m_slices_Equal_implEntryimplEntry_22 : Unit → MCode := fun _ => .loop m_slices_Equal_implEntryimplEntry_21
def m_slices_Equal_implEntryimplEntry_23 : Unit → MCode := fun _ => .block 0 m_slices_Equal_implEntryimplEntry_22
def m_slices_Equal_implEntryimplEntry_24 : Unit → MCode := fun _ => .seq m_slices_Equal_implEntryimplEntry_7 m_slices_Equal_implEntryimplEntry_23
def m_slices_Equal_implEntryimplEntry_25 : Unit → MCode := fun _ => .region [] [⟨(some 4), .mv (.const (.bool true)), none, []⟩] [4]
def m_slices_Equal_implEntryimplEntry_26 : Unit → MCode := fun _ => .seq m_slices_Equal_implEntryimplEntry_25 (fun _ => .ret)
def m_slices_Equal_implEntryimplEntry_27 : Unit → MCode := fun _ => .seq m_slices_Equal_implEntryimplEntry_24 m_slices_Equal_implEntryimplEntry_26
def m_slices_Equal_implEntryimplEntry_28 : Unit → MCode := fun _ => .seq m_slices_Equal_implEntryimplEntry_6 m_slices_Equal_implEntryimplEntry_27
def m_slices_Equal_implEntryimplEntry_29 : Unit → MCode := fun _ => .seq m_slices_Equal_implEntryimplEntry_1 m_slices_Equal_implEntryimplEntry_28
def m_slices_Equal_implEntryimplEntry : MCode := m_slices_Equal_implEntryimplEntry_29 ()
def h_slices_Equal_implEntryimplEntry : Hints := [(0, [0, 1], [], [], []), (1, [0, 1, 10], [], [], []), (2, [4], [], [], []), (3, [0, 1, 12, 13], [], [], []), (4, [0, 1, 12, 13, 14], [], [], []), (5, [0, 1, 5, 12, 13], [], [], []), (6, [0, 1, 12, 13, 24], [[], [], [], [], [], [], [0, 1, 2, 3], [0, 1, 2, 3]], [], []), (7, [4], [], [], []), (8, [0, 1, 12, 13], [], [], []), (9, [4], [], [], [])]
def r_slices_Equal_implEntryimplEntry : List RV := [.t 4]
abbrev n_slices_Equal_implEntryimplEntry : Nat := 102
theorem k_slices_Equal_implEntryimplEntry : Known Pr mu n_slices_Equal_implEntryimplEntry m_slices_Equal_implEntryimplEntry r_slices_Equal_implEntryimplEntry Go.Proofs.Try.f102.ntmps := .of h_slices_Equal_implEntryimplEntry hm Go.Proofs.Try.func102 (by kernel_rfl) (by kernel_rfl) (by kernel_rfl) (by kernel_rfl)
def m_spec_IsPrefix_1 : Unit → MCode := fun _ => .region [] [⟨(some 4), .mv (.const (.bool false)), none, []⟩] [0, 1]
def m_spec_IsPrefix_2 : Unit → MCode := fun _ => .region [] [⟨(some 5), .mv (.tmp 0), none, []⟩,
    ⟨(some 6), .mv (.tmp 1), none, []⟩,
    ⟨(some 7), .call 100 [(.tmp 5), (.tmp 6)], none, []⟩,
    ⟨(some 8), .mv (.tmp 0), none, []⟩,
    ⟨(some 9), .len false (.tmp 8), none, []⟩,
    ⟨(some 10), .bin .eql (.tmp 7) (.tmp 9), none, []⟩,
    ⟨(some 4), .mv (.tmp 10), none, []⟩] [4]
def m_spec_IsPrefix_3 : Unit → MCode := fun _ => .seq m_spec_IsPrefix_2 (fun _ => .ret)
def m_spec_IsPrefix_4 : Unit → MCode := fun _ => .seq m_spec_IsPrefix_1 m_spec_IsPrefix_3
def m_spec_IsPrefix : MCode := m_spec_IsPrefix_4 ()
def h_spec_IsPrefix : Hints := [(0, [0, 1], [], [], []), (1, [4], [], [], [])]
def r_spec_IsPrefix : List RV := [.t 4]
abbrev n_spec_IsPrefix : Nat := 103
theorem k_spec_IsPrefix : Known Pr mu n_spec_IsPrefix m_spec_IsPrefix r_spec_IsPrefix Go.Proofs.Try.f103.ntmps := .of h_spec_IsPrefix hm Go.Proofs.Try.func103 (by kernel_rfl) (by kernel_rfl) (by kernel_rfl) (by kernel_rfl)
def m_slices_Equal_intint_1 : Unit → MCode := fun _ => .region [] [⟨(some 4), .mv (.const (.bool false)), none, []⟩] [0, 1]
def m_slices_Equal_intint_2 : Unit → MCode := fun _ => .region [] [⟨(some 6), .mv (.tmp 0), none, []⟩,
    ⟨(some 7), .len false (.tmp 6), none, []⟩,
    ⟨(some 8), .mv (.tmp 1), none, []⟩,
    ⟨(some 9), .len false (.tmp 8), none, []⟩,
    ⟨(some 10), .bin .neq (.tmp 7) (.tmp 9), none, []⟩] [0, 1, 10]
def m_slices_Equal_intint_3 : Unit → MCode := fun _ => .region [] [⟨(some 4), .mv (.const (.bool false)), none, []⟩] [4]
def m_slices_Equal_intint_4 : Unit → MCode := fun _ => .seq m_slices_Equal_intint_3 (fun _ => .ret)
def m_slices_Equal_intint_5 : Unit → MCode := fun _ => .cond (.tmp 10) m_slices_Equal_intint_4 (fun _ => .skip)
def m_slices_Equal_intint_6 : Unit → MCode := fun _ => .seq m_slices_Equal_intint_2 m_slices_Equal_intint_5
def m_slices_Equal_intint_7 : Unit → MCode := fun _ => .region [] [⟨(some 11), .mv (.tmp 0), none, []⟩,
    ⟨(some 12), .len false (.tmp 11), none, []⟩,
    ⟨(some 13), .mv (.const (.int .i64 0)), none, []⟩] [0, 1, 12, 13]
def m_slices_Equal_intint_8 : Unit → MCode := fun _ => .region [] [⟨(some 14), .bin .lss (.tmp 13) (.tmp 12), none, []⟩] [0, 1, 12, 13, 14]
def m_slices_Equal_intint_9 : Unit → MCode := fun _ => .cond (.tmp 14) (fun _ => .skip) (fun _ => .exit 0)
def m_slices_Equal_intint_10 : Unit → MCode := fun _ => .region [] [⟨(some 15), .mv (.tmp 13), none, []⟩,
    ⟨(some 5), .mv (.tmp 15), none, []⟩] [0, 1, 5, 12, 13]
def m_slices_Equal_intint_11 : Unit → MCode := fun _ => .region [] [⟨(some 16), .mv (.tmp 0), none, []⟩,
    ⟨(some 17), .mv (.tmp 5), none, []⟩,
    ⟨(some 18), .ia (.tmp 16) (.tmp 17) 1, none, []⟩,
    ⟨(some 19), .ld (.tmp 18) 1 false, none, []⟩,
    ⟨(some 20), .mv (.tmp 1), none, []⟩,
    ⟨(some 21), .mv (.tmp 5), none, []⟩,
    ⟨(some 22), .ia (.tmp 20) (.tmp 21) 1, none, [0, 1, 2, 3]⟩,
    ⟨(some 23), .ld (.tmp 22) 1 false, none, [0, 1, 2, 3]⟩,
    ⟨(some 24), .bin .neq (.tmp 19) (.tmp 23), none, []⟩] [0, 1, 12, 13, 24]
def m_slices_Equal_intint_12 : Unit → MCode := fun _ => .region [] [⟨(some 4), .mv (.const (.bool false)), none, []⟩] [4]
def m_slices_Equal_intint_13 : Unit → MCode := fun _ => .seq m_slices_Equal_intint_12 (fun _ => .ret)
def m_slices_Equal_intint_14 : Unit → MCode := fun _ => .cond (.tmp 24) m_slices_Equal_intint_13 (fun _ => .skip)
def m_slices_Equal_intint_15 : Unit → MCode := fun _ => .seq m_slices_Equal_intint_11 m_slices_Equal_intint_14
def m_slices_Equal_intint_16 : Unit → MCode := fun _ => .seq m_slices_Equal_intint_10 m_slices_Equal_intint_15
def m_slices_Equal_intint_17 : Unit → MCode := fun _ => .block 1 m_slices_Equal_intint_16
def m_slices_Equal_intint_18 : Unit → MCode := fun _ => .region [] [⟨(some 25), .bin .add (.tmp 13) (.const (.int .i64 1)), none, []⟩,
    ⟨(some 13), .mv (.tmp 25), none, []⟩] [0, 1, 12, 13]
def m_slices_Equal_intint_19 : Unit → MCode := fun _ => .seq m_slices_Equal_intint_17 m_slices_Equal_intint_18
def m_slices_Equal_intint_20 : Unit → MCode := fun _ => .seq m_slices_Equal_intint_9 m_slices_Equal_intint_19
def m_slices_Equal_intint_21 : Unit → MCode := fun _ => .seq m_slices_Equal_intint_8 m_slices_Equal_intint_20
def m_slices_Equal_intint_22 : Unit → MCode := fun _ => .loop m_slices_Equal_intint_21
def m_slices_Equal_intint_23 : Unit → MCode := fun _ => .block 0 m_slices_Equal_intint_22
def m_slices_Equal_intint_24 : Unit → MCode := fun _ => .seq m_slices_Equal_intint_7 m_slices_Equal_intint_23
def m_slices_Equal_intint_25 : Unit → MCode := fun _ => .region [] [⟨(some 4), .mv (.const (.bool true)), none, []⟩] [4]
def m_slices_Equal_intint_26 : Unit → MCode := fun _ => .seq m_slices_Equal_intint_25 (fun _ => .ret)
def m_slices_Equal_intint_27 : Unit → MCode := fun _ => .seq m_slices_Equal_intint_24 m_slices_Equal_intint_26
def m_slices_Equal_intint_28 : Unit → MCode := fun _ => .seq m_slices_Equal_intint_6 m_slices_Equal_intint_27
def m_slices_Equal_intint_29 : Unit → MCode := fun _ => .seq m_slices_Equal_intint_1 m_slices_Equal_intint_28
def m_slices_Equal_intint : MCode := m_slices_Equal_intint_29 ()
def h_slices_Equal_intint : Hints := [(0, [0, 1], [], [], []), (1, [0, 1, 10], [], [], []), (2, [4], [], [], []), (3, [0, 1, 12, 13], [], [], []), (4, [0, 1, 12, 13, 14], [], [], []), (5, [0, 1, 5, 12, 13], [], [], []), (6, [0, 1, 12, 13, 24], [[], [], [], [], [], [], [0, 1, 2, 3], [0, 1, 2, 3]], [], []), (7, [4], [], [], []), (8, [0, 1, 12, 13], [], [], []), (9, [4], [], [], [])]
def r_slices_Equal_intint : List RV := [.t 4]
abbrev n_slices_Equal_intint : Nat := 108
theorem k_slices_Equal_intint : Known Pr mu n_slices_Equal_intint m_slices_Equal_intint r_slices_Equal_intint Go.Proofs.Try.f108.ntmps := .of h_slices_Equal_intint hm Go.Proofs.Try.func108 (by kernel_rfl) (by kernel_rfl) (by kernel_rfl) (by kernel_rfl)
def m_laws_eqOp_1 : Unit → MCode := fun _ => .region [] [⟨(some 2), .box (.tmp 0), none, []⟩,
    ⟨(some 3), .box (.tmp 1), none, []⟩,
    ⟨(some 4), .mv (.const (.bool false)), none, []⟩] [2, 3]
def m_laws_eqOp_2 : Unit → MCode := fun _ => .region [] [⟨(some 5), .fa (.tmp 2) 0, none, []⟩,
    ⟨(some 6), .ld (.tmp 5) 1 false, none, []⟩,
    ⟨(some 7), .fa (.tmp 3) 0, none, []⟩,
    ⟨(some 8), .ld (.tmp 7) 1 false, none, []⟩,
    ⟨(some 9), .bin .neq (.tmp 6) (.tmp 8), none, []⟩] [2, 3, 9]
def m_laws_eqOp_3 : Unit → MCode := fun _ => .region [] [⟨(some 4), .mv (.const (.bool false)), none, []⟩] [4]
def m_laws_eqOp_4 : Unit → MCode := fun _ => .seq m_laws_eqOp_3 (fun _ => .ret)
def m_laws_eqOp_5 : Unit → MCode := fun _ => .cond (.tmp 9) m_laws_eqOp_4 (fun _ => .skip)
def m_laws_eqOp_6 : Unit → MCode := fun _ => .seq m_laws_eqOp_2 m_laws_eqOp_5
def m_laws_eqOp_7 : Unit → MCode := fun _ => .region [] [⟨(some 10), .fa (.tmp 2) 1, none, []⟩,
    ⟨(some 11), .ld (.tmp 10) 1 false, none, []⟩,
    ⟨(some 12), .fa (.tmp 3) 1, none, []⟩,
    ⟨(some 13), .ld (.tmp 12) 1 false, none, []⟩,
    ⟨(some 14), .bin .neq (.tmp 11) (.tmp 13), none, []⟩] [2, 3, 14]
def m_laws_eqOp_8 : Unit → MCode := fun _ => .region [] [⟨(some 4), .mv (.const (.bool false)), none, []⟩] [4]
def m_laws_eqOp_9 : Unit → MCode := fun _ => .seq m_laws_eqOp_8 (fun _ => .ret)
def m_laws_eqOp_10 : Unit → MCode := fun _ => .cond (.tmp 14) m_laws_eqOp_9 (fun _ => .skip)
def m_laws_eqOp_11 : Unit → MCode := fun _ => .seq m_laws_eqOp_7 m_laws_eqOp_10
def m_laws_eqOp_12 : Unit → MCode := fun _ => .region [] [⟨(some 15), .fa (.tmp 2) 2, none, []⟩,
    ⟨(some 16), .ld (.tmp 15) 1 false, none, []⟩,
    ⟨(some 17), .fa (.tmp 3) 2, none, []⟩,
    ⟨(some 18), .ld (.tmp 17) 1 false, none, []⟩,
    ⟨(some 19), .bin .neq (.tmp 16) (.tmp 18), none, []⟩] [2, 3, 19]
def m_laws_eqOp_13 : Unit → MCode := fun _ => .region [] [⟨(some 4), .mv (.const (.bool false)), none, []⟩] [4]
def m_laws_eqOp_14 : Unit → MCode := fun _ => .seq m_laws_eqOp_13 (fun _ => .ret)
def m_laws_eqOp_15 : Unit → MCode := fun _ => .cond (.tmp 19) m_laws_eqOp_14 (fun _ => .skip)
def m_laws_eqOp_16 : Unit → MCode := fun _ => .seq m_laws_eqOp_12 m_laws_eqOp_15
def m_laws_eqOp_17 : Unit → MCode := fun _ => .region [] [⟨(some 20), .fa (.tmp 2) 3, none, []⟩,
    ⟨(some 21), .ld (.tmp 20) 1 false, none, []⟩,
    ⟨(some 22), .fa (.tmp 3) 3, none, []⟩,
    ⟨(some 23), .ld (.tmp 22) 1 false, none, []⟩,
    ⟨(some 24), .bin .neq (.tmp 21) (.tmp 23), none, []⟩] [2, 3, 24]
def m_laws_eqOp_18 : Unit → MCode := fun _ => .region [] [⟨(some 4), .mv (.const (.bool false)), none, []⟩] [4]
def m_laws_eqOp_19 : Unit → MCode := fun _ => .seq m_laws_eqOp_18 (fun _ => .ret)
def m_laws_eqOp_20 : Unit → MCode := fun _ => .cond (.tmp 24) m_laws_eqOp_19 (fun _ => .skip)
def m_laws_eqOp_21 : Unit → MCode := fun _ => .seq m_laws_eqOp_17 m_laws_eqOp_20
def m_laws_eqOp_22 : Unit → MCode := fun _ => .region [] [⟨(some 25), .fa (.tmp 2) 4, none, []⟩,
    ⟨(some 26), .ld (.tmp 25) 1 false, none, []⟩,
    ⟨(some 27), .fa (.tmp 3) 4, none, []⟩,
    ⟨(some 28), .ld (.tmp 27) 1 false, none, []⟩,
    ⟨(some 29), .bin .neq (.tmp 26) (.tmp 28), none, []⟩] [2, 3, 29]
def m_laws_eqOp_23 : Unit → MCode := fun _ => .region [] [⟨(some 4), .mv (.const (.bool false)), none, []⟩] [4]
def m_laws_eqOp_24 : Unit → MCode := fun _ => .seq m_laws_eqOp_23 (fun _ => .ret)
def m_laws_eqOp_25 : Unit → MCode := fun _ => .cond (.tmp 29) m_laws_eqOp_24 (fun _ => .skip)
def m_laws_eqOp_26 : Unit → MCode := fun _ => .seq m_laws_eqOp_22 m_laws_eqOp_25
def m_laws_eqOp_27 : Unit → MCode := fun _ => .region [] [⟨(some 30), .fa (.tmp 2) 5, none, []⟩,
    ⟨(some 31), .ld (.tmp 30) 1 false, none, []⟩,
    ⟨(some 32), .fa (.tmp 3) 5, none, []⟩,
    ⟨(some 33), .ld (.tmp 32) 1 false, none, []⟩,
    ⟨(some 34), .bin .neq (.tmp 31) (.tmp 33), none, []⟩] [34]
def m_laws_eqOp_28 : Unit → MCode := fun _ => .region [] [⟨(some 4), .mv (.const (.bool false)), none, []⟩] [4]
def m_laws_eqOp_29 : Unit → MCode := fun _ => .seq m_laws_eqOp_28 (fun _ => .ret)
def m_laws_eqOp_30 : Unit → MCode := fun _ => .cond (.tmp 34) m_laws_eqOp_29 (fun _ => .skip)
def m_laws_eqOp_31 : Unit → MCode := fun _ => .seq m_laws_eqOp_27 m_laws_eqOp_30
def m_laws_eqOp_32 : Unit → MCode := fun _ => .region [] [⟨(some 4), .mv (.const (.bool true)), none, []⟩] [4]
def m_laws_eqOp_33 : Unit → MCode := fun _ => .seq m_laws_eqOp_32 (fun _ => .ret)
def m_laws_eqOp_34 : Unit → MCode := fun _ => .seq m_laws_eqOp_31 m_laws_eqOp_33
def m_laws_eqOp_35 : Unit → MCode := fun _ => .seq m_laws_eqOp_26 m_laws_eqOp_34
def m_laws_eqOp_36 : Unit → MCode := fun _ => .seq m_laws_eqOp_21 m_laws_eqOp_35
def m_laws_eqOp_37 : Unit → MCode := fun _ => .seq m_laws_eqOp_16 m_laws_eqOp_36
def m_laws_eqOp_38 : Unit → MCode := fun _ => .seq m_laws_eqOp_11 m_laws_eqOp_37
def m_laws_eqOp_39 : Unit → MCode := fun _ => .seq m_laws_eqOp_6 m_laws_eqOp_38
def m_laws_eqOp_40 : Unit → MCode := fun _ => .seq m_laws_eqOp_1 m_laws_eqOp_39
def m_laws_eqOp : MCode := m_laws_eqOp_40 ()
def h_laws_eqOp : Hints := [(0, [2, 3], [], [], []), (1, [2, 3, 9], [], [], []), (2, [4], [], [], []), (3, [2, 3, 14], [], [], []), (4, [4], [], [], []), (5, [2, 3, 19], [], [], []), (6, [4], [], [], []), (7, [2, 3, 24], [], [], []), (8, [4], [], [], []), (9, [2, 3, 29], [], [], []), (10, [4], [], [], []), (11, [34], [], [], []), (12, [4], [], [], []), (13, [4], [], [], [])]
def r_laws_eqOp : List RV := [.t 4]
abbrev n_laws_eqOp : Nat := 109
theorem k_laws_eqOp : Known Pr mu n_laws_eqOp m_laws_eqOp r_laws_eqOp Go.Proofs.Try.f109.ntmps := .of h_laws_eqOp hm Go.Proofs.Try.func109 (by kernel_rfl) (by kernel_rfl) (by kernel_rfl) (by kernel_rfl)
end Go.V.T
