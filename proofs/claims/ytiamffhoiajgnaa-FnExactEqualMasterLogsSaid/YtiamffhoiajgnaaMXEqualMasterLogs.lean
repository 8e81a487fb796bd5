/- The short code of the functions that FnExactEqualMasterLogs reaches, held against the program. Conditions: none. -/
import Derived.Test.YtiamffhoiajgnaaV4
import Derived.Test.YtiamffhoiajgnaaProg
namespace Go.V.T
open Go Go.V
noncomputable abbrev Pr := Go.Proofs.Try.prog
def mu : Nat → Bool := fun n => Nat.beq n 32 || Nat.beq n 51 || Nat.beq n 59 || Nat.beq n 82 || Nat.beq n 98
theorem hm : Pr.follows .mixedOrders = true := by kernel_rfl
def m_laws_FnExactEqualMasterLogs_1 : Unit → MCode := fun _ => .region [] [⟨(some 2), .box (.tmp 0), none, []⟩,
    ⟨(some 3), .box (.tmp 1), none, []⟩,
    ⟨(some 4), .mv (.const (.bool false)), none, []⟩] [2, 3]
def m_laws_FnExactEqualMasterLogs_2 : Unit → MCode := fun _ => .region [] [⟨(some 5), .mv (.const (.int .i64 1048576)), none, []⟩] [2, 3, 5]
def m_laws_FnExactEqualMasterLogs_3 : Unit → MCode := fun _ => .region [] [⟨(some 10), .ld (.tmp 2) 2 true, none, []⟩,
    ⟨(some 11), .mv (.tmp 5), none, []⟩,
    ⟨(some 12), .call 44 [(.tmp 10), (.tmp 11)], none, []⟩,
    ⟨(some 5), .mv (.tmp 12), none, []⟩] [2, 3, 5]
def m_laws_FnExactEqualMasterLogs_4 : Unit → MCode := fun _ => .region [] [⟨(some 13), .mv (.tmp 5), none, []⟩,
    ⟨(some 14), .bin .lss (.tmp 13) (.const (.int .i64 0)), none, []⟩] [2, 3, 5, 14]
def m_laws_FnExactEqualMasterLogs_5 : Unit → MCode := fun _ => .region [] [⟨(some 4), .mv (.const (.bool true)), none, []⟩] [4]
def m_laws_FnExactEqualMasterLogs_6 : Unit → MCode := fun _ => .seq m_laws_FnExactEqualMasterLogs_5 (fun _ => .ret)
def m_laws_FnExactEqualMasterLogs_7 : Unit → MCode := fun _ => .cond (.tmp 14) m_laws_FnExactEqualMasterLogs_6 (fun _ => .skip)
def m_laws_FnExactEqualMasterLogs_8 : Unit → MCode := fun _ => .seq m_laws_FnExactEqualMasterLogs_4 m_laws_FnExactEqualMasterLogs_7
def m_laws_FnExactEqualMasterLogs_9 : Unit → MCode := fun _ => .region [] [⟨(some 15), .ld (.tmp 3) 2 true, none, []⟩,
    ⟨(some 16), .mv (.tmp 5), none, []⟩,
    ⟨(some 17), .call 44 [(.tmp 15), (.tmp 16)], none, []⟩,
    ⟨(some 5), .mv (.tmp 17), none, []⟩] [2, 3, 5]
def m_laws_FnExactEqualMasterLogs_10 : Unit → MCode := fun _ => .region [] [⟨(some 18), .mv (.tmp 5), none, []⟩,
    ⟨(some 19), .bin .lss (.tmp 18) (.const (.int .i64 0)), none, []⟩] [2, 3, 19]
def m_laws_FnExactEqualMasterLogs_11 : Unit → MCode := fun _ => .region [] [⟨(some 4), .mv (.const (.bool true)), none, []⟩] [4]
def m_laws_FnExactEqualMasterLogs_12 : Unit → MCode := fun _ => .seq m_laws_FnExactEqualMasterLogs_11 (fun _ => .ret)
def m_laws_FnExactEqualMasterLogs_13 : Unit → MCode := fun _ => .cond (.tmp 19) m_laws_FnExactEqualMasterLogs_12 (fun _ => .skip)
def m_laws_FnExactEqualMasterLogs_14 : Unit → MCode := fun _ => .seq m_laws_FnExactEqualMasterLogs_10 m_laws_FnExactEqualMasterLogs_13
def m_laws_FnExactEqualMasterLogs_15 : Unit → MCode := fun _ => .region [] [⟨(some 20), .ld (.tmp 2) 2 true, none, []⟩,
    ⟨(some 21), .call 46 [(.tmp 20)], none, []⟩,
    ⟨(some 22), .ld (.tmp 3) 2 true, none, [0, 1]⟩,
    ⟨(some 23), .call 46 [(.tmp 22)], none, []⟩,
    ⟨(some 24), .call 45 [(.tmp 21), (.tmp 23)], none, []⟩,
    ⟨(some 6), .mv (.tmp 24), none, []⟩] [2, 3, 6]
def m_laws_FnExactEqualMasterLogs_16 : Unit → MCode := fun _ => .region [] [⟨(some 25), .ld (.tmp 2) 2 true, none, []⟩,
    ⟨(some 26), .call 46 [(.tmp 25)], none, []⟩,
    ⟨(some 7), .alloc [.slice none 0 0, .int .i64 0], none, []⟩,
    ⟨none, .sto (.tmp 7) (.tmp 26) 2, none, []⟩] [2, 3, 6, 7]
def m_laws_FnExactEqualMasterLogs_17 : Unit → MCode := fun _ => .region [] [⟨(some 27), .ld (.tmp 3) 2 true, none, []⟩,
    ⟨(some 28), .call 46 [(.tmp 27)], none, []⟩,
    ⟨(some 8), .alloc [.slice none 0 0, .int .i64 0], none, []⟩,
    ⟨none, .sto (.tmp 8) (.tmp 28) 2, none, []⟩] [2, 3, 6, 7, 8]
def m_laws_FnExactEqualMasterLogs_18 : Unit → MCode := fun _ => .region [] [⟨(some 29), .ld (.tmp 7) 2 true, none, []⟩,
    ⟨(some 30), .ld (.tmp 8) 2 true, none, []⟩,
    ⟨(some 31), .call 47 [(.tmp 29), (.tmp 30)], none, []⟩,
    ⟨(some 9), .mv (.tmp 31), none, []⟩] [2, 3, 6, 7, 8, 9]
def m_laws_FnExactEqualMasterLogs_19 : Unit → MCode := fun _ => .region [] [⟨(some 32), .mv (.tmp 9), none, []⟩,
    ⟨(some 33), .mv (.tmp 6), none, []⟩,
    ⟨(some 34), .bbin .neq (.tmp 32) (.tmp 33), none, []⟩] [2, 3, 7, 8, 34]
def m_laws_FnExactEqualMasterLogs_20 : Unit → MCode := fun _ => .region [] [⟨(some 4), .mv (.const (.bool false)), none, []⟩] [4]
def m_laws_FnExactEqualMasterLogs_21 : Unit → MCode := fun _ => .seq m_laws_FnExactEqualMasterLogs_20 (fun _ => .ret)
def m_laws_FnExactEqualMasterLogs_22 : Unit → MCode := fun _ => .cond (.tmp 34) m_laws_FnExactEqualMasterLogs_21 (fun _ => .skip)
def m_laws_FnExactEqualMasterLogs_23 : Unit → MCode := fun _ => .seq m_laws_FnExactEqualMasterLogs_19 m_laws_FnExactEqualMasterLogs_22
def m_laws_FnExactEqualMasterLogs_24 : Unit → MCode := fun _ => .region [] [⟨(some 35), .ld (.tmp 7) 2 true, none, []⟩,
    ⟨(some 36), .ld (.tmp 2) 2 true, none, [0]⟩,
    ⟨(some 37), .call 46 [(.tmp 36)], none, [0]⟩,
    ⟨(some 38), .call 48 [(.tmp 35), (.tmp 37)], none, []⟩,
    ⟨(some 39), .not (.tmp 38), none, []⟩] [3, 8, 39]
def m_laws_FnExactEqualMasterLogs_25 : Unit → MCode := fun _ => .region [] [⟨(some 4), .mv (.const (.bool false)), none, []⟩] [4]
def m_laws_FnExactEqualMasterLogs_26 : Unit → MCode := fun _ => .seq m_laws_FnExactEqualMasterLogs_25 (fun _ => .ret)
def m_laws_FnExactEqualMasterLogs_27 : Unit → MCode := fun _ => .cond (.tmp 39) m_laws_FnExactEqualMasterLogs_26 (fun _ => .skip)
def m_laws_FnExactEqualMasterLogs_28 : Unit → MCode := fun _ => .seq m_laws_FnExactEqualMasterLogs_24 m_laws_FnExactEqualMasterLogs_27
def m_laws_FnExactEqualMasterLogs_29 : Unit → MCode := fun _ => .region [] [⟨(some 40), .ld (.tmp 8) 2 true, none, []⟩,
    ⟨(some 41), .ld (.tmp 3) 2 true, none, [0]⟩,
    ⟨(some 42), .call 46 [(.tmp 41)], none, [0]⟩,
    ⟨(some 43), .call 48 [(.tmp 40), (.tmp 42)], none, []⟩,
    ⟨(some 44), .not (.tmp 43), none, []⟩] [44]
def m_laws_FnExactEqualMasterLogs_30 : Unit → MCode := fun _ => .region [] [⟨(some 4), .mv (.const (.bool false)), none, []⟩] [4]
def m_laws_FnExactEqualMasterLogs_31 : Unit → MCode := fun _ => .seq m_laws_FnExactEqualMasterLogs_30 (fun _ => .ret)
def m_laws_FnExactEqualMasterLogs_32 : Unit → MCode := fun _ => .cond (.tmp 44) m_laws_FnExactEqualMasterLogs_31 (fun _ => .skip)
def m_laws_FnExactEqualMasterLogs_33 : Unit → MCode := fun _ => .seq m_laws_FnExactEqualMasterLogs_29 m_laws_FnExactEqualMasterLogs_32
def m_laws_FnExactEqualMasterLogs_34 : Unit → MCode := fun _ => .region [] [⟨(some 4), .mv (.const (.bool true)), none, []⟩] [4]
def m_laws_FnExactEqualMasterLogs_35 : Unit → MCode := fun _ => .seq m_laws_FnExactEqualMasterLogs_34 (fun _ => .ret)
def m_laws_FnExactEqualMasterLogs_36 : Unit → MCode := fun _ => .seq m_laws_FnExactEqualMasterLogs_33 m_laws_FnExactEqualMasterLogs_35
def m_laws_FnExactEqualMasterLogs_37 : Unit → MCode := fun _ => .seq m_laws_FnExactEqualMasterLogs_28 m_laws_FnExactEqualMasterLogs_36
def m_laws_FnExactEqualMasterLogs_38 : Unit → MCode := fun _ => .seq m_laws_FnExactEqualMasterLogs_23 m_laws_FnExactEqualMasterLogs_37
def m_laws_FnExactEqualMasterLogs_39 : Unit → MCode := fun _ => .seq m_laws_FnExactEqualMasterLogs_18 m_laws_FnExactEqualMasterLogs_38
def m_laws_FnExactEqualMasterLogs_40 : Unit → MCode := fun _ => .seq m_laws_FnExactEqualMasterLogs_17 m_laws_FnExactEqualMasterLogs_39
def m_laws_FnExactEqualMasterLogs_41 : Unit → MCode := fun _ => .seq m_laws_FnExactEqualMasterLogs_16 m_laws_FnExactEqualMasterLogs_40
def m_laws_FnExactEqualMasterLogs_42 : Unit → MCode := fun _ => .seq m_laws_FnExactEqualMasterLogs_15 m_laws_FnExactEqualMasterLogs_41
def m_laws_FnExactEqualMasterLogs_43 : Unit → MCode := fun _ => .seq m_laws_FnExactEqualMasterLogs_14 m_laws_FnExactEqualMasterLogs_42
def m_laws_FnExactEqualMasterLogs_44 : Unit → MCode := fun _ => .seq m_laws_FnExactEqualMasterLogs_9 m_laws_FnExactEqualMasterLogs_43
def m_laws_FnExactEqualMasterLogs_45 : Unit → MCode := fun _ => .seq m_laws_FnExactEqualMasterLogs_8 m_laws_FnExactEqualMasterLogs_44
def m_laws_FnExactEqualMasterLogs_46 : Unit → MCode := fun _ => .seq m_laws_FnExactEqualMasterLogs_3 m_laws_FnExactEqualMasterLogs_45
def m_laws_FnExactEqualMasterLogs_47 : Unit → MCode := fun _ => .seq m_laws_FnExactEqualMasterLogs_2 m_laws_FnExactEqualMasterLogs_46
def m_laws_FnExactEqualMasterLogs_48 : Unit → MCode := fun _ => .seq m_laws_FnExactEqualMasterLogs_1 m_laws_FnExactEqualMasterLogs_47
def m_laws_FnExactEqualMasterLogs : MCode := m_laws_FnExactEqualMasterLogs_48 ()
def h_laws_FnExactEqualMasterLogs : Hints := [(0, [2, 3], [], [], []), (1, [2, 3, 5], [], [], []), (2, [2, 3, 5], [], [], []), (3, [2, 3, 5, 14], [], [], []), (4, [4], [], [], []), (5, [2, 3, 5], [], [], []), (6, [2, 3, 19], [], [], []), (7, [4], [], [], []), (8, [2, 3, 6], [[], [], [0, 1]], [], []), (9, [2, 3, 6, 7], [], [], []), (10, [2, 3, 6, 7, 8], [], [], []), (11, [2, 3, 6, 7, 8, 9], [], [], []), (12, [2, 3, 7, 8, 34], [], [], []), (13, [4], [], [], []), (14, [3, 8, 39], [[], [0], [0]], [], []), (15, [4], [], [], []), (16, [44], [[], [0], [0]], [], []), (17, [4], [], [], []), (18, [4], [], [], [])]
def r_laws_FnExactEqualMasterLogs : List RV := [.t 4]
abbrev n_laws_FnExactEqualMasterLogs : Nat := 9
theorem k_laws_FnExactEqualMasterLogs : Known Pr mu n_laws_FnExactEqualMasterLogs m_laws_FnExactEqualMasterLogs r_laws_FnExactEqualMasterLogs Go.Proofs.Try.f9.ntmps := .of h_laws_FnExactEqualMasterLogs hm Go.Proofs.Try.func9 (by kernel_rfl) (by kernel_rfl) (by kernel_rfl) (by kernel_rfl)
def m_laws_szConfig_1 : Unit → MCode := fun _ => .region [] [⟨(some 2), .box (.tmp 0), none, []⟩,
    ⟨(some 4), .mv (.const (.int .i64 0)), none, []⟩] [1, 2]
def m_laws_szConfig_2 : Unit → MCode := fun _ => .region [] [⟨(some 5), .fa (.tmp 2) 2, none, []⟩,
    ⟨(some 6), .ld (.tmp 5) 1 false, none, []⟩,
    ⟨(some 7), .mv (.tmp 1), none, []⟩,
    ⟨(some 8), .call 77 [(.tmp 6), (.tmp 7)], none, []⟩,
    ⟨(some 1), .mv (.tmp 8), none, []⟩] [1, 2]
def m_laws_szConfig_3 : Unit → MCode := fun _ => .region [] [⟨(some 9), .mv (.tmp 1), none, []⟩,
    ⟨(some 10), .bin .lss (.tmp 9) (.const (.int .i64 0)), none, []⟩] [1, 2, 10]
def m_laws_szConfig_4 : Unit → MCode := fun _ => .region [] [⟨(some 4), .mv (.const (.int .i64 (-1))), none, []⟩] [4]
def m_laws_szConfig_5 : Unit → MCode := fun _ => .seq m_laws_szConfig_4 (fun _ => .ret)
def m_laws_szConfig_6 : Unit → MCode := fun _ => .cond (.tmp 10) m_laws_szConfig_5 (fun _ => .skip)
def m_laws_szConfig_7 : Unit → MCode := fun _ => .seq m_laws_szConfig_3 m_laws_szConfig_6
def m_laws_szConfig_8 : Unit → MCode := fun _ => .region [] [⟨(some 11), .fa (.tmp 2) 3, none, []⟩,
    ⟨(some 12), .ld (.tmp 11) 1 false, none, []⟩,
    ⟨(some 13), .mv (.tmp 1), none, []⟩,
    ⟨(some 14), .call 77 [(.tmp 12), (.tmp 13)], none, []⟩,
    ⟨(some 1), .mv (.tmp 14), none, []⟩] [1]
def m_laws_szConfig_9 : Unit → MCode := fun _ => .region [] [⟨(some 15), .mv (.tmp 1), none, []⟩,
    ⟨(some 16), .bin .lss (.tmp 15) (.const (.int .i64 0)), none, []⟩] [1, 16]
def m_laws_szConfig_10 : Unit → MCode := fun _ => .region [] [⟨(some 4), .mv (.const (.int .i64 (-1))), none, []⟩] [4]
def m_laws_szConfig_11 : Unit → MCode := fun _ => .seq m_laws_szConfig_10 (fun _ => .ret)
def m_laws_szConfig_12 : Unit → MCode := fun _ => .cond (.tmp 16) m_laws_szConfig_11 (fun _ => .skip)
def m_laws_szConfig_13 : Unit → MCode := fun _ => .seq m_laws_szConfig_9 m_laws_szConfig_12
def m_laws_szConfig_14 : Unit → MCode := fun _ => .region [] [⟨(some 17), .mv (.tmp 1), none, []⟩,
    ⟨(some 4), .mv (.tmp 17), none, []⟩] [4]
def m_laws_szConfig_15 : Unit → MCode := fun _ => .seq m_laws_szConfig_14 (fun _ => .ret)
def m_laws_szConfig_16 : Unit → MCode := fun _ => .seq m_laws_szConfig_13 m_laws_szConfig_15
def m_laws_szConfig_17 : Unit → MCode := fun _ => .seq m_laws_szConfig_8 m_laws_szConfig_16
def m_laws_szConfig_18 : Unit → MCode := fun _ => .seq m_laws_szConfig_7 m_laws_szConfig_17
def m_laws_szConfig_19 : Unit → MCode := fun _ => .seq m_laws_szConfig_2 m_laws_szConfig_18
def m_laws_szConfig_20 : Unit → MCode := fun _ => .seq m_laws_szConfig_1 m_laws_szConfig_19
def m_laws_szConfig : MCode := m_laws_szConfig_20 ()
def h_laws_szConfig : Hints := [(0, [1, 2], [], [], []), (1, [1, 2], [], [], []), (2, [1, 2, 10], [], [], []), (3, [4], [], [], []), (4, [1], [], [], []), (5, [1, 16], [], [], []), (6, [4], [], [], []), (7, [4], [], [], [])]
def r_laws_szConfig : List RV := [.t 4]
abbrev n_laws_szConfig : Nat := 24
theorem k_laws_szConfig : Known Pr mu n_laws_szConfig m_laws_szConfig r_laws_szConfig Go.Proofs.Try.f24.ntmps := .of h_laws_szConfig hm Go.Proofs.Try.func24 (by kernel_rfl) (by kernel_rfl) (by kernel_rfl) (by kernel_rfl)
def m_spec_EqualConfigs_1 : Unit → MCode := fun _ => .region [] [⟨(some 2), .box (.tmp 0), none, []⟩,
    ⟨(some 3), .box (.tmp 1), none, []⟩,
    ⟨(some 4), .mv (.const (.bool false)), none, []⟩] [2, 3]
def m_spec_EqualConfigs_2 : Unit → MCode := fun _ => .region [] [⟨(some 5), .fa (.tmp 2) 0, none, []⟩,
    ⟨(some 6), .ld (.tmp 5) 1 false, none, []⟩,
    ⟨(some 7), .fa (.tmp 3) 0, none, []⟩,
    ⟨(some 8), .ld (.tmp 7) 1 false, none, []⟩,
    ⟨(some 9), .bin .eql (.tmp 6) (.tmp 8), none, []⟩,
    ⟨(some 10), .mv (.tmp 9), none, []⟩,
    ⟨(some 11), .fa (.tmp 2) 1, (some (10, true)), []⟩,
    ⟨(some 12), .ld (.tmp 11) 1 false, (some (10, true)), []⟩,
    ⟨(some 13), .fa (.tmp 3) 1, (some (10, true)), []⟩,
    ⟨(some 14), .ld (.tmp 13) 1 false, (some (10, true)), []⟩,
    ⟨(some 15), .bin .eql (.tmp 12) (.tmp 14), (some (10, true)), []⟩,
    ⟨(some 16), .pick (.tmp 10) (.tmp 15) (.const (.bool false)), none, []⟩,
    ⟨(some 17), .mv (.tmp 16), none, []⟩,
    ⟨(some 18), .fa (.tmp 2) 2, (some (17, true)), []⟩,
    ⟨(some 19), .ld (.tmp 18) 1 false, (some (17, true)), []⟩,
    ⟨(some 20), .fa (.tmp 3) 2, (some (17, true)), []⟩,
    ⟨(some 21), .ld (.tmp 20) 1 false, (some (17, true)), []⟩,
    ⟨(some 22), .call 78 [(.tmp 19), (.tmp 21)], (some (17, true)), []⟩,
    ⟨(some 23), .pick (.tmp 17) (.tmp 22) (.const (.bool false)), none, []⟩,
    ⟨(some 24), .mv (.tmp 23), none, []⟩,
    ⟨(some 25), .fa (.tmp 2) 3, (some (24, true)), []⟩,
    ⟨(some 26), .ld (.tmp 25) 1 false, (some (24, true)), []⟩,
    ⟨(some 27), .fa (.tmp 3) 3, (some (24, true)), []⟩,
    ⟨(some 28), .ld (.tmp 27) 1 false, (some (24, true)), []⟩,
    ⟨(some 29), .call 78 [(.tmp 26), (.tmp 28)], (some (24, true)), []⟩,
    ⟨(some 30), .pick (.tmp 24) (.tmp 29) (.const (.bool false)), none, []⟩,
    ⟨(some 4), .mv (.tmp 30), none, []⟩] [4]
def m_spec_EqualConfigs_3 : Unit → MCode := fun _ => .seq m_spec_EqualConfigs_2 (fun _ => .ret)
def m_spec_EqualConfigs_4 : Unit → MCode := fun _ => .seq m_spec_EqualConfigs_1 m_spec_EqualConfigs_3
def m_spec_EqualConfigs : MCode := m_spec_EqualConfigs_4 ()
def h_spec_EqualConfigs : Hints := [(0, [2, 3], [], [], []), (1, [4], [], [], [])]
def r_spec_EqualConfigs : List RV := [.t 4]
abbrev n_spec_EqualConfigs : Nat := 25
theorem k_spec_EqualConfigs : Known Pr mu n_spec_EqualConfigs m_spec_EqualConfigs r_spec_EqualConfigs Go.Proofs.Try.f25.ntmps := .of h_spec_EqualConfigs hm Go.Proofs.Try.func25 (by kernel_rfl) (by kernel_rfl) (by kernel_rfl) (by kernel_rfl)
def m_laws_toConfig_1 : Unit → MCode := fun _ => .region [] [⟨(some 1), .box (.tmp 0), none, []⟩,
    ⟨(some 2), .alloc [.int .i64 0, .int .i64 0, .slice none 0 0, .slice none 0 0], none, []⟩] [1, 2]
def m_laws_toConfig_2 : Unit → MCode := fun _ => .region [] [⟨(some 3), .alloc [.int .i64 0, .int .i64 0, .slice none 0 0, .slice none 0 0], none, []⟩] [1, 2, 3]
def m_laws_toConfig_3 : Unit → MCode := fun _ => .region [] [⟨(some 4), .fa (.tmp 1) 0, none, []⟩,
    ⟨(some 5), .ld (.tmp 4) 1 false, none, []⟩,
    ⟨(some 6), .fa (.tmp 3) 0, none, []⟩,
    ⟨none, .sto (.tmp 6) (.tmp 5) 1, none, []⟩] [1, 2, 3]
def m_laws_toConfig_4 : Unit → MCode := fun _ => .region [] [⟨(some 7), .fa (.tmp 1) 1, none, []⟩,
    ⟨(some 8), .ld (.tmp 7) 1 false, none, []⟩,
    ⟨(some 9), .fa (.tmp 3) 1, none, []⟩,
    ⟨none, .sto (.tmp 9) (.tmp 8) 1, none, []⟩] [1, 2, 3]
def m_laws_toConfig_5 : Unit → MCode := fun _ => .region [] [⟨(some 10), .fa (.tmp 1) 2, none, []⟩,
    ⟨(some 11), .ld (.tmp 10) 1 false, none, []⟩,
    ⟨(some 12), .call 79 [(.tmp 11)], none, []⟩,
    ⟨(some 13), .fa (.tmp 3) 2, none, []⟩,
    ⟨none, .sto (.tmp 13) (.tmp 12) 1, none, []⟩] [1, 2, 3]
def m_laws_toConfig_6 : Unit → MCode := fun _ => .region [] [⟨(some 14), .fa (.tmp 1) 3, none, []⟩,
    ⟨(some 15), .ld (.tmp 14) 1 false, none, []⟩,
    ⟨(some 16), .call 79 [(.tmp 15)], none, []⟩,
    ⟨(some 17), .fa (.tmp 3) 3, none, []⟩,
    ⟨none, .sto (.tmp 17) (.tmp 16) 1, none, []⟩] [2, 3]
def m_laws_toConfig_7 : Unit → MCode := fun _ => .region [] [⟨(some 18), .ld (.tmp 3) 4 true, none, []⟩,
    ⟨none, .sto (.tmp 2) (.tmp 18) 4, none, []⟩] [2]
def m_laws_toConfig_8 : Unit → MCode := fun _ => .seq m_laws_toConfig_7 (fun _ => .ret)
def m_laws_toConfig_9 : Unit → MCode := fun _ => .seq m_laws_toConfig_6 m_laws_toConfig_8
def m_laws_toConfig_10 : Unit → MCode := fun _ => .seq m_laws_toConfig_5 m_laws_toConfig_9
def m_laws_toConfig_11 : Unit → MCode := fun _ => .seq m_laws_toConfig_4 m_laws_toConfig_10
def m_laws_toConfig_12 : Unit → MCode := fun _ => .seq m_laws_toConfig_3 m_laws_toConfig_11
def m_laws_toConfig_13 : Unit → MCode := fun _ => .seq m_laws_toConfig_2 m_laws_toConfig_12
def m_laws_toConfig_14 : Unit → MCode := fun _ => .seq m_laws_toConfig_1 m_laws_toConfig_13
def m_laws_toConfig : MCode := m_laws_toConfig_14 ()
def h_laws_toConfig : Hints := [(0, [1, 2], [], [], []), (1, [1, 2, 3], [], [], []), (2, [1, 2, 3], [], [], []), (3, [1, 2, 3], [], [], []), (4, [1, 2, 3], [], [], []), (5, [2, 3], [], [], []), (6, [2], [], [], [])]
def r_laws_toConfig : List RV := [.c 2 4 true]
abbrev n_laws_toConfig : Nat := 26
theorem k_laws_toConfig : Known Pr mu n_laws_toConfig m_laws_toConfig r_laws_toConfig Go.Proofs.Try.f26.ntmps := .of h_laws_toConfig hm Go.Proofs.Try.func26 (by kernel_rfl) (by kernel_rfl) (by kernel_rfl) (by kernel_rfl)
def m_impl_EqualConfigs_1 : Unit → MCode := fun _ => .region [] [⟨(some 2), .box (.tmp 0), none, []⟩,
    ⟨(some 3), .box (.tmp 1), none, []⟩,
    ⟨(some 4), .mv (.const (.bool false)), none, []⟩] [2, 3]
def m_impl_EqualConfigs_2 : Unit → MCode := fun _ => .region [] [⟨(some 5), .fa (.tmp 2) 0, none, []⟩,
    ⟨(some 6), .ld (.tmp 5) 1 false, none, []⟩,
    ⟨(some 7), .fa (.tmp 3) 0, none, []⟩,
    ⟨(some 8), .ld (.tmp 7) 1 false, none, []⟩,
    ⟨(some 9), .bin .eql (.tmp 6) (.tmp 8), none, []⟩,
    ⟨(some 10), .mv (.tmp 9), none, []⟩,
    ⟨(some 11), .fa (.tmp 2) 1, (some (10, true)), []⟩,
    ⟨(some 12), .ld (.tmp 11) 1 false, (some (10, true)), []⟩,
    ⟨(some 13), .fa (.tmp 3) 1, (some (10, true)), []⟩,
    ⟨(some 14), .ld (.tmp 13) 1 false, (some (10, true)), []⟩,
    ⟨(some 15), .bin .eql (.tmp 12) (.tmp 14), (some (10, true)), []⟩,
    ⟨(some 16), .pick (.tmp 10) (.tmp 15) (.const (.bool false)), none, []⟩,
    ⟨(some 17), .mv (.tmp 16), none, []⟩,
    ⟨(some 18), .fa (.tmp 2) 2, (some (17, true)), []⟩,
    ⟨(some 19), .ld (.tmp 18) 1 false, (some (17, true)), []⟩,
    ⟨(some 20), .fa (.tmp 3) 2, (some (17, true)), []⟩,
    ⟨(some 21), .ld (.tmp 20) 1 false, (some (17, true)), []⟩,
    ⟨(some 22), .call 80 [(.tmp 19), (.tmp 21)], (some (17, true)), []⟩,
    ⟨(some 23), .pick (.tmp 17) (.tmp 22) (.const (.bool false)), none, []⟩,
    ⟨(some 24), .mv (.tmp 23), none, []⟩,
    ⟨(some 25), .fa (.tmp 2) 3, (some (24, true)), []⟩,
    ⟨(some 26), .ld (.tmp 25) 1 false, (some (24, true)), []⟩,
    ⟨(some 27), .fa (.tmp 3) 3, (some (24, true)), []⟩,
    ⟨(some 28), .ld (.tmp 27) 1 false, (some (24, true)), []⟩,
    ⟨(some 29), .call 80 [(.tmp 26), (.tmp 28)], (some (24, true)), []⟩,
    ⟨(some 30), .pick (.tmp 24) (.tmp 29) (.const (.bool false)), none, []⟩,
    ⟨(some 4), .mv (.tmp 30), none, []⟩] [4]
def m_impl_EqualConfigs_3 : Unit → MCode := fun _ => .seq m_impl_EqualConfigs_2 (fun _ => .ret)
def m_impl_EqualConfigs_4 : Unit → MCode := fun _ => .seq m_impl_EqualConfigs_1 m_impl_EqualConfigs_3
def m_impl_EqualConfigs : MCode := m_impl_EqualConfigs_4 ()
def h_impl_EqualConfigs : Hints := [(0, [2, 3], [], [], []), (1, [4], [], [], [])]
def r_impl_EqualConfigs : List RV := [.t 4]
abbrev n_impl_EqualConfigs : Nat := 27
theorem k_impl_EqualConfigs : Known Pr mu n_impl_EqualConfigs m_impl_EqualConfigs r_impl_EqualConfigs Go.Proofs.Try.f27.ntmps := .of h_impl_EqualConfigs hm Go.Proofs.Try.func27 (by kernel_rfl) (by kernel_rfl) (by kernel_rfl) (by kernel_rfl)
def m_laws_eqConfig_1 : Unit → MCode := fun _ => .region [] [⟨(some 2), .box (.tmp 0), none, []⟩,
    ⟨(some 3), .box (.tmp 1), none, []⟩,
    ⟨(some 4), .mv (.const (.bool false)), none, []⟩] [2, 3]
def m_laws_eqConfig_2 : Unit → MCode := fun _ => .region [] [⟨(some 5), .fa (.tmp 2) 0, none, []⟩,
    ⟨(some 6), .ld (.tmp 5) 1 false, none, []⟩,
    ⟨(some 7), .fa (.tmp 3) 0, none, []⟩,
    ⟨(some 8), .ld (.tmp 7) 1 false, none, []⟩,
    ⟨(some 9), .bin .neq (.tmp 6) (.tmp 8), none, []⟩] [2, 3, 9]
def m_laws_eqConfig_3 : Unit → MCode := fun _ => .region [] [⟨(some 4), .mv (.const (.bool false)), none, []⟩] [4]
def m_laws_eqConfig_4 : Unit → MCode := fun _ => .seq m_laws_eqConfig_3 (fun _ => .ret)
def m_laws_eqConfig_5 : Unit → MCode := fun _ => .cond (.tmp 9) m_laws_eqConfig_4 (fun _ => .skip)
def m_laws_eqConfig_6 : Unit → MCode := fun _ => .seq m_laws_eqConfig_2 m_laws_eqConfig_5
def m_laws_eqConfig_7 : Unit → MCode := fun _ => .region [] [⟨(some 10), .fa (.tmp 2) 1, none, []⟩,
    ⟨(some 11), .ld (.tmp 10) 1 false, none, []⟩,
    ⟨(some 12), .fa (.tmp 3) 1, none, []⟩,
    ⟨(some 13), .ld (.tmp 12) 1 false, none, []⟩,
    ⟨(some 14), .bin .neq (.tmp 11) (.tmp 13), none, []⟩] [2, 3, 14]
def m_laws_eqConfig_8 : Unit → MCode := fun _ => .region [] [⟨(some 4), .mv (.const (.bool false)), none, []⟩] [4]
def m_laws_eqConfig_9 : Unit → MCode := fun _ => .seq m_laws_eqConfig_8 (fun _ => .ret)
def m_laws_eqConfig_10 : Unit → MCode := fun _ => .cond (.tmp 14) m_laws_eqConfig_9 (fun _ => .skip)
def m_laws_eqConfig_11 : Unit → MCode := fun _ => .seq m_laws_eqConfig_7 m_laws_eqConfig_10
def m_laws_eqConfig_12 : Unit → MCode := fun _ => .region [] [⟨(some 15), .fa (.tmp 2) 2, none, []⟩,
    ⟨(some 16), .ld (.tmp 15) 1 false, none, []⟩,
    ⟨(some 17), .fa (.tmp 3) 2, none, []⟩,
    ⟨(some 18), .ld (.tmp 17) 1 false, none, []⟩,
    ⟨(some 19), .call 81 [(.tmp 16), (.tmp 18)], none, []⟩,
    ⟨(some 20), .not (.tmp 19), none, []⟩] [2, 3, 20]
def m_laws_eqConfig_13 : Unit → MCode := fun _ => .region [] [⟨(some 4), .mv (.const (.bool false)), none, []⟩] [4]
def m_laws_eqConfig_14 : Unit → MCode := fun _ => .seq m_laws_eqConfig_13 (fun _ => .ret)
def m_laws_eqConfig_15 : Unit → MCode := fun _ => .cond (.tmp 20) m_laws_eqConfig_14 (fun _ => .skip)
def m_laws_eqConfig_16 : Unit → MCode := fun _ => .seq m_laws_eqConfig_12 m_laws_eqConfig_15
def m_laws_eqConfig_17 : Unit → MCode := fun _ => .region [] [⟨(some 21), .fa (.tmp 2) 3, none, []⟩,
    ⟨(some 22), .ld (.tmp 21) 1 false, none, []⟩,
    ⟨(some 23), .fa (.tmp 3) 3, none, []⟩,
    ⟨(some 24), .ld (.tmp 23) 1 false, none, []⟩,
    ⟨(some 25), .call 81 [(.tmp 22), (.tmp 24)], none, []⟩,
    ⟨(some 26), .not (.tmp 25), none, []⟩] [26]
def m_laws_eqConfig_18 : Unit → MCode := fun _ => .region [] [⟨(some 4), .mv (.const (.bool false)), none, []⟩] [4]
def m_laws_eqConfig_19 : Unit → MCode := fun _ => .seq m_laws_eqConfig_18 (fun _ => .ret)
def m_laws_eqConfig_20 : Unit → MCode := fun _ => .cond (.tmp 26) m_laws_eqConfig_19 (fun _ => .skip)
def m_laws_eqConfig_21 : Unit → MCode := fun _ => .seq m_laws_eqConfig_17 m_laws_eqConfig_20
def m_laws_eqConfig_22 : Unit → MCode := fun _ => .region [] [⟨(some 4), .mv (.const (.bool true)), none, []⟩] [4]
def m_laws_eqConfig_23 : Unit → MCode := fun _ => .seq m_laws_eqConfig_22 (fun _ => .ret)
def m_laws_eqConfig_24 : Unit → MCode := fun _ => .seq m_laws_eqConfig_21 m_laws_eqConfig_23
def m_laws_eqConfig_25 : Unit → MCode := fun _ => .seq m_laws_eqConfig_16 m_laws_eqConfig_24
def m_laws_eqConfig_26 : Unit → MCode := fun _ => .seq m_laws_eqConfig_11 m_laws_eqConfig_25
def m_laws_eqConfig_27 : Unit → MCode := fun _ => .seq m_laws_eqConfig_6 m_laws_eqConfig_26
def m_laws_eqConfig_28 : Unit → MCode := fun _ => .seq m_laws_eqConfig_1 m_laws_eqConfig_27
def m_laws_eqConfig : MCode := m_laws_eqConfig_28 ()
def h_laws_eqConfig : Hints := [(0, [2, 3], [], [], []), (1, [2, 3, 9], [], [], []), (2, [4], [], [], []), (3, [2, 3, 14], [], [], []), (4, [4], [], [], []), (5, [2, 3, 20], [], [], []), (6, [4], [], [], []), (7, [26], [], [], []), (8, [4], [], [], []), (9, [4], [], [], [])]
def r_laws_eqConfig : List RV := [.t 4]
abbrev n_laws_eqConfig : Nat := 28
theorem k_laws_eqConfig : Known Pr mu n_laws_eqConfig m_laws_eqConfig r_laws_eqConfig Go.Proofs.Try.f28.ntmps := .of h_laws_eqConfig hm Go.Proofs.Try.func28 (by kernel_rfl) (by kernel_rfl) (by kernel_rfl) (by kernel_rfl)
def m_laws_szMasterLog_1 : Unit → MCode := fun _ => .region [] [⟨(some 2), .box (.tmp 0), none, []⟩,
    ⟨(some 4), .mv (.const (.int .i64 0)), none, []⟩] [1, 2]
def m_laws_szMasterLog_2 : Unit → MCode := fun _ => .region [] [⟨(some 5), .fa (.tmp 2) 0, none, []⟩,
    ⟨(some 6), .ld (.tmp 5) 1 false, none, []⟩,
    ⟨(some 7), .mv (.tmp 1), none, []⟩,
    ⟨(some 8), .call 87 [(.tmp 6), (.tmp 7)], none, []⟩,
    ⟨(some 1), .mv (.tmp 8), none, []⟩] [1]
def m_laws_szMasterLog_3 : Unit → MCode := fun _ => .region [] [⟨(some 9), .mv (.tmp 1), none, []⟩,
    ⟨(some 10), .bin .lss (.tmp 9) (.const (.int .i64 0)), none, []⟩] [1, 10]
def m_laws_szMasterLog_4 : Unit → MCode := fun _ => .region [] [⟨(some 4), .mv (.const (.int .i64 (-1))), none, []⟩] [4]
def m_laws_szMasterLog_5 : Unit → MCode := fun _ => .seq m_laws_szMasterLog_4 (fun _ => .ret)
def m_laws_szMasterLog_6 : Unit → MCode := fun _ => .cond (.tmp 10) m_laws_szMasterLog_5 (fun _ => .skip)
def m_laws_szMasterLog_7 : Unit → MCode := fun _ => .seq m_laws_szMasterLog_3 m_laws_szMasterLog_6
def m_laws_szMasterLog_8 : Unit → MCode := fun _ => .region [] [⟨(some 11), .mv (.tmp 1), none, []⟩,
    ⟨(some 4), .mv (.tmp 11), none, []⟩] [4]
def m_laws_szMasterLog_9 : Unit → MCode := fun _ => .seq m_laws_szMasterLog_8 (fun _ => .ret)
def m_laws_szMasterLog_10 : Unit → MCode := fun _ => .seq m_laws_szMasterLog_7 m_laws_szMasterLog_9
def m_laws_szMasterLog_11 : Unit → MCode := fun _ => .seq m_laws_szMasterLog_2 m_laws_szMasterLog_10
def m_laws_szMasterLog_12 : Unit → MCode := fun _ => .seq m_laws_szMasterLog_1 m_laws_szMasterLog_11
def m_laws_szMasterLog : MCode := m_laws_szMasterLog_12 ()
def h_laws_szMasterLog : Hints := [(0, [1, 2], [], [], []), (1, [1], [], [], []), (2, [1, 10], [], [], []), (3, [4], [], [], []), (4, [4], [], [], [])]
def r_laws_szMasterLog : List RV := [.t 4]
abbrev n_laws_szMasterLog : Nat := 44
theorem k_laws_szMasterLog : Known Pr mu n_laws_szMasterLog m_laws_szMasterLog r_laws_szMasterLog Go.Proofs.Try.f44.ntmps := .of h_laws_szMasterLog hm Go.Proofs.Try.func44 (by kernel_rfl) (by kernel_rfl) (by kernel_rfl) (by kernel_rfl)
def m_spec_EqualMasterLogs_1 : Unit → MCode := fun _ => .region [] [⟨(some 2), .box (.tmp 0), none, []⟩,
    ⟨(some 3), .box (.tmp 1), none, []⟩,
    ⟨(some 4), .mv (.const (.bool false)), none, []⟩] [2, 3]
def m_spec_EqualMasterLogs_2 : Unit → MCode := fun _ => .region [] [⟨(some 6), .fa (.tmp 2) 1, none, []⟩,
    ⟨(some 7), .ld (.tmp 6) 1 false, none, []⟩,
    ⟨(some 8), .fa (.tmp 3) 1, none, []⟩,
    ⟨(some 9), .ld (.tmp 8) 1 false, none, []⟩,
    ⟨(some 10), .bin .neq (.tmp 7) (.tmp 9), none, []⟩,
    ⟨(some 11), .mv (.tmp 10), none, []⟩,
    ⟨(some 12), .fa (.tmp 2) 0, (some (11, false)), []⟩,
    ⟨(some 13), .ld (.tmp 12) 1 false, (some (11, false)), []⟩,
    ⟨(some 14), .len false (.tmp 13), (some (11, false)), []⟩,
    ⟨(some 15), .fa (.tmp 3) 0, (some (11, false)), []⟩,
    ⟨(some 16), .ld (.tmp 15) 1 false, (some (11, false)), []⟩,
    ⟨(some 17), .len false (.tmp 16), (some (11, false)), []⟩,
    ⟨(some 18), .bin .neq (.tmp 14) (.tmp 17), (some (11, false)), []⟩,
    ⟨(some 19), .pick (.tmp 11) (.const (.bool true)) (.tmp 18), none, []⟩] [2, 3, 19]
def m_spec_EqualMasterLogs_3 : Unit → MCode := fun _ => .region [] [⟨(some 4), .mv (.const (.bool false)), none, []⟩] [4]
def m_spec_EqualMasterLogs_4 : Unit → MCode := fun _ => .seq m_spec_EqualMasterLogs_3 (fun _ => .ret)
def m_spec_EqualMasterLogs_5 : Unit → MCode := fun _ => .cond (.tmp 19) m_spec_EqualMasterLogs_4 (fun _ => .skip)
def m_spec_EqualMasterLogs_6 : Unit → MCode := fun _ => .seq m_spec_EqualMasterLogs_2 m_spec_EqualMasterLogs_5
def m_spec_EqualMasterLogs_7 : Unit → MCode := fun _ => .region [] [⟨(some 5), .mv (.const (.int .i64 0)), none, []⟩] [2, 3, 5]
def m_spec_EqualMasterLogs_8 : Unit → MCode := fun _ => .region [] [⟨(some 20), .mv (.tmp 5), none, []⟩,
    ⟨(some 21), .fa (.tmp 2) 0, none, []⟩,
    ⟨(some 22), .ld (.tmp 21) 1 false, none, []⟩,
    ⟨(some 23), .len false (.tmp 22), none, []⟩,
    ⟨(some 24), .bin .lss (.tmp 20) (.tmp 23), none, []⟩] [2, 3, 5, 24]
def m_spec_EqualMasterLogs_9 : Unit → MCode := fun _ => .cond (.tmp 24) (fun _ => .skip) (fun _ => .exit 0)
def m_spec_EqualMasterLogs_10 : Unit → MCode := fun _ => .seq m_spec_EqualMasterLogs_8 m_spec_EqualMasterLogs_9
def m_spec_EqualMasterLogs_11 : Unit → MCode := fun _ => .region [] [⟨(some 27), .fa (.tmp 2) 0, none, []⟩,
    ⟨(some 28), .ld (.tmp 27) 1 false, none, []⟩,
    ⟨(some 29), .mv (.tmp 5), none, []⟩,
    ⟨(some 30), .ia (.tmp 28) (.tmp 29) 4, none, []⟩,
    ⟨(some 31), .ld (.tmp 30) 4 true, none, []⟩,
    ⟨(some 32), .fa (.tmp 3) 0, none, [0, 1, 2, 3, 4]⟩,
    ⟨(some 33), .ld (.tmp 32) 1 false, none, [0, 1, 2, 3, 4]⟩,
    ⟨(some 34), .mv (.tmp 5), none, []⟩,
    ⟨(some 35), .ia (.tmp 33) (.tmp 34) 4, none, [0, 1, 2, 3, 4]⟩,
    ⟨(some 36), .ld (.tmp 35) 4 true, none, [0, 1, 2, 3, 4]⟩,
    ⟨(some 37), .call 25 [(.tmp 31), (.tmp 36)], none, []⟩,
    ⟨(some 38), .not (.tmp 37), none, []⟩] [2, 3, 5, 38]
def m_spec_EqualMasterLogs_12 : Unit → MCode := fun _ => .region [] [⟨(some 4), .mv (.const (.bool false)), none, []⟩] [4]
def m_spec_EqualMasterLogs_13 : Unit → MCode := fun _ => .seq m_spec_EqualMasterLogs_12 (fun _ => .ret)
def m_spec_EqualMasterLogs_14 : Unit → MCode := fun _ => .cond (.tmp 38) m_spec_EqualMasterLogs_13 (fun _ => .skip)
def m_spec_EqualMasterLogs_15 : Unit → MCode := fun _ => .seq m_spec_EqualMasterLogs_11 m_spec_EqualMasterLogs_14
def m_spec_EqualMasterLogs_16 : Unit → MCode := fun _ => .block 1 m_spec_EqualMasterLogs_15
def m_spec_EqualMasterLogs_17 : Unit → MCode := fun _ => .region [] [⟨(some 25), .mv (.tmp 5), none, []⟩,
    ⟨(some 26), .bin .add (.tmp 25) (.const (.int .i64 1)), none, []⟩,
    ⟨(some 5), .mv (.tmp 26), none, []⟩] [2, 3, 5]
def m_spec_EqualMasterLogs_18 : Unit → MCode := fun _ => .seq m_spec_EqualMasterLogs_16 m_spec_EqualMasterLogs_17
def m_spec_EqualMasterLogs_19 : Unit → MCode := fun _ => .seq m_spec_EqualMasterLogs_10 m_spec_EqualMasterLogs_18
def m_spec_EqualMasterLogs_20 : Unit → MCode := fun _ => .loop m_spec_EqualMasterLogs_19
def m_spec_EqualMasterLogs_21 : Unit → MCode := fun _ => .block 0 m_spec_EqualMasterLogs_20
def m_spec_EqualMasterLogs_22 : Unit → MCode := fun _ => .seq m_spec_EqualMasterLogs_7 m_spec_EqualMasterLogs_21
def m_spec_EqualMasterLogs_23 : Unit → MCode := fun _ => .region [] [⟨(some 4), .mv (.const (.bool true)), none, []⟩] [4]
def m_spec_EqualMasterLogs_24 : Unit → MCode := fun _ => .seq m_spec_EqualMasterLogs_23 (fun _ => .ret)
def m_spec_EqualMasterLogs_25 : Unit → MCode := fun _ => .seq m_spec_EqualMasterLogs_22 m_spec_EqualMasterLogs_24
def m_spec_EqualMasterLogs_26 : Unit → MCode := fun _ => .seq m_spec_EqualMasterLogs_6 m_spec_EqualMasterLogs_25
def m_spec_EqualMasterLogs_27 : Unit → MCode := fun _ => .seq m_spec_EqualMasterLogs_1 m_spec_EqualMasterLogs_26
def m_spec_EqualMasterLogs : MCode := m_spec_EqualMasterLogs_27 ()
def h_spec_EqualMasterLogs : Hints := [(0, [2, 3], [], [], []), (1, [2, 3, 19], [], [], []), (2, [4], [], [], []), (3, [2, 3, 5], [], [], []), (4, [2, 3, 5, 24], [], [], []), (6, [2, 3, 5, 38], [[], [], [], [], [], [0, 1, 2, 3, 4], [0, 1, 2, 3, 4], [], [0, 1, 2, 3, 4], [0, 1, 2, 3, 4]], [], []), (7, [4], [], [], []), (5, [2, 3, 5], [], [], []), (8, [4], [], [], [])]
def r_spec_EqualMasterLogs : List RV := [.t 4]
abbrev n_spec_EqualMasterLogs : Nat := 45
theorem k_spec_EqualMasterLogs : Known Pr mu n_spec_EqualMasterLogs m_spec_EqualMasterLogs r_spec_EqualMasterLogs Go.Proofs.Try.f45.ntmps := .of h_spec_EqualMasterLogs hm Go.Proofs.Try.func45 (by kernel_rfl) (by kernel_rfl) (by kernel_rfl) (by kernel_rfl)
def m_laws_toMasterLog_1 : Unit → MCode := fun _ => .region [] [⟨(some 1), .box (.tmp 0), none, []⟩,
    ⟨(some 2), .alloc [.slice none 0 0, .int .i64 0], none, []⟩] [1, 2]
def m_laws_toMasterLog_2 : Unit → MCode := fun _ => .region [] [⟨(some 3), .alloc [.slice none 0 0, .int .i64 0], none, []⟩] [1, 2, 3]
def m_laws_toMasterLog_3 : Unit → MCode := fun _ => .region [] [⟨(some 4), .fa (.tmp 1) 0, none, []⟩,
    ⟨(some 5), .ld (.tmp 4) 1 false, none, []⟩,
    ⟨(some 6), .call 88 [(.tmp 5)], none, []⟩,
    ⟨(some 7), .fa (.tmp 3) 0, none, []⟩,
    ⟨none, .sto (.tmp 7) (.tmp 6) 1, none, []⟩] [1, 2, 3]
def m_laws_toMasterLog_4 : Unit → MCode := fun _ => .region [] [⟨(some 8), .fa (.tmp 1) 1, none, []⟩,
    ⟨(some 9), .ld (.tmp 8) 1 false, none, []⟩,
    ⟨(some 10), .fa (.tmp 3) 1, none, []⟩,
    ⟨none, .sto (.tmp 10) (.tmp 9) 1, none, []⟩] [2, 3]
def m_laws_toMasterLog_5 : Unit → MCode := fun _ => .region [] [⟨(some 11), .ld (.tmp 3) 2 true, none, []⟩,
    ⟨none, .sto (.tmp 2) (.tmp 11) 2, none, []⟩] [2]
def m_laws_toMasterLog_6 : Unit → MCode := fun _ => .seq m_laws_toMasterLog_5 (fun _ => .ret)
def m_laws_toMasterLog_7 : Unit → MCode := fun _ => .seq m_laws_toMasterLog_4 m_laws_toMasterLog_6
def m_laws_toMasterLog_8 : Unit → MCode := fun _ => .seq m_laws_toMasterLog_3 m_laws_toMasterLog_7
def m_laws_toMasterLog_9 : Unit → MCode := fun _ => .seq m_laws_toMasterLog_2 m_laws_toMasterLog_8
def m_laws_toMasterLog_10 : Unit → MCode := fun _ => .seq m_laws_toMasterLog_1 m_laws_toMasterLog_9
def m_laws_toMasterLog : MCode := m_laws_toMasterLog_10 ()
def h_laws_toMasterLog : Hints := [(0, [1, 2], [], [], []), (1, [1, 2, 3], [], [], []), (2, [1, 2, 3], [], [], []), (3, [2, 3], [], [], []), (4, [2], [], [], [])]
def r_laws_toMasterLog : List RV := [.c 2 2 true]
abbrev n_laws_toMasterLog : Nat := 46
theorem k_laws_toMasterLog : Known Pr mu n_laws_toMasterLog m_laws_toMasterLog r_laws_toMasterLog Go.Proofs.Try.f46.ntmps := .of h_laws_toMasterLog hm Go.Proofs.Try.func46 (by kernel_rfl) (by kernel_rfl) (by kernel_rfl) (by kernel_rfl)
def m_impl_EqualMasterLogs_1 : Unit → MCode := fun _ => .region [] [⟨(some 2), .box (.tmp 0), none, []⟩,
    ⟨(some 3), .box (.tmp 1), none, []⟩,
    ⟨(some 4), .mv (.const (.bool false)), none, []⟩] [2, 3]
def m_impl_EqualMasterLogs_2 : Unit → MCode := fun _ => .region [] [⟨(some 5), .fa (.tmp 2) 1, none, []⟩,
    ⟨(some 6), .ld (.tmp 5) 1 false, none, []⟩,
    ⟨(some 7), .fa (.tmp 3) 1, none, []⟩,
    ⟨(some 8), .ld (.tmp 7) 1 false, none, []⟩,
    ⟨(some 9), .bin .eql (.tmp 6) (.tmp 8), none, []⟩,
    ⟨(some 10), .mv (.tmp 9), none, []⟩,
    ⟨(some 11), .fa (.tmp 2) 0, (some (10, true)), []⟩,
    ⟨(some 12), .ld (.tmp 11) 1 false, (some (10, true)), []⟩,
    ⟨(some 13), .fa (.tmp 3) 0, (some (10, true)), []⟩,
    ⟨(some 14), .ld (.tmp 13) 1 false, (some (10, true)), []⟩,
    ⟨(some 15), .call 89 [(.tmp 12), (.tmp 14), (.func 27)], (some (10, true)), []⟩,
    ⟨(some 16), .pick (.tmp 10) (.tmp 15) (.const (.bool false)), none, []⟩,
    ⟨(some 4), .mv (.tmp 16), none, []⟩] [4]
def m_impl_EqualMasterLogs_3 : Unit → MCode := fun _ => .seq m_impl_EqualMasterLogs_2 (fun _ => .ret)
def m_impl_EqualMasterLogs_4 : Unit → MCode := fun _ => .seq m_impl_EqualMasterLogs_1 m_impl_EqualMasterLogs_3
def m_impl_EqualMasterLogs : MCode := m_impl_EqualMasterLogs_4 ()
def h_impl_EqualMasterLogs : Hints := [(0, [2, 3], [], [], []), (1, [4], [], [], [])]
def r_impl_EqualMasterLogs : List RV := [.t 4]
abbrev n_impl_EqualMasterLogs : Nat := 47
theorem k_impl_EqualMasterLogs : Known Pr mu n_impl_EqualMasterLogs m_impl_EqualMasterLogs r_impl_EqualMasterLogs Go.Proofs.Try.f47.ntmps := .of h_impl_EqualMasterLogs hm Go.Proofs.Try.func47 (by kernel_rfl) (by kernel_rfl) (by kernel_rfl) (by kernel_rfl)
def m_laws_eqMasterLog_1 : Unit → MCode := fun _ => .region [] [⟨(some 2), .box (.tmp 0), none, []⟩,
    ⟨(some 3), .box (.tmp 1), none, []⟩,
    ⟨(some 4), .mv (.const (.bool false)), none, []⟩] [2, 3]
def m_laws_eqMasterLog_2 : Unit → MCode := fun _ => .region [] [⟨(some 5), .fa (.tmp 2) 0, none, []⟩,
    ⟨(some 6), .ld (.tmp 5) 1 false, none, []⟩,
    ⟨(some 7), .fa (.tmp 3) 0, none, []⟩,
    ⟨(some 8), .ld (.tmp 7) 1 false, none, []⟩,
    ⟨(some 9), .call 90 [(.tmp 6), (.tmp 8)], none, []⟩,
    ⟨(some 10), .not (.tmp 9), none, []⟩] [2, 3, 10]
def m_laws_eqMasterLog_3 : Unit → MCode := fun _ => .region [] [⟨(some 4), .mv (.const (.bool false)), none, []⟩] [4]
def m_laws_eqMasterLog_4 : Unit → MCode := fun _ => .seq m_laws_eqMasterLog_3 (fun _ => .ret)
def m_laws_eqMasterLog_5 : Unit → MCode := fun _ => .cond (.tmp 10) m_laws_eqMasterLog_4 (fun _ => .skip)
def m_laws_eqMasterLog_6 : Unit → MCode := fun _ => .seq m_laws_eqMasterLog_2 m_laws_eqMasterLog_5
def m_laws_eqMasterLog_7 : Unit → MCode := fun _ => .region [] [⟨(some 11), .fa (.tmp 2) 1, none, []⟩,
    ⟨(some 12), .ld (.tmp 11) 1 false, none, []⟩,
    ⟨(some 13), .fa (.tmp 3) 1, none, []⟩,
    ⟨(some 14), .ld (.tmp 13) 1 false, none, []⟩,
    ⟨(some 15), .bin .neq (.tmp 12) (.tmp 14), none, []⟩] [15]
def m_laws_eqMasterLog_8 : Unit → MCode := fun _ => .region [] [⟨(some 4), .mv (.const (.bool false)), none, []⟩] [4]
def m_laws_eqMasterLog_9 : Unit → MCode := fun _ => .seq m_laws_eqMasterLog_8 (fun _ => .ret)
def m_laws_eqMasterLog_10 : Unit → MCode := fun _ => .cond (.tmp 15) m_laws_eqMasterLog_9 (fun _ => .skip)
def m_laws_eqMasterLog_11 : Unit → MCode := fun _ => .seq m_laws_eqMasterLog_7 m_laws_eqMasterLog_10
def m_laws_eqMasterLog_12 : Unit → MCode := fun _ => .region [] [⟨(some 4), .mv (.const (.bool true)), none, []⟩] [4]
def m_laws_eqMasterLog_13 : Unit → MCode := fun _ => .seq m_laws_eqMasterLog_12 (fun _ => .ret)
def m_laws_eqMasterLog_14 : Unit → MCode := fun _ => .seq m_laws_eqMasterLog_11 m_laws_eqMasterLog_13
def m_laws_eqMasterLog_15 : Unit → MCode := fun _ => .seq m_laws_eqMasterLog_6 m_laws_eqMasterLog_14
def m_laws_eqMasterLog_16 : Unit → MCode := fun _ => .seq m_laws_eqMasterLog_1 m_laws_eqMasterLog_15
def m_laws_eqMasterLog : MCode := m_laws_eqMasterLog_16 ()
def h_laws_eqMasterLog : Hints := [(0, [2, 3], [], [], []), (1, [2, 3, 10], [], [], []), (2, [4], [], [], []), (3, [15], [], [], []), (4, [4], [], [], []), (5, [4], [], [], [])]
def r_laws_eqMasterLog : List RV := [.t 4]
abbrev n_laws_eqMasterLog : Nat := 48
theorem k_laws_eqMasterLog : Known Pr mu n_laws_eqMasterLog m_laws_eqMasterLog r_laws_eqMasterLog Go.Proofs.Try.f48.ntmps := .of h_laws_eqMasterLog hm Go.Proofs.Try.func48 (by kernel_rfl) (by kernel_rfl) (by kernel_rfl) (by kernel_rfl)
def m_laws_szIntS_1 : Unit → MCode := fun _ => .region [] [⟨(some 4), .mv (.const (.int .i64 0)), none, []⟩] [0, 1]
def m_laws_szIntS_2 : Unit → MCode := fun _ => .region [] [⟨(some 5), .mv (.tmp 1), none, []⟩,
    ⟨(some 6), .mv (.tmp 0), none, []⟩,
    ⟨(some 7), .len false (.tmp 6), none, []⟩,
    ⟨(some 8), .bin .sub (.tmp 5) (.tmp 7), none, []⟩,
    ⟨(some 1), .mv (.tmp 8), none, []⟩] [1]
def m_laws_szIntS_3 : Unit → MCode := fun _ => .region [] [⟨(some 9), .mv (.tmp 1), none, []⟩,
    ⟨(some 10), .bin .lss (.tmp 9) (.const (.int .i64 0)), none, []⟩] [1, 10]
def m_laws_szIntS_4 : Unit → MCode := fun _ => .region [] [⟨(some 4), .mv (.const (.int .i64 (-1))), none, []⟩] [4]
def m_laws_szIntS_5 : Unit → MCode := fun _ => .seq m_laws_szIntS_4 (fun _ => .ret)
def m_laws_szIntS_6 : Unit → MCode := fun _ => .cond (.tmp 10) m_laws_szIntS_5 (fun _ => .skip)
def m_laws_szIntS_7 : Unit → MCode := fun _ => .seq m_laws_szIntS_3 m_laws_szIntS_6
def m_laws_szIntS_8 : Unit → MCode := fun _ => .region [] [⟨(some 11), .mv (.tmp 1), none, []⟩,
    ⟨(some 4), .mv (.tmp 11), none, []⟩] [4]
def m_laws_szIntS_9 : Unit → MCode := fun _ => .seq m_laws_szIntS_8 (fun _ => .ret)
def m_laws_szIntS_10 : Unit → MCode := fun _ => .seq m_laws_szIntS_7 m_laws_szIntS_9
def m_laws_szIntS_11 : Unit → MCode := fun _ => .seq m_laws_szIntS_2 m_laws_szIntS_10
def m_laws_szIntS_12 : Unit → MCode := fun _ => .seq m_laws_szIntS_1 m_laws_szIntS_11
def m_laws_szIntS : MCode := m_laws_szIntS_12 ()
def h_laws_szIntS : Hints := [(0, [0, 1], [], [], []), (1, [1], [], [], []), (2, [1, 10], [], [], []), (3, [4], [], [], []), (4, [4], [], [], [])]
def r_laws_szIntS : List RV := [.t 4]
abbrev n_laws_szIntS : Nat := 77
theorem k_laws_szIntS : Known Pr mu n_laws_szIntS m_laws_szIntS r_laws_szIntS Go.Proofs.Try.f77.ntmps := .of h_laws_szIntS hm Go.Proofs.Try.func77 (by kernel_rfl) (by kernel_rfl) (by kernel_rfl) (by kernel_rfl)
def m_spec_EqualServers_1 : Unit → MCode := fun _ => .region [] [⟨(some 4), .mv (.const (.bool false)), none, []⟩] [0, 1]
def m_spec_EqualServers_2 : Unit → MCode := fun _ => .region [] [⟨(some 6), .mv (.tmp 0), none, []⟩,
    ⟨(some 7), .len false (.tmp 6), none, []⟩,
    ⟨(some 8), .mv (.tmp 1), none, []⟩,
    ⟨(some 9), .len false (.tmp 8), none, []⟩,
    ⟨(some 10), .bin .neq (.tmp 7) (.tmp 9), none, []⟩] [0, 1, 10]
def m_spec_EqualServers_3 : Unit → MCode := fun _ => .region [] [⟨(some 4), .mv (.const (.bool false)), none, []⟩] [4]
def m_spec_EqualServers_4 : Unit → MCode := fun _ => .seq m_spec_EqualServers_3 (fun _ => .ret)
def m_spec_EqualServers_5 : Unit → MCode := fun _ => .cond (.tmp 10) m_spec_EqualServers_4 (fun _ => .skip)
def m_spec_EqualServers_6 : Unit → MCode := fun _ => .seq m_spec_EqualServers_2 m_spec_EqualServers_5
def m_spec_EqualServers_7 : Unit → MCode := fun _ => .region [] [⟨(some 5), .mv (.const (.int .i64 0)), none, []⟩] [0, 1, 5]
def m_spec_EqualServers_8 : Unit → MCode := fun _ => .region [] [⟨(some 11), .mv (.tmp 5), none, []⟩,
    ⟨(some 12), .mv (.tmp 0), none, []⟩,
    ⟨(some 13), .len false (.tmp 12), none, []⟩,
    ⟨(some 14), .bin .lss (.tmp 11) (.tmp 13), none, []⟩] [0, 1, 5, 14]
def m_spec_EqualServers_9 : Unit → MCode := fun _ => .cond (.tmp 14) (fun _ => .skip) (fun _ => .exit 0)
def m_spec_EqualServers_10 : Unit → MCode := fun _ => .seq m_spec_EqualServers_8 m_spec_EqualServers_9
def m_spec_EqualServers_11 : Unit → MCode := fun _ => .region [] [⟨(some 17), .mv (.tmp 0), none, []⟩,
    ⟨(some 18), .mv (.tmp 5), none, []⟩,
    ⟨(some 19), .ia (.tmp 17) (.tmp 18) 1, none, []⟩,
    ⟨(some 20), .ld (.tmp 19) 1 false, none, []⟩,
    ⟨(some 21), .mv (.tmp 1), none, []⟩,
    ⟨(some 22), .mv (.tmp 5), none, []⟩,
    ⟨(some 23), .ia (.tmp 21) (.tmp 22) 1, none, [0, 1, 2, 3]⟩,
    ⟨(some 24), .ld (.tmp 23) 1 false, none, [0, 1, 2, 3]⟩,
    ⟨(some 25), .bin .neq (.tmp 20) (.tmp 24), none, []⟩] [0, 1, 5, 25]
def m_spec_EqualServers_12 : Unit → MCode := fun _ => .region [] [⟨(some 4), .mv (.const (.bool false)), none, []⟩] [4]
def m_spec_EqualServers_13 : Unit → MCode := fun _ => .seq m_spec_EqualServers_12 (fun _ => .ret)
def m_spec_EqualServers_14 : Unit → MCode := fun _ => .cond (.tmp 25) m_spec_EqualServers_13 (fun _ => .skip)
def m_spec_EqualServers_15 : Unit → MCode := fun _ => .seq m_spec_EqualServers_11 m_spec_EqualServers_14
def m_spec_EqualServers_16 : Unit → MCode := fun _ => .block 1 m_spec_EqualServers_15
def m_spec_EqualServers_17 : Unit → MCode := fun _ => .region [] [⟨(some 15), .mv (.tmp 5), none, []⟩,
    ⟨(some 16), .bin .add (.tmp 15) (.const (.int .i64 1)), none, []⟩,
    ⟨(some 5), .mv (.tmp 16), none, []⟩] [0, 1, 5]
def m_spec_EqualServers_18 : Unit → MCode := fun _ => .seq m_spec_EqualServers_16 m_spec_EqualServers_17
def m_spec_EqualServers_19 : Unit → MCode := fun _ => .seq m_spec_EqualServers_10 m_spec_EqualServers_18
def m_spec_EqualServers_20 : Unit → MCode := fun _ => .loop m_spec_EqualServers_19
def m_spec_EqualServers_21 : Unit → MCode := fun _ => .block 0 m_spec_EqualServers_20
def m_spec_EqualServers_22 : Unit → MCode := fun _ => .seq m_spec_EqualServers_7 m_spec_EqualServers_21
def m_spec_EqualServers_23 : Unit → MCode := fun _ => .region [] [⟨(some 4), .mv (.const (.bool true)), none, []⟩] [4]
def m_spec_EqualServers_24 : Unit → MCode := fun _ => .seq m_spec_EqualServers_23 (fun _ => .ret)
def m_spec_EqualServers_25 : Unit → MCode := fun _ => .seq m_spec_EqualServers_22 m_spec_EqualServers_24
def m_spec_EqualServers_26 : Unit → MCode := fun _ => .seq m_spec_EqualServers_6 m_spec_EqualServers_25
def m_spec_EqualServers_27 : Unit → MCode := fun _ => .seq m_spec_EqualServers_1 m_spec_EqualServers_26
def m_spec_EqualServers : MCode := m_spec_EqualServers_27 ()
def h_spec_EqualServers : Hints := [(0, [0, 1], [], [], []), (1, [0, 1, 10], [], [], []), (2, [4], [], [], []), (3, [0, 1, 5], [], [], []), (4, [0, 1, 5, 14], [], [], []), (6, [0, 1, 5, 25], [[], [], [], [], [], [], [0, 1, 2, 3], [0, 1, 2, 3]], [], []), (7, [4], [], [], []), (5, [0, 1, 5], [], [], []), (8, [4], [], [], [])]
def r_spec_EqualServers : List RV := [.t 4]
abbrev n_spec_EqualServers : Nat := 78
theorem k_spec_EqualServers : Known Pr mu n_spec_EqualServers m_spec_EqualServers r_spec_EqualServers Go.Proofs.Try.f78.ntmps := .of h_spec_EqualServers hm Go.Proofs.Try.func78 (by kernel_rfl) (by kernel_rfl) (by kernel_rfl) (by kernel_rfl)
def m_laws_toIntS_1 : Unit → MCode := fun _ => .region [] [⟨(some 2), .mv (.const (.slice none 0 0)), none, []⟩] [0]
def m_laws_toIntS_2 : Unit → MCode := fun _ => .region [] [⟨(some 5), .mv (.tmp 0), none, []⟩,
    ⟨(some 6), .len false (.tmp 5), none, []⟩,
    ⟨(some 7), .mks 1 8 [.int .i64 0] (.tmp 6) (.tmp 6), none, []⟩,
    ⟨(some 3), .mv (.tmp 7), none, []⟩] [0, 3]
def m_laws_toIntS_3 : Unit → MCode := fun _ => .region [] [⟨(some 4), .mv (.const (.int .i64 0)), none, []⟩] [0, 3, 4]
def m_laws_toIntS_4 : Unit → MCode := fun _ => .region [] [⟨(some 8), .mv (.tmp 4), none, []⟩,
    ⟨(some 9), .mv (.tmp 0), none, []⟩,
    ⟨(some 10), .len false (.tmp 9), none, []⟩,
    ⟨(some 11), .bin .lss (.tmp 8) (.tmp 10), none, []⟩] [0, 3, 4, 11]
def m_laws_toIntS_5 : Unit → MCode := fun _ => .cond (.tmp 11) (fun _ => .skip) (fun _ => .exit 0)
def m_laws_toIntS_6 : Unit → MCode := fun _ => .seq m_laws_toIntS_4 m_laws_toIntS_5
def m_laws_toIntS_7 : Unit → MCode := fun _ => .region [] [⟨(some 14), .mv (.tmp 3), none, []⟩,
    ⟨(some 15), .mv (.tmp 4), none, []⟩,
    ⟨(some 16), .mv (.tmp 0), none, []⟩,
    ⟨(some 17), .mv (.tmp 4), none, []⟩,
    ⟨(some 18), .ia (.tmp 16) (.tmp 17) 1, none, []⟩,
    ⟨(some 19), .ld (.tmp 18) 1 false, none, []⟩,
    ⟨(some 20), .ia (.tmp 14) (.tmp 15) 1, none, []⟩,
    ⟨none, .sto (.tmp 20) (.tmp 19) 1, none, []⟩] [0, 3, 4]
def m_laws_toIntS_8 : Unit → MCode := fun _ => .block 1 m_laws_toIntS_7
def m_laws_toIntS_9 : Unit → MCode := fun _ => .region [] [⟨(some 12), .mv (.tmp 4), none, []⟩,
    ⟨(some 13), .bin .add (.tmp 12) (.const (.int .i64 1)), none, []⟩,
    ⟨(some 4), .mv (.tmp 13), none, []⟩] [0, 3, 4]
def m_laws_toIntS_10 : Unit → MCode := fun _ => .seq m_laws_toIntS_8 m_laws_toIntS_9
def m_laws_toIntS_11 : Unit → MCode := fun _ => .seq m_laws_toIntS_6 m_laws_toIntS_10
def m_laws_toIntS_12 : Unit → MCode := fun _ => .loop m_laws_toIntS_11
def m_laws_toIntS_13 : Unit → MCode := fun _ => .block 0 m_laws_toIntS_12
def m_laws_toIntS_14 : Unit → MCode := fun _ => .seq m_laws_toIntS_3 m_laws_toIntS_13
def m_laws_toIntS_15 : Unit → MCode := fun _ => .region [] [⟨(some 21), .mv (.tmp 3), none, []⟩,
    ⟨(some 2), .mv (.tmp 21), none, []⟩] [2]
def m_laws_toIntS_16 : Unit → MCode := fun _ => .seq m_laws_toIntS_15 (fun _ => .ret)
def m_laws_toIntS_17 : Unit → MCode := fun _ => .seq m_laws_toIntS_14 m_laws_toIntS_16
def m_laws_toIntS_18 : Unit → MCode := fun _ => .seq m_laws_toIntS_2 m_laws_toIntS_17
def m_laws_toIntS_19 : Unit → MCode := fun _ => .seq m_laws_toIntS_1 m_laws_toIntS_18
def m_laws_toIntS : MCode := m_laws_toIntS_19 ()
def h_laws_toIntS : Hints := [(0, [0], [], [], []), (1, [0, 3], [], [], []), (2, [0, 3, 4], [], [], []), (3, [0, 3, 4, 11], [], [], []), (5, [0, 3, 4], [], [], []), (4, [0, 3, 4], [], [], []), (6, [2], [], [], [])]
def r_laws_toIntS : List RV := [.t 2]
abbrev n_laws_toIntS : Nat := 79
theorem k_laws_toIntS : Known Pr mu n_laws_toIntS m_laws_toIntS r_laws_toIntS Go.Proofs.Try.f79.ntmps := .of h_laws_toIntS hm Go.Proofs.Try.func79 (by kernel_rfl) (by kernel_rfl) (by kernel_rfl) (by kernel_rfl)
def m_impl_EqualServers_1 : Unit → MCode := fun _ => .region [] [⟨(some 4), .mv (.const (.bool false)), none, []⟩] [0, 1]
def m_impl_EqualServers_2 : Unit → MCode := fun _ => .region [] [⟨(some 5), .mv (.tmp 0), none, []⟩,
    ⟨(some 6), .mv (.tmp 1), none, []⟩,
    ⟨(some 7), .call 108 [(.tmp 5), (.tmp 6)], none, []⟩,
    ⟨(some 4), .mv (.tmp 7), none, []⟩] [4]
def m_impl_EqualServers_3 : Unit → MCode := fun _ => .seq m_impl_EqualServers_2 (fun _ => .ret)
def m_impl_EqualServers_4 : Unit → MCode := fun _ => .seq m_impl_EqualServers_1 m_impl_EqualServers_3
def m_impl_EqualServers : MCode := m_impl_EqualServers_4 ()
def h_impl_EqualServers : Hints := [(0, [0, 1], [], [], []), (1, [4], [], [], [])]
def r_impl_EqualServers : List RV := [.t 4]
abbrev n_impl_EqualServers : Nat := 80
theorem k_impl_EqualServers : Known Pr mu n_impl_EqualServers m_impl_EqualServers r_impl_EqualServers Go.Proofs.Try.f80.ntmps := .of h_impl_EqualServers hm Go.Proofs.Try.func80 (by kernel_rfl) (by kernel_rfl) (by kernel_rfl) (by kernel_rfl)
def m_laws_eqIntS_1 : Unit → MCode := fun _ => .region [] [⟨(some 4), .mv (.const (.bool false)), none, []⟩] [0, 1]
def m_laws_eqIntS_2 : Unit → MCode := fun _ => .region [] [⟨(some 6), .mv (.tmp 0), none, []⟩,
    ⟨(some 7), .len false (.tmp 6), none, []⟩,
    ⟨(some 8), .mv (.tmp 1), none, []⟩,
    ⟨(some 9), .len false (.tmp 8), none, []⟩,
    ⟨(some 10), .bin .neq (.tmp 7) (.tmp 9), none, []⟩] [0, 1, 10]
def m_laws_eqIntS_3 : Unit → MCode := fun _ => .region [] [⟨(some 4), .mv (.const (.bool false)), none, []⟩] [4]
def m_laws_eqIntS_4 : Unit → MCode := fun _ => .seq m_laws_eqIntS_3 (fun _ => .ret)
def m_laws_eqIntS_5 : Unit → MCode := fun _ => .cond (.tmp 10) m_laws_eqIntS_4 (fun _ => .skip)
def m_laws_eqIntS_6 : Unit → MCode := fun _ => .seq m_laws_eqIntS_2 m_laws_eqIntS_5
def m_laws_eqIntS_7 : Unit → MCode := fun _ => .region [] [⟨(some 5), .mv (.const (.int .i64 0)), none, []⟩] [0, 1, 5]
def m_laws_eqIntS_8 : Unit → MCode := fun _ => .region [] [⟨(some 11), .mv (.tmp 5), none, []⟩,
    ⟨(some 12), .mv (.tmp 0), none, []⟩,
    ⟨(some 13), .len false (.tmp 12), none, []⟩,
    ⟨(some 14), .bin .lss (.tmp 11) (.tmp 13), none, []⟩] [0, 1, 5, 14]
def m_laws_eqIntS_9 : Unit → MCode := fun _ => .cond (.tmp 14) (fun _ => .skip) (fun _ => .exit 0)
def m_laws_eqIntS_10 : Unit → MCode := fun _ => .seq m_laws_eqIntS_8 m_laws_eqIntS_9
def m_laws_eqIntS_11 : Unit → MCode := fun _ => .region [] [⟨(some 17), .mv (.tmp 0), none, []⟩,
    ⟨(some 18), .mv (.tmp 5), none, []⟩,
    ⟨(some 19), .ia (.tmp 17) (.tmp 18) 1, none, []⟩,
    ⟨(some 20), .ld (.tmp 19) 1 false, none, []⟩,
    ⟨(some 21), .mv (.tmp 1), none, []⟩,
    ⟨(some 22), .mv (.tmp 5), none, []⟩,
    ⟨(some 23), .ia (.tmp 21) (.tmp 22) 1, none, [0, 1, 2, 3]⟩,
    ⟨(some 24), .ld (.tmp 23) 1 false, none, [0, 1, 2, 3]⟩,
    ⟨(some 25), .bin .neq (.tmp 20) (.tmp 24), none, []⟩] [0, 1, 5, 25]
def m_laws_eqIntS_12 : Unit → MCode := fun _ => .region [] [⟨(some 4), .mv (.const (.bool false)), none, []⟩] [4]
def m_laws_eqIntS_13 : Unit → MCode := fun _ => .seq m_laws_eqIntS_12 (fun _ => .ret)
def m_laws_eqIntS_14 : Unit → MCode := fun _ => .cond (.tmp 25) m_laws_eqIntS_13 (fun _ => .skip)
def m_laws_eqIntS_15 : Unit → MCode := fun _ => .seq m_laws_eqIntS_11 m_laws_eqIntS_14
def m_laws_eqIntS_16 : Unit → MCode := fun _ => .block 1 m_laws_eqIntS_15
def m_laws_eqIntS_17 : Unit → MCode := fun _ => .region [] [⟨(some 15), .mv (.tmp 5), none, []⟩,
    ⟨(some 16), .bin .add (.tmp 15) (.const (.int .i64 1)), none, []⟩,
    ⟨(some 5), .mv (.tmp 16), none, []⟩] [0, 1, 5]
def m_laws_eqIntS_18 : Unit → MCode := fun _ => .seq m_laws_eqIntS_16 m_laws_eqIntS_17
def m_laws_eqIntS_19 : Unit → MCode := fun _ => .seq m_laws_eqIntS_10 m_laws_eqIntS_18
def m_laws_eqIntS_20 : Unit → MCode := fun _ => .loop m_laws_eqIntS_19
def m_laws_eqIntS_21 : Unit → MCode := fun _ => .block 0 m_laws_eqIntS_20
def m_laws_eqIntS_22 : Unit → MCode := fun _ => .seq m_laws_eqIntS_7 m_laws_eqIntS_21
def m_laws_eqIntS_23 : Unit → MCode := fun _ => .region [] [⟨(some 4), .mv (.const (.bool true)), none, []⟩] [4]
def m_laws_eqIntS_24 : Unit → MCode := fun _ => .seq m_laws_eqIntS_23 (fun _ => .ret)
def m_laws_eqIntS_25 : Unit → MCode := fun _ => .seq m_laws_eqIntS_22 m_laws_eqIntS_24
def m_laws_eqIntS_26 : Unit → MCode := fun _ => .seq m_laws_eqIntS_6 m_laws_eqIntS_25
def m_laws_eqIntS_27 : Unit → MCode := fun _ => .seq m_laws_eqIntS_1 m_laws_eqIntS_26
def m_laws_eqIntS : MCode := m_laws_eqIntS_27 ()
def h_laws_eqIntS : Hints := [(0, [0, 1], [], [], []), (1, [0, 1, 10], [], [], []), (2, [4], [], [], []), (3, [0, 1, 5], [], [], []), (4, [0, 1, 5, 14], [], [], []), (6, [0, 1, 5, 25], [[], [], [], [], [], [], [0, 1, 2, 3], [0, 1, 2, 3]], [], []), (7, [4], [], [], []), (5, [0, 1, 5], [], [], []), (8, [4], [], [], [])]
def r_laws_eqIntS : List RV := [.t 4]
abbrev n_laws_eqIntS : Nat := 81
theorem k_laws_eqIntS : Known Pr mu n_laws_eqIntS m_laws_eqIntS r_laws_eqIntS Go.Proofs.Try.f81.ntmps := .of h_laws_eqIntS hm Go.Proofs.Try.func81 (by kernel_rfl) (by kernel_rfl) (by kernel_rfl) (by kernel_rfl)
def m_laws_szConfigS_1 : Unit → MCode := fun _ => .region [] [⟨(some 4), .mv (.const (.int .i64 0)), none, []⟩] [0, 1]
def m_laws_szConfigS_2 : Unit → MCode := fun _ => .region [] [⟨(some 6), .mv (.tmp 1), none, []⟩,
    ⟨(some 7), .mv (.tmp 0), none, []⟩,
    ⟨(some 8), .len false (.tmp 7), none, []⟩,
    ⟨(some 9), .bin .sub (.tmp 6) (.tmp 8), none, []⟩,
    ⟨(some 1), .mv (.tmp 9), none, []⟩] [0, 1]
def m_laws_szConfigS_3 : Unit → MCode := fun _ => .region [] [⟨(some 10), .mv (.tmp 1), none, []⟩,
    ⟨(some 11), .bin .lss (.tmp 10) (.const (.int .i64 0)), none, []⟩] [0, 1, 11]
def m_laws_szConfigS_4 : Unit → MCode := fun _ => .region [] [⟨(some 4), .mv (.const (.int .i64 (-1))), none, []⟩] [4]
def m_laws_szConfigS_5 : Unit → MCode := fun _ => .seq m_laws_szConfigS_4 (fun _ => .ret)
def m_laws_szConfigS_6 : Unit → MCode := fun _ => .cond (.tmp 11) m_laws_szConfigS_5 (fun _ => .skip)
def m_laws_szConfigS_7 : Unit → MCode := fun _ => .seq m_laws_szConfigS_3 m_laws_szConfigS_6
def m_laws_szConfigS_8 : Unit → MCode := fun _ => .region [] [⟨(some 5), .mv (.const (.int .i64 0)), none, []⟩] [0, 1, 5]
def m_laws_szConfigS_9 : Unit → MCode := fun _ => .region [] [⟨(some 12), .mv (.tmp 5), none, []⟩,
    ⟨(some 13), .mv (.tmp 0), none, []⟩,
    ⟨(some 14), .len false (.tmp 13), none, []⟩,
    ⟨(some 15), .bin .lss (.tmp 12) (.tmp 14), none, []⟩] [0, 1, 5, 15]
def m_laws_szConfigS_10 : Unit → MCode := fun _ => .cond (.tmp 15) (fun _ => .skip) (fun _ => .exit 0)
def m_laws_szConfigS_11 : Unit → MCode := fun _ => .seq m_laws_szConfigS_9 m_laws_szConfigS_10
def m_laws_szConfigS_12 : Unit → MCode := fun _ => .region [] [⟨(some 18), .mv (.tmp 0), none, []⟩,
    ⟨(some 19), .mv (.tmp 5), none, []⟩,
    ⟨(some 20), .ia (.tmp 18) (.tmp 19) 4, none, []⟩,
    ⟨(some 21), .ld (.tmp 20) 4 true, none, []⟩,
    ⟨(some 22), .mv (.tmp 1), none, []⟩,
    ⟨(some 23), .call 24 [(.tmp 21), (.tmp 22)], none, []⟩,
    ⟨(some 1), .mv (.tmp 23), none, []⟩] [0, 1, 5]
def m_laws_szConfigS_13 : Unit → MCode := fun _ => .region [] [⟨(some 24), .mv (.tmp 1), none, []⟩,
    ⟨(some 25), .bin .lss (.tmp 24) (.const (.int .i64 0)), none, []⟩] [0, 1, 5, 25]
def m_laws_szConfigS_14 : Unit → MCode := fun _ => .region [] [⟨(some 4), .mv (.const (.int .i64 (-1))), none, []⟩] [4]
def m_laws_szConfigS_15 : Unit → MCode := fun _ => .seq m_laws_szConfigS_14 (fun _ => .ret)
def m_laws_szConfigS_16 : Unit → MCode := fun _ => .cond (.tmp 25) m_laws_szConfigS_15 (fun _ => .skip)
def m_laws_szConfigS_17 : Unit → MCode := fun _ => .seq m_laws_szConfigS_13 m_laws_szConfigS_16
def m_laws_szConfigS_18 : Unit → MCode := fun _ => .seq m_laws_szConfigS_12 m_laws_szConfigS_17
def m_laws_szConfigS_19 : Unit → MCode := fun _ => .block 1 m_laws_szConfigS_18
def m_laws_szConfigS_20 : Unit → MCode := fun _ => .region [] [⟨(some 16), .mv (.tmp 5), none, []⟩,
    ⟨(some 17), .bin .add (.tmp 16) (.const (.int .i64 1)), none, []⟩,
    ⟨(some 5), .mv (.tmp 17), none, []⟩] [0, 1, 5]
def m_laws_szConfigS_21 : Unit → MCode := fun _ => .seq m_laws_szConfigS_19 m_laws_szConfigS_20
def m_laws_szConfigS_22 : Unit → MCode := fun _ => .seq m_laws_szConfigS_11 m_laws_szConfigS_21
def m_laws_szConfigS_23 : Unit → MCode := fun _ => .loop m_laws_szConfigS_22
def m_laws_szConfigS_24 : Unit → MCode := fun _ => .block 0 m_laws_szConfigS_23
def m_laws_szConfigS_25 : Unit → MCode := fun _ => .seq m_laws_szConfigS_8 m_laws_szConfigS_24
def m_laws_szConfigS_26 : Unit → MCode := fun _ => .region [] [⟨(some 26), .mv (.tmp 1), none, []⟩,
    ⟨(some 4), .mv (.tmp 26), none, []⟩] [4]
def m_laws_szConfigS_27 : Unit → MCode := fun _ => .seq m_laws_szConfigS_26 (fun _ => .ret)
def m_laws_szConfigS_28 : Unit → MCode := fun _ => .seq m_laws_szConfigS_25 m_laws_szConfigS_27
def m_laws_szConfigS_29 : Unit → MCode := fun _ => .seq m_laws_szConfigS_7 m_laws_szConfigS_28
def m_laws_szConfigS_30 : Unit → MCode := fun _ => .seq m_laws_szConfigS_2 m_laws_szConfigS_29
def m_laws_szConfigS_31 : Unit → MCode := fun _ => .seq m_laws_szConfigS_1 m_laws_szConfigS_30
def m_laws_szConfigS : MCode := m_laws_szConfigS_31 ()
def h_laws_szConfigS : Hints := [(0, [0, 1], [], [], []), (1, [0, 1], [], [], []), (2, [0, 1, 11], [], [], []), (3, [4], [], [], []), (4, [0, 1, 5], [], [], []), (5, [0, 1, 5, 15], [], [], []), (7, [0, 1, 5], [], [], []), (8, [0, 1, 5, 25], [], [], []), (9, [4], [], [], []), (6, [0, 1, 5], [], [], []), (10, [4], [], [], [])]
def r_laws_szConfigS : List RV := [.t 4]
abbrev n_laws_szConfigS : Nat := 87
theorem k_laws_szConfigS : Known Pr mu n_laws_szConfigS m_laws_szConfigS r_laws_szConfigS Go.Proofs.Try.f87.ntmps := .of h_laws_szConfigS hm Go.Proofs.Try.func87 (by kernel_rfl) (by kernel_rfl) (by kernel_rfl) (by kernel_rfl)
def m_laws_toConfigS_1 : Unit → MCode := fun _ => .region [] [⟨(some 2), .mv (.const (.slice none 0 0)), none, []⟩] [0]
def m_laws_toConfigS_2 : Unit → MCode := fun _ => .region [] [⟨(some 5), .mv (.tmp 0), none, []⟩,
    ⟨(some 6), .len false (.tmp 5), none, []⟩,
    ⟨(some 7), .mks 4 64 [.int .i64 0, .int .i64 0, .slice none 0 0, .slice none 0 0] (.tmp 6) (.tmp 6), none, []⟩,
    ⟨(some 3), .mv (.tmp 7), none, []⟩] [0, 3]
def m_laws_toConfigS_3 : Unit → MCode := fun _ => .region [] [⟨(some 4), .mv (.const (.int .i64 0)), none, []⟩] [0, 3, 4]
def m_laws_toConfigS_4 : Unit → MCode := fun _ => .region [] [⟨(some 8), .mv (.tmp 4), none, []⟩,
    ⟨(some 9), .mv (.tmp 0), none, []⟩,
    ⟨(some 10), .len false (.tmp 9), none, []⟩,
    ⟨(some 11), .bin .lss (.tmp 8) (.tmp 10), none, []⟩] [0, 3, 4, 11]
def m_laws_toConfigS_5 : Unit → MCode := fun _ => .cond (.tmp 11) (fun _ => .skip) (fun _ => .exit 0)
def m_laws_toConfigS_6 : Unit → MCode := fun _ => .seq m_laws_toConfigS_4 m_laws_toConfigS_5
def m_laws_toConfigS_7 : Unit → MCode := fun _ => .region [] [⟨(some 14), .mv (.tmp 3), none, []⟩,
    ⟨(some 15), .mv (.tmp 4), none, []⟩,
    ⟨(some 16), .mv (.tmp 0), none, []⟩,
    ⟨(some 17), .mv (.tmp 4), none, []⟩,
    ⟨(some 18), .ia (.tmp 16) (.tmp 17) 4, none, []⟩,
    ⟨(some 19), .ld (.tmp 18) 4 true, none, []⟩,
    ⟨(some 20), .call 26 [(.tmp 19)], none, []⟩,
    ⟨(some 21), .ia (.tmp 14) (.tmp 15) 4, none, []⟩,
    ⟨none, .sto (.tmp 21) (.tmp 20) 4, none, []⟩] [0, 3, 4]
def m_laws_toConfigS_8 : Unit → MCode := fun _ => .block 1 m_laws_toConfigS_7
def m_laws_toConfigS_9 : Unit → MCode := fun _ => .region [] [⟨(some 12), .mv (.tmp 4), none, []⟩,
    ⟨(some 13), .bin .add (.tmp 12) (.const (.int .i64 1)), none, []⟩,
    ⟨(some 4), .mv (.tmp 13), none, []⟩] [0, 3, 4]
def m_laws_toConfigS_10 : Unit → MCode := fun _ => .seq m_laws_toConfigS_8 m_laws_toConfigS_9
def m_laws_toConfigS_11 : Unit → MCode := fun _ => .seq m_laws_toConfigS_6 m_laws_toConfigS_10
def m_laws_toConfigS_12 : Unit → MCode := fun _ => .loop m_laws_toConfigS_11
def m_laws_toConfigS_13 : Unit → MCode := fun _ => .block 0 m_laws_toConfigS_12
def m_laws_toConfigS_14 : Unit → MCode := fun _ => .seq m_laws_toConfigS_3 m_laws_toConfigS_13
def m_laws_toConfigS_15 : Unit → MCode := fun _ => .region [] [⟨(some 22), .mv (.tmp 3), none, []⟩,
    ⟨(some 2), .mv (.tmp 22), none, []⟩] [2]
def m_laws_toConfigS_16 : Unit → MCode := fun _ => .seq m_laws_toConfigS_15 (fun _ => .ret)
def m_laws_toConfigS_17 : Unit → MCode := fun _ => .seq m_laws_toConfigS_14 m_laws_toConfigS_16
def m_laws_toConfigS_18 : Unit → MCode := fun _ => .seq m_laws_toConfigS_2 m_laws_toConfigS_17
def m_laws_toConfigS_19 : Unit → MCode := fun _ => .seq m_laws_toConfigS_1 m_laws_toConfigS_18
def m_laws_toConfigS : MCode := m_laws_toConfigS_19 ()
def h_laws_toConfigS : Hints := [(0, [0], [], [], []), (1, [0, 3], [], [], []), (2, [0, 3, 4], [], [], []), (3, [0, 3, 4, 11], [], [], []), (5, [0, 3, 4], [], [], []), (4, [0, 3, 4], [], [], []), (6, [2], [], [], [])]
def r_laws_toConfigS : List RV := [.t 2]
abbrev n_laws_toConfigS : Nat := 88
theorem k_laws_toConfigS : Known Pr mu n_laws_toConfigS m_laws_toConfigS r_laws_toConfigS Go.Proofs.Try.f88.ntmps := .of h_laws_toConfigS hm Go.Proofs.Try.func88 (by kernel_rfl) (by kernel_rfl) (by kernel_rfl) (by kernel_rfl)
def m_slices_EqualFunc_implConfigimplConfigimplConfigimplConfig_1 : Unit → MCode := fun _ => .region [] [⟨(some 6), .mv (.const (.bool false)), none, []⟩] [0, 1, 2]
def m_slices_EqualFunc_implConfigimplConfigimplConfigimplConfig_2 : Unit → MCode := fun _ => .region [] [⟨(some 10), .mv (.tmp 0), none, []⟩,
    ⟨(some 11), .len false (.tmp 10), none, []⟩,
    ⟨(some 12), .mv (.tmp 1), none, []⟩,
    ⟨(some 13), .len false (.tmp 12), none, []⟩,
    ⟨(some 14), .bin .neq (.tmp 11) (.tmp 13), none, []⟩] [0, 1, 2, 14]
def m_slices_EqualFunc_implConfigimplConfigimplConfigimplConfig_3 : Unit → MCode := fun _ => .region [] [⟨(some 6), .mv (.const (.bool false)), none, []⟩] [6]
def m_slices_EqualFunc_implConfigimplConfigimplConfigimplConfig_4 : Unit → MCode := fun _ => .seq m_slices_EqualFunc_implConfigimplConfigimplConfigimplConfig_3 (fun _ => .ret)
def m_slices_EqualFunc_implConfigimplConfigimplConfigimplConfig_5 : Unit → MCode := fun _ => .cond (.tmp 14) m_slices_EqualFunc_implConfigimplConfigimplConfigimplConfig_4 (fun _ => .skip)
def m_slices_EqualFunc_implConfigimplConfigimplConfigimplConfig_6 : Unit → MCode := fun _ => .seq m_slices_EqualFunc_implConfigimplConfigimplConfigimplConfig_2 m_slices_EqualFunc_implConfigimplConfigimplConfigimplConfig_5
def m_slices_EqualFunc_implConfigimplConfigimplConfigimplConfig_7 : Unit → MCode := fun _ => .region [] [⟨(some 15), .mv (.tmp 0), none, []⟩,
    ⟨(some 16), .len false (.tmp 15), none, []⟩,
    ⟨(some 17), .mv (.const (.int .i64 0)), none, []⟩] [1, 2, 15, 16, 17]
def m_slices_EqualFunc_implConfigimplConfigimplConfigimplConfig_8 : Unit → MCode := fun _ => .region [] [⟨(some 18), .bin .lss (.tmp 17) (.tmp 16), none, []⟩] [1, 2, 15, 16, 17, 18]
def m_slices_EqualFunc_implConfigimplConfigimplConfigimplConfig_9 : Unit → MCode := fun _ => .cond (.tmp 18) (fun _ => .skip) (fun _ => .exit 0)
def m_slices_EqualFunc_implConfigimplConfigimplConfigimplConfig_10 : Unit → MCode := fun _ => .region [] [⟨(some 19), .mv (.tmp 17), none, []⟩,
    ⟨(some 20), .ia (.tmp 15) (.tmp 17) 4, none, []⟩,
    ⟨(some 21), .ld (.tmp 20) 4 true, none, []⟩,
    ⟨(some 8), .alloc [.int .i64 0, .int .i64 0, .slice none 0 0, .slice none 0 0], none, []⟩,
    ⟨(some 7), .mv (.tmp 19), none, []⟩,
    ⟨none, .sto (.tmp 8) (.tmp 21) 4, none, []⟩] [1, 2, 7, 8, 15, 16, 17]
def m_slices_EqualFunc_implConfigimplConfigimplConfigimplConfig_11 : Unit → MCode := fun _ => .region [] [⟨(some 22), .mv (.tmp 1), none, []⟩,
    ⟨(some 23), .mv (.tmp 7), none, []⟩,
    ⟨(some 24), .ia (.tmp 22) (.tmp 23) 4, none, []⟩,
    ⟨(some 25), .ld (.tmp 24) 4 true, none, []⟩,
    ⟨(some 9), .alloc [.int .i64 0, .int .i64 0, .slice none 0 0, .slice none 0 0], none, []⟩,
    ⟨none, .sto (.tmp 9) (.tmp 25) 4, none, []⟩] [1, 2, 8, 9, 15, 16, 17]
def m_slices_EqualFunc_implConfigimplConfigimplConfigimplConfig_12 : Unit → MCode := fun _ => .region [] [⟨(some 26), .mv (.tmp 2), none, []⟩,
    ⟨(some 27), .ld (.tmp 8) 4 true, none, []⟩,
    ⟨(some 28), .ld (.tmp 9) 4 true, none, []⟩,
    ⟨(some 29), .callv (.tmp 26) [(.tmp 27), (.tmp 28)], none, []⟩,
    ⟨(some 30), .not (.tmp 29), none, []⟩] [1, 2, 15, 16, 17, 30]
def m_slices_EqualFunc_implConfigimplConfigimplConfigimplConfig_13 : Unit → MCode := fun _ => .region [] [⟨(some 6), .mv (.const (.bool false)), none, []⟩] [6]
def m_slices_EqualFunc_implConfigimplConfigimplConfigimplConfig_14 : Unit → MCode := fun _ => .seq m_slices_EqualFunc_implConfigimplConfigimplConfigimplConfig_13 (fun _ => .ret)
def m_slices_EqualFunc_implConfigimplConfigimplConfigimplConfig_15 : Unit → MCode := fun _ => .cond (.tmp 30) m_slices_EqualFunc_implConfigimplConfigimplConfigimplConfig_14 (fun _ => .skip)
def m_slices_EqualFunc_implConfigimplConfigimplConfigimplConfig_16 : Unit → MCode := fun _ => .seq m_slices_EqualFunc_implConfigimplConfigimplConfigimplConfig_12 m_slices_EqualFunc_implConfigimplConfigimplConfigimplConfig_15
def m_slices_EqualFunc_implConfigimplConfigimplConfigimplConfig_17 : Unit → MCode := fun _ => .seq m_slices_EqualFunc_implConfigimplConfigimplConfigimplConfig_11 m_slices_EqualFunc_implConfigimplConfigimplConfigimplConfig_16
def m_slices_EqualFunc_implConfigimplConfigimplConfigimplConfig_18 : Unit → MCode := fun _ => .seq m_slices_EqualFunc_implConfigimplConfigimplConfigimplConfig_10 m_slices_EqualFunc_implConfigimplConfigimplConfigimplConfig_17
def m_slices_EqualFunc_implConfigimplConfigimplConfigimplConfig_19 : Unit → MCode := fun _ => .block 1 m_slices_EqualFunc_implConfigimplConfigimplConfigimplConfig_18
def m_slices_EqualFunc_implConfigimplConfigimplConfigimplConfig_20 : Unit → MCode := fun _ => .region [] [⟨(some 31), .bin .add (.tmp 17) (.const (.int .i64 1)), none, []⟩,
    ⟨(some 17), .mv (.tmp 31), none, []⟩] [1, 2, 15, 16, 17]
def m_slices_EqualFunc_implConfigimplConfigimplConfigimplConfig_21 : Unit → MCode := fun _ => .seq m_slices_EqualFunc_implConfigimplConfigimplConfigimplConfig_19 m_slices_EqualFunc_implConfigimplConfigimplConfigimplConfig_20
def m_slices_EqualFunc_implConfigimplConfigimplConfigimplConfig_22 : Unit → MCode := fun _ => .seq m_slices_EqualFunc_implConfigimplConfigimplConfigimplConfig_9 m_slices_EqualFunc_implConfigimplConfigimplConfigimplConfig_21
def m_slices_EqualFunc_implConfigimplConfigimplConfigimplConfig_23 : Unit → MCode := fun _ => .seq m_slices_EqualFunc_implConfigimplConfigimplConfigimplConfig_8 m_slices_EqualFunc_implConfigimplConfigimplConfigimplConfig_22
def m_slices_EqualFunc_implConfigimplConfigimplConfigimplConfig_24 : Unit → MCode := fun _ => .loop m_slices_EqualFunc_implConfigimplConfigimplConfigimplConfig_23
def m_slices_EqualFunc_implConfigimplConfigimplConfigimplConfig_25 : Unit → MCode := fun _ => .block 0 m_slices_EqualFunc_implConfigimplConfigimplConfigimplConfig_24
def m_slices_EqualFunc_implConfigimplConfigimplConfigimplConfig_26 : Unit → MCode := fun _ => .seq m_slices_EqualFunc_implConfigimplConfigimplConfigimplConfig_7 m_slices_EqualFunc_implConfigimplConfigimplConfigimplConfig_25
def m_slices_EqualFunc_implConfigimplConfigimplConfigimplConfig_27 : Unit → MCode := fun _ => .region [] [⟨(some 6), .mv (.const (.bool true)), none, []⟩] [6]
def m_slices_EqualFunc_implConfigimplConfigimplConfigimplConfig_28 : Unit → MCode := fun _ => .seq m_slices_EqualFunc_implConfigimplConfigimplConfigimplConfig_27 (fun _ => .ret)
def m_slices_EqualFunc_implConfigimplConfigimplConfigimplConfig_29 : Unit → MCode := fun _ => .seq m_slices_EqualFunc_implConfigimplConfigimplConfigimplConfig_26 m_slices_EqualFunc_implConfigimplConfigimplConfigimplConfig_28
def m_slices_EqualFunc_implConfigimplConfigimplConfigimplConfig_30 : Unit → MCode := fun _ => .seq m_slices_EqualFunc_implConfigimplConfigimplConfigimplConfig_6 m_slices_EqualFunc_implConfigimplConfigimplConfigimplConfig_29
def m_slices_EqualFunc_implConfigimplConfigimplConfigimplConfig_31 : Unit → MCode := fun _ => .seq m_slices_EqualFunc_implConfigimplConfigimplConfigimplConfig_1 m_slices_EqualFunc_implConfigimplConfigimplConfigimplConfig_30
def m_slices_EqualFunc_implConfigimplConfigimplConfigimplConfig : MCode := m_slices_EqualFunc_implConfigimplConfigimplConfigimplConfig_31 ()
def h_slices_EqualFunc_implConfigimplConfigimplConfigimplConfig : Hints := [(0, [0, 1, 2], [], [], []), (1, [0, 1, 2, 14], [], [], []), (2, [6], [], [], []), (3, [1, 2, 15, 16, 17], [], [], []), (4, [1, 2, 15, 16, 17, 18], [], [], []), (5, [1, 2, 7, 8, 15, 16, 17], [], [], []), (6, [1, 2, 8, 9, 15, 16, 17], [], [], []), (7, [1, 2, 15, 16, 17, 30], [], [], []), (8, [6], [], [], []), (9, [1, 2, 15, 16, 17], [], [], []), (10, [6], [], [], [])]
def r_slices_EqualFunc_implConfigimplConfigimplConfigimplConfig : List RV := [.t 6]
abbrev n_slices_EqualFunc_implConfigimplConfigimplConfigimplConfig : Nat := 89
theorem k_slices_EqualFunc_implConfigimplConfigimplConfigimplConfig : Known Pr mu n_slices_EqualFunc_implConfigimplConfigimplConfigimplConfig m_slices_EqualFunc_implConfigimplConfigimplConfigimplConfig r_slices_EqualFunc_implConfigimplConfigimplConfigimplConfig Go.Proofs.Try.f89.ntmps := .of h_slices_EqualFunc_implConfigimplConfigimplConfigimplConfig hm Go.Proofs.Try.func89 (by kernel_rfl) (by kernel_rfl) (by kernel_rfl) (by kernel_rfl)
def m_laws_eqConfigS_1 : Unit → MCode := fun _ => .region [] [⟨(some 4), .mv (.const (.bool false)), none, []⟩] [0, 1]
def m_laws_eqConfigS_2 : Unit → MCode := fun _ => .region [] [⟨(some 6), .mv (.tmp 0), none, []⟩,
    ⟨(some 7), .len false (.tmp 6), none, []⟩,
    ⟨(some 8), .mv (.tmp 1), none, []⟩,
    ⟨(some 9), .len false (.tmp 8), none, []⟩,
    ⟨(some 10), .bin .neq (.tmp 7) (.tmp 9), none, []⟩] [0, 1, 10]
def m_laws_eqConfigS_3 : Unit → MCode := fun _ => .region [] [⟨(some 4), .mv (.const (.bool false)), none, []⟩] [4]
def m_laws_eqConfigS_4 : Unit → MCode := fun _ => .seq m_laws_eqConfigS_3 (fun _ => .ret)
def m_laws_eqConfigS_5 : Unit → MCode := fun _ => .cond (.tmp 10) m_laws_eqConfigS_4 (fun _ => .skip)
def m_laws_eqConfigS_6 : Unit → MCode := fun _ => .seq m_laws_eqConfigS_2 m_laws_eqConfigS_5
def m_laws_eqConfigS_7 : Unit → MCode := fun _ => .region [] [⟨(some 5), .mv (.const (.int .i64 0)), none, []⟩] [0, 1, 5]
def m_laws_eqConfigS_8 : Unit → MCode := fun _ => .region [] [⟨(some 11), .mv (.tmp 5), none, []⟩,
    ⟨(some 12), .mv (.tmp 0), none, []⟩,
    ⟨(some 13), .len false (.tmp 12), none, []⟩,
    ⟨(some 14), .bin .lss (.tmp 11) (.tmp 13), none, []⟩] [0, 1, 5, 14]
def m_laws_eqConfigS_9 : Unit → MCode := fun _ => .cond (.tmp 14) (fun _ => .skip) (fun _ => .exit 0)
def m_laws_eqConfigS_10 : Unit → MCode := fun _ => .seq m_laws_eqConfigS_8 m_laws_eqConfigS_9
def m_laws_eqConfigS_11 : Unit → MCode := fun _ => .region [] [⟨(some 17), .mv (.tmp 0), none, []⟩,
    ⟨(some 18), .mv (.tmp 5), none, []⟩,
    ⟨(some 19), .ia (.tmp 17) (.tmp 18) 4, none, []⟩,
    ⟨(some 20), .ld (.tmp 19) 4 true, none, []⟩,
    ⟨(some 21), .mv (.tmp 1), none, []⟩,
    ⟨(some 22), .mv (.tmp 5), none, []⟩,
    ⟨(some 23), .ia (.tmp 21) (.tmp 22) 4, none, [0, 1, 2, 3]⟩,
    ⟨(some 24), .ld (.tmp 23) 4 true, none, [0, 1, 2, 3]⟩,
    ⟨(some 25), .call 28 [(.tmp 20), (.tmp 24)], none, []⟩,
    ⟨(some 26), .not (.tmp 25), none, []⟩] [0, 1, 5, 26]
def m_laws_eqConfigS_12 : Unit → MCode := fun _ => .region [] [⟨(some 4), .mv (.const (.bool false)), none, []⟩] [4]
def m_laws_eqConfigS_13 : Unit → MCode := fun _ => .seq m_laws_eqConfigS_12 (fun _ => .ret)
def m_laws_eqConfigS_14 : Unit → MCode := fun _ => .cond (.tmp 26) m_laws_eqConfigS_13 (fun _ => .skip)
def m_laws_eqConfigS_15 : Unit → MCode := fun _ => .seq m_laws_eqConfigS_11 m_laws_eqConfigS_14
def m_laws_eqConfigS_16 : Unit → MCode := fun _ => .block 1 m_laws_eqConfigS_15
def m_laws_eqConfigS_17 : Unit → MCode := fun _ => .region [] [⟨(some 15), .mv (.tmp 5), none, []⟩,
    ⟨(some 16), .bin .add (.tmp 15) (.const (.int .i64 1)), none, []⟩,
    ⟨(some 5), .mv (.tmp 16), none, []⟩] [0, 1, 5]
def m_laws_eqConfigS_18 : Unit → MCode := fun _ => .seq m_laws_eqConfigS_16 m_laws_eqConfigS_17
def m_laws_eqConfigS_19 : Unit → MCode := fun _ => .seq m_laws_eqConfigS_10 m_laws_eqConfigS_18
def m_laws_eqConfigS_20 : Unit → MCode := fun _ => .loop m_laws_eqConfigS_19
def m_laws_eqConfigS_21 : Unit → MCode := fun _ => .block 0 m_laws_eqConfigS_20
def m_laws_eqConfigS_22 : Unit → MCode := fun _ => .seq m_laws_eqConfigS_7 m_laws_eqConfigS_21
def m_laws_eqConfigS_23 : Unit → MCode := fun _ => .region [] [⟨(some 4), .mv (.const (.bool true)), none, []⟩] [4]
def m_laws_eqConfigS_24 : Unit → MCode := fun _ => .seq m_laws_eqConfigS_23 (fun _ => .ret)
def m_laws_eqConfigS_25 : Unit → MCode := fun _ => .seq m_laws_eqConfigS_22 m_laws_eqConfigS_24
def m_laws_eqConfigS_26 : Unit → MCode := fun _ => .seq m_laws_eqConfigS_6 m_laws_eqConfigS_25
def m_laws_eqConfigS_27 : Unit → MCode := fun _ => .seq m_laws_eqConfigS_1 m_laws_eqConfigS_26
def m_laws_eqConfigS : MCode := m_laws_eqConfigS_27 ()
def h_laws_eqConfigS : Hints := [(0, [0, 1], [], [], []), (1, [0, 1, 10], [], [], []), (2, [4], [], [], []), (3, [0, 1, 5], [], [], []), (4, [0, 1, 5, 14], [], [], []), (6, [0, 1, 5, 26], [[], [], [], [], [], [], [0, 1, 2, 3], [0, 1, 2, 3]], [], []), (7, [4], [], [], []), (5, [0, 1, 5], [], [], []), (8, [4], [], [], [])]
def r_laws_eqConfigS : List RV := [.t 4]
abbrev n_laws_eqConfigS : Nat := 90
theorem k_laws_eqConfigS : Known Pr mu n_laws_eqConfigS m_laws_eqConfigS r_laws_eqConfigS Go.Proofs.Try.f90.ntmps := .of h_laws_eqConfigS hm Go.Proofs.Try.func90 (by kernel_rfl) (by kernel_rfl) (by kernel_rfl) (by kernel_rfl)
def m_slices_Equal_intint_1 : Unit → MCode := fun _ => .region [] [⟨(some 4), .mv (.const (.bool false)), none, []⟩] [0, 1]
def m_slices_Equal_intint_2 : Unit → MCode := fun _ => .region [] [⟨(some 6), .mv (.tmp 0), none, []⟩,
    ⟨(some 7), .len false (.tmp 6), none, []⟩,
    ⟨(some 8), .mv (.tmp 1), none, []⟩,
    ⟨(some 9), .len false (.tmp 8), none, []⟩,
    ⟨(some 10), .bin .neq (.tmp 7) (.tmp 9), none, []⟩] [0, 1, 10]
def m_slices_Equal_intint_3 : Unit → MCode := fun _ => .region [] [⟨(some 4), .mv (.const (.bool false)), none, []⟩] [4]
def m_slices_Equal_intint_4 : Unit → MCode := fun _ => .seq m_slices_Equal_intint_3 (fun _ => .ret)
def m_slices_Equal_intint_5 : Unit → MCode := fun _ => .cond (.tmp 10) m_slices_Equal_intint_4 (fun _ => .skip)
def m_slices_Equal_intint_6 : Unit → MCode := fun _ => .seq m_slices_Equal_intint_2 m_slices_Equal_intint_5
def m_slices_Equal_intint_7 : Unit → MCode := fun _ => .region [] [⟨(some 11), .mv (.tmp 0), none, []⟩,
    ⟨(some 12), .len false (.tmp 11), none, []⟩,
    ⟨(some 13), .mv (.const (.int .i64 0)), none, []⟩] [0, 1, 12, 13]
def m_slices_Equal_intint_8 : Unit → MCode := fun _ => .region [] [⟨(some 14), .bin .lss (.tmp 13) (.tmp 12), none, []⟩] [0, 1, 12, 13, 14]
def m_slices_Equal_intint_9 : Unit → MCode := fun _ => .cond (.tmp 14) (fun _ => .skip) (fun _ => .exit 0)
def m_slices_Equal_intint_10 : Unit → MCode := fun _ => .region [] [⟨(some 15), .mv (.tmp 13), none, []⟩,
    ⟨(some 5), .mv (.tmp 15), none, []⟩] [0, 1, 5, 12, 13]
def m_slices_Equal_intint_11 : Unit → MCode := fun _ => .region [] [⟨(some 16), .mv (.tmp 0), none, []⟩,
    ⟨(some 17), .mv (.tmp 5), none, []⟩,
    ⟨(some 18), .ia (.tmp 16) (.tmp 17) 1, none, []⟩,
    ⟨(some 19), .ld (.tmp 18) 1 false, none, []⟩,
    ⟨(some 20), .mv (.tmp 1), none, []⟩,
    ⟨(some 21), .mv (.tmp 5), none, []⟩,
    ⟨(some 22), .ia (.tmp 20) (.tmp 21) 1, none, [0, 1, 2, 3]⟩,
    ⟨(some 23), .ld (.tmp 22) 1 false, none, [0, 1, 2, 3]⟩,
    ⟨(some 24), .bin .neq (.tmp 19) (.tmp 23), none, []⟩] [0, 1, 12, 13, 24]
def m_slices_Equal_intint_12 : Unit → MCode := fun _ => .region [] [⟨(some 4), .mv (.const (.bool false)), none, []⟩] [4]
def m_slices_Equal_intint_13 : Unit → MCode := fun _ => .seq m_slices_Equal_intint_12 (fun _ => .ret)
def m_slices_Equal_intint_14 : Unit → MCode := fun _ => .cond (.tmp 24) m_slices_Equal_intint_13 (fun _ => .skip)
def m_slices_Equal_intint_15 : Unit → MCode := fun _ => .seq m_slices_Equal_intint_11 m_slices_Equal_intint_14
def m_slices_Equal_intint_16 : Unit → MCode := fun _ => .seq m_slices_Equal_intint_10 m_slices_Equal_intint_15
def m_slices_Equal_intint_17 : Unit → MCode := fun _ => .block 1 m_slices_Equal_intint_16
def m_slices_Equal_intint_18 : Unit → MCode := fun _ => .region [] [⟨(some 25), .bin .add (.tmp 13) (.const (.int .i64 1)), none, []⟩,
    ⟨(some 13), .mv (.tmp 25), none, []⟩] [0, 1, 12, 13]
def m_slices_Equal_intint_19 : Unit → MCode := fun _ => .seq m_slices_Equal_intint_17 m_slices_Equal_intint_18
def m_slices_Equal_intint_20 : Unit → MCode := fun _ => .seq m_slices_Equal_intint_9 m_slices_Equal_intint_19
def m_slices_Equal_intint_21 : Unit → MCode := fun _ => .seq m_slices_Equal_intint_8 m_slices_Equal_intint_20
def m_slices_Equal_intint_22 : Unit → MCode := fun _ => .loop m_slices_Equal_intint_21
def m_slices_Equal_intint_23 : Unit → MCode := fun _ => .block 0 m_slices_Equal_intint_22
def m_slices_Equal_intint_24 : Unit → MCode := fun _ => .seq m_slices_Equal_intint_7 m_slices_Equal_intint_23
def m_slices_Equal_intint_25 : Unit → MCode := fun _ => .region [] [⟨(some 4), .mv (.const (.bool true)), none, []⟩] [4]
def m_slices_Equal_intint_26 : Unit → MCode := fun _ => .seq m_slices_Equal_intint_25 (fun _ => .ret)
def m_slices_Equal_intint_27 : Unit → MCode := fun _ => .seq m_slices_Equal_intint_24 m_slices_Equal_intint_26
def m_slices_Equal_intint_28 : Unit → MCode := fun _ => .seq m_slices_Equal_intint_6 m_slices_Equal_intint_27
def m_slices_Equal_intint_29 : Unit → MCode := fun _ => .seq m_slices_Equal_intint_1 m_slices_Equal_intint_28
def m_slices_Equal_intint : MCode := m_slices_Equal_intint_29 ()
def h_slices_Equal_intint : Hints := [(0, [0, 1], [], [], []), (1, [0, 1, 10], [], [], []), (2, [4], [], [], []), (3, [0, 1, 12, 13], [], [], []), (4, [0, 1, 12, 13, 14], [], [], []), (5, [0, 1, 5, 12, 13], [], [], []), (6, [0, 1, 12, 13, 24], [[], [], [], [], [], [], [0, 1, 2, 3], [0, 1, 2, 3]], [], []), (7, [4], [], [], []), (8, [0, 1, 12, 13], [], [], []), (9, [4], [], [], [])]
def r_slices_Equal_intint : List RV := [.t 4]
abbrev n_slices_Equal_intint : Nat := 108
theorem k_slices_Equal_intint : Known Pr mu n_slices_Equal_intint m_slices_Equal_intint r_slices_Equal_intint Go.Proofs.Try.f108.ntmps := .of h_slices_Equal_intint hm Go.Proofs.Try.func108 (by kernel_rfl) (by kernel_rfl) (by kernel_rfl) (by kernel_rfl)
end Go.V.T
