/- The short code of the functions that FnExactNewAcceptors reaches, held against the program. Conditions: none. -/
import Derived.Test.YtiamffhoiajgnaaV5
import Derived.Test.YtiamffhoiajgnaaProg
namespace Go.V.T
open Go Go.V
noncomputable abbrev Pr := Go.Proofs.Try.prog
def mu : Nat → Bool := fun n => Nat.beq n 32 || Nat.beq n 51 || Nat.beq n 59 || Nat.beq n 82 || Nat.beq n 98
theorem hm : Pr.follows .mixedOrders = true := by kernel_rfl
def m_laws_FnExactNewAcceptors_1 : Unit → MCode := fun _ => .region [] [⟨(some 0), .mv (.const (.bool false)), none, []⟩] []
def m_laws_FnExactNewAcceptors_2 : Unit → MCode := fun _ => .region [] [⟨(some 6), .call 29 [], none, []⟩,
    ⟨(some 1), .mv (.tmp 6), none, []⟩] [1]
def m_laws_FnExactNewAcceptors_3 : Unit → MCode := fun _ => .region [] [⟨(some 7), .call 30 [], none, []⟩,
    ⟨(some 2), .mv (.tmp 7), none, []⟩] [1, 2]
def m_laws_FnExactNewAcceptors_4 : Unit → MCode := fun _ => .region [] [⟨(some 8), .mv (.tmp 2), none, []⟩,
    ⟨(some 9), .mv (.tmp 1), none, []⟩,
    ⟨(some 10), .call 31 [(.tmp 8), (.tmp 9)], none, []⟩,
    ⟨(some 11), .not (.tmp 10), none, []⟩] [1, 2, 11]
def m_laws_FnExactNewAcceptors_5 : Unit → MCode := fun _ => .region [] [⟨(some 0), .mv (.const (.bool false)), none, []⟩] [0]
def m_laws_FnExactNewAcceptors_6 : Unit → MCode := fun _ => .seq m_laws_FnExactNewAcceptors_5 (fun _ => .ret)
def m_laws_FnExactNewAcceptors_7 : Unit → MCode := fun _ => .cond (.tmp 11) m_laws_FnExactNewAcceptors_6 (fun _ => .skip)
def m_laws_FnExactNewAcceptors_8 : Unit → MCode := fun _ => .seq m_laws_FnExactNewAcceptors_4 m_laws_FnExactNewAcceptors_7
def m_laws_FnExactNewAcceptors_9 : Unit → MCode := fun _ => .region [] [⟨(some 3), .mv (.const (.int .i64 1)), none, []⟩] [1, 2, 3]
def m_laws_FnExactNewAcceptors_10 : Unit → MCode := fun _ => .region [] [⟨(some 12), .mv (.tmp 2), none, []⟩,
    ⟨(some 13), .mv (.tmp 3), none, []⟩,
    ⟨(some 14), .callm 32 [(.tmp 12), (.tmp 13)], none, []⟩,
    ⟨(some 3), .mv (.tmp 14), none, []⟩] [1, 2, 3]
def m_laws_FnExactNewAcceptors_11 : Unit → MCode := fun _ => .region [] [⟨(some 4), .mv (.const (.int .i64 1)), none, []⟩] [1, 2, 3, 4]
def m_laws_FnExactNewAcceptors_12 : Unit → MCode := fun _ => .region [] [⟨(some 15), .mv (.tmp 2), none, []⟩,
    ⟨(some 16), .mv (.tmp 4), none, []⟩,
    ⟨(some 17), .call 33 [(.tmp 15), (.tmp 16)], none, []⟩,
    ⟨(some 4), .mv (.tmp 17), none, []⟩] [1, 2, 3, 4]
def m_laws_FnExactNewAcceptors_13 : Unit → MCode := fun _ => .region [] [⟨(some 18), .mv (.tmp 4), none, []⟩,
    ⟨(some 19), .bin .lss (.tmp 18) (.const (.int .i64 0)), none, []⟩] [1, 2, 3, 4, 19]
def m_laws_FnExactNewAcceptors_14 : Unit → MCode := fun _ => .region [] [⟨(some 0), .mv (.const (.bool false)), none, []⟩] [0]
def m_laws_FnExactNewAcceptors_15 : Unit → MCode := fun _ => .seq m_laws_FnExactNewAcceptors_14 (fun _ => .ret)
def m_laws_FnExactNewAcceptors_16 : Unit → MCode := fun _ => .cond (.tmp 19) m_laws_FnExactNewAcceptors_15 (fun _ => .skip)
def m_laws_FnExactNewAcceptors_17 : Unit → MCode := fun _ => .seq m_laws_FnExactNewAcceptors_13 m_laws_FnExactNewAcceptors_16
def m_laws_FnExactNewAcceptors_18 : Unit → MCode := fun _ => .region [] [⟨(some 20), .mv (.tmp 4), none, []⟩,
    ⟨(some 21), .mv (.tmp 3), none, []⟩,
    ⟨(some 22), .bin .neq (.tmp 20) (.tmp 21), none, []⟩] [1, 2, 3, 22]
def m_laws_FnExactNewAcceptors_19 : Unit → MCode := fun _ => .region [] [⟨(some 0), .mv (.const (.bool false)), none, []⟩] [0]
def m_laws_FnExactNewAcceptors_20 : Unit → MCode := fun _ => .seq m_laws_FnExactNewAcceptors_19 (fun _ => .ret)
def m_laws_FnExactNewAcceptors_21 : Unit → MCode := fun _ => .cond (.tmp 22) m_laws_FnExactNewAcceptors_20 (fun _ => .skip)
def m_laws_FnExactNewAcceptors_22 : Unit → MCode := fun _ => .seq m_laws_FnExactNewAcceptors_18 m_laws_FnExactNewAcceptors_21
def m_laws_FnExactNewAcceptors_23 : Unit → MCode := fun _ => .region [] [⟨(some 23), .call 30 [], none, []⟩,
    ⟨(some 5), .mv (.tmp 23), none, []⟩] [1, 2, 3, 5]
def m_laws_FnExactNewAcceptors_24 : Unit → MCode := fun _ => .region [] [⟨(some 24), .mv (.tmp 5), none, []⟩,
    ⟨(some 25), .mv (.tmp 1), none, []⟩,
    ⟨(some 26), .call 31 [(.tmp 24), (.tmp 25)], none, []⟩,
    ⟨(some 27), .not (.tmp 26), none, []⟩] [2, 3, 27]
def m_laws_FnExactNewAcceptors_25 : Unit → MCode := fun _ => .region [] [⟨(some 0), .mv (.const (.bool false)), none, []⟩] [0]
def m_laws_FnExactNewAcceptors_26 : Unit → MCode := fun _ => .seq m_laws_FnExactNewAcceptors_25 (fun _ => .ret)
def m_laws_FnExactNewAcceptors_27 : Unit → MCode := fun _ => .cond (.tmp 27) m_laws_FnExactNewAcceptors_26 (fun _ => .skip)
def m_laws_FnExactNewAcceptors_28 : Unit → MCode := fun _ => .seq m_laws_FnExactNewAcceptors_24 m_laws_FnExactNewAcceptors_27
def m_laws_FnExactNewAcceptors_29 : Unit → MCode := fun _ => .region [] [⟨(some 4), .mv (.const (.int .i64 1)), none, []⟩] [2, 3, 4]
def m_laws_FnExactNewAcceptors_30 : Unit → MCode := fun _ => .region [] [⟨(some 28), .mv (.tmp 2), none, []⟩,
    ⟨(some 29), .mv (.tmp 4), none, []⟩,
    ⟨(some 30), .call 33 [(.tmp 28), (.tmp 29)], none, []⟩,
    ⟨(some 4), .mv (.tmp 30), none, []⟩] [3, 4]
def m_laws_FnExactNewAcceptors_31 : Unit → MCode := fun _ => .region [] [⟨(some 31), .mv (.tmp 4), none, []⟩,
    ⟨(some 32), .bin .lss (.tmp 31) (.const (.int .i64 0)), none, []⟩] [3, 4, 32]
def m_laws_FnExactNewAcceptors_32 : Unit → MCode := fun _ => .region [] [⟨(some 0), .mv (.const (.bool false)), none, []⟩] [0]
def m_laws_FnExactNewAcceptors_33 : Unit → MCode := fun _ => .seq m_laws_FnExactNewAcceptors_32 (fun _ => .ret)
def m_laws_FnExactNewAcceptors_34 : Unit → MCode := fun _ => .cond (.tmp 32) m_laws_FnExactNewAcceptors_33 (fun _ => .skip)
def m_laws_FnExactNewAcceptors_35 : Unit → MCode := fun _ => .seq m_laws_FnExactNewAcceptors_31 m_laws_FnExactNewAcceptors_34
def m_laws_FnExactNewAcceptors_36 : Unit → MCode := fun _ => .region [] [⟨(some 33), .mv (.tmp 4), none, []⟩,
    ⟨(some 34), .mv (.tmp 3), none, []⟩,
    ⟨(some 35), .bin .neq (.tmp 33) (.tmp 34), none, []⟩] [35]
def m_laws_FnExactNewAcceptors_37 : Unit → MCode := fun _ => .region [] [⟨(some 0), .mv (.const (.bool false)), none, []⟩] [0]
def m_laws_FnExactNewAcceptors_38 : Unit → MCode := fun _ => .seq m_laws_FnExactNewAcceptors_37 (fun _ => .ret)
def m_laws_FnExactNewAcceptors_39 : Unit → MCode := fun _ => .cond (.tmp 35) m_laws_FnExactNewAcceptors_38 (fun _ => .skip)
def m_laws_FnExactNewAcceptors_40 : Unit → MCode := fun _ => .seq m_laws_FnExactNewAcceptors_36 m_laws_FnExactNewAcceptors_39
def m_laws_FnExactNewAcceptors_41 : Unit → MCode := fun _ => .region [] [⟨(some 0), .mv (.const (.bool true)), none, []⟩] [0]
def m_laws_FnExactNewAcceptors_42 : Unit → MCode := fun _ => .seq m_laws_FnExactNewAcceptors_41 (fun _ => .ret)
def m_laws_FnExactNewAcceptors_43 : Unit → MCode := fun _ => .seq m_laws_FnExactNewAcceptors_40 m_laws_FnExactNewAcceptors_42
def m_laws_FnExactNewAcceptors_44 : Unit → MCode := fun _ => .seq m_laws_FnExactNewAcceptors_35 m_laws_FnExactNewAcceptors_43
def m_laws_FnExactNewAcceptors_45 : Unit → MCode := fun _ => .seq m_laws_FnExactNewAcceptors_30 m_laws_FnExactNewAcceptors_44
def m_laws_FnExactNewAcceptors_46 : Unit → MCode := fun _ => .seq m_laws_FnExactNewAcceptors_29 m_laws_FnExactNewAcceptors_45
def m_laws_FnExactNewAcceptors_47 : Unit → MCode := fun _ => .seq m_laws_FnExactNewAcceptors_28 m_laws_FnExactNewAcceptors_46
def m_laws_FnExactNewAcceptors_48 : Unit → MCode := fun _ => .seq m_laws_FnExactNewAcceptors_23 m_laws_FnExactNewAcceptors_47
def m_laws_FnExactNewAcceptors_49 : Unit → MCode := fun _ => .seq m_laws_FnExactNewAcceptors_22 m_laws_FnExactNewAcceptors_48
def m_laws_FnExactNewAcceptors_50 : Unit → MCode := fun _ => .seq m_laws_FnExactNewAcceptors_17 m_laws_FnExactNewAcceptors_49
def m_laws_FnExactNewAcceptors_51 : Unit → MCode := fun _ => .seq m_laws_FnExactNewAcceptors_12 m_laws_FnExactNewAcceptors_50
def m_laws_FnExactNewAcceptors_52 : Unit → MCode := fun _ => .seq m_laws_FnExactNewAcceptors_11 m_laws_FnExactNewAcceptors_51
def m_laws_FnExactNewAcceptors_53 : Unit → MCode := fun _ => .seq m_laws_FnExactNewAcceptors_10 m_laws_FnExactNewAcceptors_52
def m_laws_FnExactNewAcceptors_54 : Unit → MCode := fun _ => .seq m_laws_FnExactNewAcceptors_9 m_laws_FnExactNewAcceptors_53
def m_laws_FnExactNewAcceptors_55 : Unit → MCode := fun _ => .seq m_laws_FnExactNewAcceptors_8 m_laws_FnExactNewAcceptors_54
def m_laws_FnExactNewAcceptors_56 : Unit → MCode := fun _ => .seq m_laws_FnExactNewAcceptors_3 m_laws_FnExactNewAcceptors_55
def m_laws_FnExactNewAcceptors_57 : Unit → MCode := fun _ => .seq m_laws_FnExactNewAcceptors_2 m_laws_FnExactNewAcceptors_56
def m_laws_FnExactNewAcceptors_58 : Unit → MCode := fun _ => .seq m_laws_FnExactNewAcceptors_1 m_laws_FnExactNewAcceptors_57
def m_laws_FnExactNewAcceptors : MCode := m_laws_FnExactNewAcceptors_58 ()
def h_laws_FnExactNewAcceptors : Hints := [(0, [], [], [], []), (1, [1], [], [], []), (2, [1, 2], [], [], []), (3, [1, 2, 11], [], [], []), (4, [0], [], [], []), (5, [1, 2, 3], [], [], []), (6, [1, 2, 3], [], [], []), (7, [1, 2, 3, 4], [], [], []), (8, [1, 2, 3, 4], [], [], []), (9, [1, 2, 3, 4, 19], [], [], []), (10, [0], [], [], []), (11, [1, 2, 3, 22], [], [], []), (12, [0], [], [], []), (13, [1, 2, 3, 5], [], [], []), (14, [2, 3, 27], [], [], []), (15, [0], [], [], []), (16, [2, 3, 4], [], [], []), (17, [3, 4], [], [], []), (18, [3, 4, 32], [], [], []), (19, [0], [], [], []), (20, [35], [], [], []), (21, [0], [], [], []), (22, [0], [], [], [])]
def r_laws_FnExactNewAcceptors : List RV := [.t 0]
abbrev n_laws_FnExactNewAcceptors : Nat := 6
theorem k_laws_FnExactNewAcceptors : Known Pr mu n_laws_FnExactNewAcceptors m_laws_FnExactNewAcceptors r_laws_FnExactNewAcceptors Go.Proofs.Try.f6.ntmps := .of h_laws_FnExactNewAcceptors hm Go.Proofs.Try.func6 (by kernel_rfl) (by kernel_rfl) (by kernel_rfl) (by kernel_rfl)
def m_laws_eqConfig_1 : Unit → MCode := fun _ => .region [] [⟨(some 2), .box (.tmp 0), none, []⟩,
    ⟨(some 3), .box (.tmp 1), none, []⟩,
    ⟨(some 4), .mv (.const (.bool false)), none, []⟩] [2, 3]
def m_laws_eqConfig_2 : Unit → MCode := fun _ => .region [] [⟨(some 5), .fa (.tmp 2) 0, none, []⟩,
    ⟨(some 6), .ld (.tmp 5) 1 false, none, []⟩,
    ⟨(some 7), .fa (.tmp 3) 0, none, []⟩,
    ⟨(some 8), .ld (.tmp 7) 1 false, none, []⟩,
    ⟨(some 9), .bin .neq (.tmp 6) (.tmp 8), none, []⟩] [2, 3, 9]
def m_laws_eqConfig_3 : Unit → MCode := fun _ => .region [] [⟨(some 4), .mv (.const (.bool false)), none, []⟩] [4]
def m_laws_eqConfig_4 : Unit → MCode := fun _ => .seq m_laws_eqConfig_3 (fun _ => .ret)
def m_laws_eqConfig_5 : Unit → MCode := fun _ => .cond (.tmp 9) m_laws_eqConfig_4 (fun _ => .skip)
def m_laws_eqConfig_6 : Unit → MCode := fun _ => .seq m_laws_eqConfig_2 m_laws_eqConfig_5
def m_laws_eqConfig_7 : Unit → MCode := fun _ => .region [] [⟨(some 10), .fa (.tmp 2) 1, none, []⟩,
    ⟨(some 11), .ld (.tmp 10) 1 false, none, []⟩,
    ⟨(some 12), .fa (.tmp 3) 1, none, []⟩,
    ⟨(some 13), .ld (.tmp 12) 1 false, none, []⟩,
    ⟨(some 14), .bin .neq (.tmp 11) (.tmp 13), none, []⟩] [2, 3, 14]
def m_laws_eqConfig_8 : Unit → MCode := fun _ => .region [] [⟨(some 4), .mv (.const (.bool false)), none, []⟩] [4]
def m_laws_eqConfig_9 : Unit → MCode := fun _ => .seq m_laws_eqConfig_8 (fun _ => .ret)
def m_laws_eqConfig_10 : Unit → MCode := fun _ => .cond (.tmp 14) m_laws_eqConfig_9 (fun _ => .skip)
def m_laws_eqConfig_11 : Unit → MCode := fun _ => .seq m_laws_eqConfig_7 m_laws_eqConfig_10
def m_laws_eqConfig_12 : Unit → MCode := fun _ => .region [] [⟨(some 15), .fa (.tmp 2) 2, none, []⟩,
    ⟨(some 16), .ld (.tmp 15) 1 false, none, []⟩,
    ⟨(some 17), .fa (.tmp 3) 2, none, []⟩,
    ⟨(some 18), .ld (.tmp 17) 1 false, none, []⟩,
    ⟨(some 19), .call 81 [(.tmp 16), (.tmp 18)], none, []⟩,
    ⟨(some 20), .not (.tmp 19), none, []⟩] [2, 3, 20]
def m_laws_eqConfig_13 : Unit → MCode := fun _ => .region [] [⟨(some 4), .mv (.const (.bool false)), none, []⟩] [4]
def m_laws_eqConfig_14 : Unit → MCode := fun _ => .seq m_laws_eqConfig_13 (fun _ => .ret)
def m_laws_eqConfig_15 : Unit → MCode := fun _ => .cond (.tmp 20) m_laws_eqConfig_14 (fun _ => .skip)
def m_laws_eqConfig_16 : Unit → MCode := fun _ => .seq m_laws_eqConfig_12 m_laws_eqConfig_15
def m_laws_eqConfig_17 : Unit → MCode := fun _ => .region [] [⟨(some 21), .fa (.tmp 2) 3, none, []⟩,
    ⟨(some 22), .ld (.tmp 21) 1 false, none, []⟩,
    ⟨(some 23), .fa (.tmp 3) 3, none, []⟩,
    ⟨(some 24), .ld (.tmp 23) 1 false, none, []⟩,
    ⟨(some 25), .call 81 [(.tmp 22), (.tmp 24)], none, []⟩,
    ⟨(some 26), .not (.tmp 25), none, []⟩] [26]
def m_laws_eqConfig_18 : Unit → MCode := fun _ => .region [] [⟨(some 4), .mv (.const (.bool false)), none, []⟩] [4]
def m_laws_eqConfig_19 : Unit → MCode := fun _ => .seq m_laws_eqConfig_18 (fun _ => .ret)
def m_laws_eqConfig_20 : Unit → MCode := fun _ => .cond (.tmp 26) m_laws_eqConfig_19 (fun _ => .skip)
def m_laws_eqConfig_21 : Unit → MCode := fun _ => .seq m_laws_eqConfig_17 m_laws_eqConfig_20
def m_laws_eqConfig_22 : Unit → MCode := fun _ => .region [] [⟨(some 4), .mv (.const (.bool true)), none, []⟩] [4]
def m_laws_eqConfig_23 : Unit → MCode := fun _ => .seq m_laws_eqConfig_22 (fun _ => .ret)
def m_laws_eqConfig_24 : Unit → MCode := fun _ => .seq m_laws_eqConfig_21 m_laws_eqConfig_23
def m_laws_eqConfig_25 : Unit → MCode := fun _ => .seq m_laws_eqConfig_16 m_laws_eqConfig_24
def m_laws_eqConfig_26 : Unit → MCode := fun _ => .seq m_laws_eqConfig_11 m_laws_eqConfig_25
def m_laws_eqConfig_27 : Unit → MCode := fun _ => .seq m_laws_eqConfig_6 m_laws_eqConfig_26
def m_laws_eqConfig_28 : Unit → MCode := fun _ => .seq m_laws_eqConfig_1 m_laws_eqConfig_27
def m_laws_eqConfig : MCode := m_laws_eqConfig_28 ()
def h_laws_eqConfig : Hints := [(0, [2, 3], [], [], []), (1, [2, 3, 9], [], [], []), (2, [4], [], [], []), (3, [2, 3, 14], [], [], []), (4, [4], [], [], []), (5, [2, 3, 20], [], [], []), (6, [4], [], [], []), (7, [26], [], [], []), (8, [4], [], [], []), (9, [4], [], [], [])]
def r_laws_eqConfig : List RV := [.t 4]
abbrev n_laws_eqConfig : Nat := 28
theorem k_laws_eqConfig : Known Pr mu n_laws_eqConfig m_laws_eqConfig r_laws_eqConfig Go.Proofs.Try.f28.ntmps := .of h_laws_eqConfig hm Go.Proofs.Try.func28 (by kernel_rfl) (by kernel_rfl) (by kernel_rfl) (by kernel_rfl)
def m_spec_NewAcceptors_1 : Unit → MCode := fun _ => .region [] [⟨(some 0), .mv (.const (.slice none 0 0)), none, []⟩] []
def m_spec_NewAcceptors_2 : Unit → MCode := fun _ => .region [] [⟨(some 1), .mks 6 80 [.int .i64 0, .int .i64 0, .int .i64 0, .int .i64 0, .slice none 0 0, .slice none 0 0] (.const (.int .i64 3)) (.const (.int .i64 3)), none, []⟩,
    ⟨(some 0), .mv (.tmp 1), none, []⟩] [0]
def m_spec_NewAcceptors_3 : Unit → MCode := fun _ => .seq m_spec_NewAcceptors_2 (fun _ => .ret)
def m_spec_NewAcceptors_4 : Unit → MCode := fun _ => .seq m_spec_NewAcceptors_1 m_spec_NewAcceptors_3
def m_spec_NewAcceptors : MCode := m_spec_NewAcceptors_4 ()
def h_spec_NewAcceptors : Hints := [(0, [], [], [], []), (1, [0], [], [], [])]
def r_spec_NewAcceptors : List RV := [.t 0]
abbrev n_spec_NewAcceptors : Nat := 29
theorem k_spec_NewAcceptors : Known Pr mu n_spec_NewAcceptors m_spec_NewAcceptors r_spec_NewAcceptors Go.Proofs.Try.f29.ntmps := .of h_spec_NewAcceptors hm Go.Proofs.Try.func29 (by kernel_rfl) (by kernel_rfl) (by kernel_rfl) (by kernel_rfl)
def m_impl_NewAcceptors_1 : Unit → MCode := fun _ => .region [] [⟨(some 0), .mv (.const (.slice none 0 0)), none, []⟩] []
def m_impl_NewAcceptors_2 : Unit → MCode := fun _ => .region [] [⟨(some 1), .mks 6 80 [.int .i64 0, .int .i64 0, .int .i64 0, .int .i64 0, .slice none 0 0, .slice none 0 0] (.const (.int .i64 3)) (.const (.int .i64 3)), none, []⟩,
    ⟨(some 0), .mv (.tmp 1), none, []⟩] [0]
def m_impl_NewAcceptors_3 : Unit → MCode := fun _ => .seq m_impl_NewAcceptors_2 (fun _ => .ret)
def m_impl_NewAcceptors_4 : Unit → MCode := fun _ => .seq m_impl_NewAcceptors_1 m_impl_NewAcceptors_3
def m_impl_NewAcceptors : MCode := m_impl_NewAcceptors_4 ()
def h_impl_NewAcceptors : Hints := [(0, [], [], [], []), (1, [0], [], [], [])]
def r_impl_NewAcceptors : List RV := [.t 0]
abbrev n_impl_NewAcceptors : Nat := 30
theorem k_impl_NewAcceptors : Known Pr mu n_impl_NewAcceptors m_impl_NewAcceptors r_impl_NewAcceptors Go.Proofs.Try.f30.ntmps := .of h_impl_NewAcceptors hm Go.Proofs.Try.func30 (by kernel_rfl) (by kernel_rfl) (by kernel_rfl) (by kernel_rfl)
def m_laws_eqAcceptorS_1 : Unit → MCode := fun _ => .region [] [⟨(some 4), .mv (.const (.bool false)), none, []⟩] [0, 1]
def m_laws_eqAcceptorS_2 : Unit → MCode := fun _ => .region [] [⟨(some 6), .mv (.tmp 0), none, []⟩,
    ⟨(some 7), .len false (.tmp 6), none, []⟩,
    ⟨(some 8), .mv (.tmp 1), none, []⟩,
    ⟨(some 9), .len false (.tmp 8), none, []⟩,
    ⟨(some 10), .bin .neq (.tmp 7) (.tmp 9), none, []⟩] [0, 1, 10]
def m_laws_eqAcceptorS_3 : Unit → MCode := fun _ => .region [] [⟨(some 4), .mv (.const (.bool false)), none, []⟩] [4]
def m_laws_eqAcceptorS_4 : Unit → MCode := fun _ => .seq m_laws_eqAcceptorS_3 (fun _ => .ret)
def m_laws_eqAcceptorS_5 : Unit → MCode := fun _ => .cond (.tmp 10) m_laws_eqAcceptorS_4 (fun _ => .skip)
def m_laws_eqAcceptorS_6 : Unit → MCode := fun _ => .seq m_laws_eqAcceptorS_2 m_laws_eqAcceptorS_5
def m_laws_eqAcceptorS_7 : Unit → MCode := fun _ => .region [] [⟨(some 5), .mv (.const (.int .i64 0)), none, []⟩] [0, 1, 5]
def m_laws_eqAcceptorS_8 : Unit → MCode := fun _ => .region [] [⟨(some 11), .mv (.tmp 5), none, []⟩,
    ⟨(some 12), .mv (.tmp 0), none, []⟩,
    ⟨(some 13), .len false (.tmp 12), none, []⟩,
    ⟨(some 14), .bin .lss (.tmp 11) (.tmp 13), none, []⟩] [0, 1, 5, 14]
def m_laws_eqAcceptorS_9 : Unit → MCode := fun _ => .cond (.tmp 14) (fun _ => .skip) (fun _ => .exit 0)
def m_laws_eqAcceptorS_10 : Unit → MCode := fun _ => .seq m_laws_eqAcceptorS_8 m_laws_eqAcceptorS_9
def m_laws_eqAcceptorS_11 : Unit → MCode := fun _ => .region [] [⟨(some 17), .mv (.tmp 0), none, []⟩,
    ⟨(some 18), .mv (.tmp 5), none, []⟩,
    ⟨(some 19), .ia (.tmp 17) (.tmp 18) 6, none, []⟩,
    ⟨(some 20), .ld (.tmp 19) 6 true, none, []⟩,
    ⟨(some 21), .mv (.tmp 1), none, []⟩,
    ⟨(some 22), .mv (.tmp 5), none, []⟩,
    ⟨(some 23), .ia (.tmp 21) (.tmp 22) 6, none, [0, 1, 2, 3]⟩,
    ⟨(some 24), .ld (.tmp 23) 6 true, none, [0, 1, 2, 3]⟩,
    ⟨(some 25), .call 43 [(.tmp 20), (.tmp 24)], none, []⟩,
    ⟨(some 26), .not (.tmp 25), none, []⟩] [0, 1, 5, 26]
def m_laws_eqAcceptorS_12 : Unit → MCode := fun _ => .region [] [⟨(some 4), .mv (.const (.bool false)), none, []⟩] [4]
def m_laws_eqAcceptorS_13 : Unit → MCode := fun _ => .seq m_laws_eqAcceptorS_12 (fun _ => .ret)
def m_laws_eqAcceptorS_14 : Unit → MCode := fun _ => .cond (.tmp 26) m_laws_eqAcceptorS_13 (fun _ => .skip)
def m_laws_eqAcceptorS_15 : Unit → MCode := fun _ => .seq m_laws_eqAcceptorS_11 m_laws_eqAcceptorS_14
def m_laws_eqAcceptorS_16 : Unit → MCode := fun _ => .block 1 m_laws_eqAcceptorS_15
def m_laws_eqAcceptorS_17 : Unit → MCode := fun _ => .region [] [⟨(some 15), .mv (.tmp 5), none, []⟩,
    ⟨(some 16), .bin .add (.tmp 15) (.const (.int .i64 1)), none, []⟩,
    ⟨(some 5), .mv (.tmp 16), none, []⟩] [0, 1, 5]
def m_laws_eqAcceptorS_18 : Unit → MCode := fun _ => .seq m_laws_eqAcceptorS_16 m_laws_eqAcceptorS_17
def m_laws_eqAcceptorS_19 : Unit → MCode := fun _ => .seq m_laws_eqAcceptorS_10 m_laws_eqAcceptorS_18
def m_laws_eqAcceptorS_20 : Unit → MCode := fun _ => .loop m_laws_eqAcceptorS_19
def m_laws_eqAcceptorS_21 : Unit → MCode := fun _ => .block 0 m_laws_eqAcceptorS_20
def m_laws_eqAcceptorS_22 : Unit → MCode := fun _ => .seq m_laws_eqAcceptorS_7 m_laws_eqAcceptorS_21
def m_laws_eqAcceptorS_23 : Unit → MCode := fun _ => .region [] [⟨(some 4), .mv (.const (.bool true)), none, []⟩] [4]
def m_laws_eqAcceptorS_24 : Unit → MCode := fun _ => .seq m_laws_eqAcceptorS_23 (fun _ => .ret)
def m_laws_eqAcceptorS_25 : Unit → MCode := fun _ => .seq m_laws_eqAcceptorS_22 m_laws_eqAcceptorS_24
def m_laws_eqAcceptorS_26 : Unit → MCode := fun _ => .seq m_laws_eqAcceptorS_6 m_laws_eqAcceptorS_25
def m_laws_eqAcceptorS_27 : Unit → MCode := fun _ => .seq m_laws_eqAcceptorS_1 m_laws_eqAcceptorS_26
def m_laws_eqAcceptorS : MCode := m_laws_eqAcceptorS_27 ()
def h_laws_eqAcceptorS : Hints := [(0, [0, 1], [], [], []), (1, [0, 1, 10], [], [], []), (2, [4], [], [], []), (3, [0, 1, 5], [], [], []), (4, [0, 1, 5, 14], [], [], []), (6, [0, 1, 5, 26], [[], [], [], [], [], [], [0, 1, 2, 3], [0, 1, 2, 3]], [], []), (7, [4], [], [], []), (5, [0, 1, 5], [], [], []), (8, [4], [], [], [])]
def r_laws_eqAcceptorS : List RV := [.t 4]
abbrev n_laws_eqAcceptorS : Nat := 31
theorem k_laws_eqAcceptorS : Known Pr mu n_laws_eqAcceptorS m_laws_eqAcceptorS r_laws_eqAcceptorS Go.Proofs.Try.f31.ntmps := .of h_laws_eqAcceptorS hm Go.Proofs.Try.func31 (by kernel_rfl) (by kernel_rfl) (by kernel_rfl) (by kernel_rfl)
def m_laws_markAcceptorS_1 : Unit → MCode := fun _ => .region [] [⟨(some 4), .mv (.const (.int .i64 0)), none, []⟩] [0, 1]
def m_laws_markAcceptorS_2 : Unit → MCode := fun _ => .region [] [⟨(some 5), .mv (.const (.int .i64 0)), none, []⟩] [0, 1, 5]
def m_laws_markAcceptorS_3 : Unit → MCode := fun _ => .region [] [⟨(some 6), .mv (.tmp 5), none, []⟩,
    ⟨(some 7), .mv (.tmp 0), none, []⟩,
    ⟨(some 8), .len false (.tmp 7), none, []⟩,
    ⟨(some 9), .bin .lss (.tmp 6) (.tmp 8), none, []⟩] [0, 1, 5, 9]
def m_laws_markAcceptorS_4 : Unit → MCode := fun _ => .cond (.tmp 9) (fun _ => .skip) (fun _ => .exit 0)
def m_laws_markAcceptorS_5 : Unit → MCode := fun _ => .seq m_laws_markAcceptorS_3 m_laws_markAcceptorS_4
def m_laws_markAcceptorS_6 : Unit → MCode := fun _ => .region [] [⟨(some 12), .mv (.tmp 0), none, []⟩,
    ⟨(some 13), .mv (.tmp 5), none, []⟩,
    ⟨(some 14), .mv (.tmp 1), none, []⟩,
    ⟨(some 15), .ia (.tmp 12) (.tmp 13) 6, none, []⟩,
    ⟨(some 16), .fa (.tmp 15) 0, none, []⟩,
    ⟨none, .sto (.tmp 16) (.tmp 14) 1, none, []⟩] [0, 1, 5]
def m_laws_markAcceptorS_7 : Unit → MCode := fun _ => .region [] [⟨(some 17), .mv (.tmp 1), none, []⟩,
    ⟨(some 18), .bin .add (.tmp 17) (.const (.int .i64 1)), none, []⟩,
    ⟨(some 1), .mv (.tmp 18), none, []⟩] [0, 1, 5]
def m_laws_markAcceptorS_8 : Unit → MCode := fun _ => .region [] [⟨(some 19), .mv (.tmp 0), none, []⟩,
    ⟨(some 20), .mv (.tmp 5), none, []⟩,
    ⟨(some 21), .mv (.tmp 1), none, []⟩,
    ⟨(some 22), .ia (.tmp 19) (.tmp 20) 6, none, []⟩,
    ⟨(some 23), .fa (.tmp 22) 1, none, []⟩,
    ⟨none, .sto (.tmp 23) (.tmp 21) 1, none, []⟩] [0, 1, 5]
def m_laws_markAcceptorS_9 : Unit → MCode := fun _ => .region [] [⟨(some 24), .mv (.tmp 1), none, []⟩,
    ⟨(some 25), .bin .add (.tmp 24) (.const (.int .i64 1)), none, []⟩,
    ⟨(some 1), .mv (.tmp 25), none, []⟩] [0, 1, 5]
def m_laws_markAcceptorS_10 : Unit → MCode := fun _ => .region [] [⟨(some 26), .mv (.tmp 0), none, []⟩,
    ⟨(some 27), .mv (.tmp 5), none, []⟩,
    ⟨(some 28), .mv (.tmp 1), none, []⟩,
    ⟨(some 29), .ia (.tmp 26) (.tmp 27) 6, none, []⟩,
    ⟨(some 30), .fa (.tmp 29) 2, none, []⟩,
    ⟨(some 31), .fa (.tmp 30) 0, none, []⟩,
    ⟨none, .sto (.tmp 31) (.tmp 28) 1, none, []⟩] [0, 1, 5]
def m_laws_markAcceptorS_11 : Unit → MCode := fun _ => .region [] [⟨(some 32), .mv (.tmp 1), none, []⟩,
    ⟨(some 33), .bin .add (.tmp 32) (.const (.int .i64 1)), none, []⟩,
    ⟨(some 1), .mv (.tmp 33), none, []⟩] [0, 1, 5]
def m_laws_markAcceptorS_12 : Unit → MCode := fun _ => .region [] [⟨(some 34), .mv (.tmp 0), none, []⟩,
    ⟨(some 35), .mv (.tmp 5), none, []⟩,
    ⟨(some 36), .mv (.tmp 1), none, []⟩,
    ⟨(some 37), .ia (.tmp 34) (.tmp 35) 6, none, []⟩,
    ⟨(some 38), .fa (.tmp 37) 2, none, []⟩,
    ⟨(some 39), .fa (.tmp 38) 1, none, []⟩,
    ⟨none, .sto (.tmp 39) (.tmp 36) 1, none, []⟩] [0, 1, 5]
def m_laws_markAcceptorS_13 : Unit → MCode := fun _ => .region [] [⟨(some 40), .mv (.tmp 1), none, []⟩,
    ⟨(some 41), .bin .add (.tmp 40) (.const (.int .i64 1)), none, []⟩,
    ⟨(some 1), .mv (.tmp 41), none, []⟩] [0, 1, 5]
def m_laws_markAcceptorS_14 : Unit → MCode := fun _ => .region [] [⟨(some 42), .mv (.tmp 0), none, []⟩,
    ⟨(some 43), .mv (.tmp 5), none, []⟩,
    ⟨(some 44), .ia (.tmp 42) (.tmp 43) 6, none, []⟩,
    ⟨(some 45), .fa (.tmp 44) 2, none, []⟩,
    ⟨(some 46), .fa (.tmp 45) 2, none, []⟩,
    ⟨(some 47), .ld (.tmp 46) 1 false, none, []⟩,
    ⟨(some 48), .mv (.tmp 1), none, []⟩,
    ⟨(some 49), .callm 82 [(.tmp 47), (.tmp 48)], none, []⟩,
    ⟨(some 1), .mv (.tmp 49), none, []⟩] [0, 1, 5]
def m_laws_markAcceptorS_15 : Unit → MCode := fun _ => .region [] [⟨(some 50), .mv (.tmp 0), none, []⟩,
    ⟨(some 51), .mv (.tmp 5), none, []⟩,
    ⟨(some 52), .ia (.tmp 50) (.tmp 51) 6, none, []⟩,
    ⟨(some 53), .fa (.tmp 52) 2, none, []⟩,
    ⟨(some 54), .fa (.tmp 53) 3, none, []⟩,
    ⟨(some 55), .ld (.tmp 54) 1 false, none, []⟩,
    ⟨(some 56), .mv (.tmp 1), none, []⟩,
    ⟨(some 57), .callm 82 [(.tmp 55), (.tmp 56)], none, []⟩,
    ⟨(some 1), .mv (.tmp 57), none, []⟩] [0, 1, 5]
def m_laws_markAcceptorS_16 : Unit → MCode := fun _ => .seq m_laws_markAcceptorS_14 m_laws_markAcceptorS_15
def m_laws_markAcceptorS_17 : Unit → MCode := fun _ => .seq m_laws_markAcceptorS_13 m_laws_markAcceptorS_16
def m_laws_markAcceptorS_18 : Unit → MCode := fun _ => .seq m_laws_markAcceptorS_12 m_laws_markAcceptorS_17
def m_laws_markAcceptorS_19 : Unit → MCode := fun _ => .seq m_laws_markAcceptorS_11 m_laws_markAcceptorS_18
def m_laws_markAcceptorS_20 : Unit → MCode := fun _ => .seq m_laws_markAcceptorS_10 m_laws_markAcceptorS_19
def m_laws_markAcceptorS_21 : Unit → MCode := fun _ => .seq m_laws_markAcceptorS_9 m_laws_markAcceptorS_20
def m_laws_markAcceptorS_22 : Unit → MCode := fun _ => .seq m_laws_markAcceptorS_8 m_laws_markAcceptorS_21
def m_laws_markAcceptorS_23 : Unit → MCode := fun _ => .seq m_laws_markAcceptorS_7 m_laws_markAcceptorS_22
def m_laws_markAcceptorS_24 : Unit → MCode := fun _ => .seq m_laws_markAcceptorS_6 m_laws_markAcceptorS_23
def m_laws_markAcceptorS_25 : Unit → MCode := fun _ => .block 1 m_laws_markAcceptorS_24
def m_laws_markAcceptorS_26 : Unit → MCode := fun _ => .region [] [⟨(some 10), .mv (.tmp 5), none, []⟩,
    ⟨(some 11), .bin .add (.tmp 10) (.const (.int .i64 1)), none, []⟩,
    ⟨(some 5), .mv (.tmp 11), none, []⟩] [0, 1, 5]
def m_laws_markAcceptorS_27 : Unit → MCode := fun _ => .seq m_laws_markAcceptorS_25 m_laws_markAcceptorS_26
def m_laws_markAcceptorS_28 : Unit → MCode := fun _ => .seq m_laws_markAcceptorS_5 m_laws_markAcceptorS_27
def m_laws_markAcceptorS_29 : Unit → MCode := fun _ => .loop m_laws_markAcceptorS_28
def m_laws_markAcceptorS_30 : Unit → MCode := fun _ => .block 0 m_laws_markAcceptorS_29
def m_laws_markAcceptorS_31 : Unit → MCode := fun _ => .seq m_laws_markAcceptorS_2 m_laws_markAcceptorS_30
def m_laws_markAcceptorS_32 : Unit → MCode := fun _ => .region [] [⟨(some 58), .mv (.tmp 1), none, []⟩,
    ⟨(some 4), .mv (.tmp 58), none, []⟩] [4]
def m_laws_markAcceptorS_33 : Unit → MCode := fun _ => .seq m_laws_markAcceptorS_32 (fun _ => .ret)
def m_laws_markAcceptorS_34 : Unit → MCode := fun _ => .seq m_laws_markAcceptorS_31 m_laws_markAcceptorS_33
def m_laws_markAcceptorS_35 : Unit → MCode := fun _ => .seq m_laws_markAcceptorS_1 m_laws_markAcceptorS_34
def m_laws_markAcceptorS : MCode := m_laws_markAcceptorS_35 ()
def h_laws_markAcceptorS : Hints := [(0, [0, 1], [], [], []), (1, [0, 1, 5], [], [], []), (2, [0, 1, 5, 9], [], [], []), (4, [0, 1, 5], [], [], []), (5, [0, 1, 5], [], [], []), (6, [0, 1, 5], [], [], []), (7, [0, 1, 5], [], [], []), (8, [0, 1, 5], [], [], []), (9, [0, 1, 5], [], [], []), (10, [0, 1, 5], [], [], []), (11, [0, 1, 5], [], [], []), (12, [0, 1, 5], [], [], []), (13, [0, 1, 5], [], [], []), (3, [0, 1, 5], [], [], []), (14, [4], [], [], [])]
def r_laws_markAcceptorS : List RV := [.t 4]
abbrev n_laws_markAcceptorS : Nat := 32
theorem k_laws_markAcceptorS : Known Pr mu n_laws_markAcceptorS m_laws_markAcceptorS r_laws_markAcceptorS Go.Proofs.Try.f32.ntmps := .of h_laws_markAcceptorS hm Go.Proofs.Try.func32 (by kernel_rfl) (by kernel_rfl) (by kernel_rfl) (by kernel_rfl)
def m_laws_heldAcceptorS_1 : Unit → MCode := fun _ => .region [] [⟨(some 4), .mv (.const (.int .i64 0)), none, []⟩] [0, 1]
def m_laws_heldAcceptorS_2 : Unit → MCode := fun _ => .region [] [⟨(some 5), .mv (.const (.int .i64 0)), none, []⟩] [0, 1, 5]
def m_laws_heldAcceptorS_3 : Unit → MCode := fun _ => .region [] [⟨(some 6), .mv (.tmp 5), none, []⟩,
    ⟨(some 7), .mv (.tmp 0), none, []⟩,
    ⟨(some 8), .len false (.tmp 7), none, []⟩,
    ⟨(some 9), .bin .lss (.tmp 6) (.tmp 8), none, []⟩] [0, 1, 5, 9]
def m_laws_heldAcceptorS_4 : Unit → MCode := fun _ => .cond (.tmp 9) (fun _ => .skip) (fun _ => .exit 0)
def m_laws_heldAcceptorS_5 : Unit → MCode := fun _ => .seq m_laws_heldAcceptorS_3 m_laws_heldAcceptorS_4
def m_laws_heldAcceptorS_6 : Unit → MCode := fun _ => .region [] [⟨(some 12), .mv (.tmp 0), none, []⟩,
    ⟨(some 13), .mv (.tmp 5), none, []⟩,
    ⟨(some 14), .ia (.tmp 12) (.tmp 13) 6, none, []⟩,
    ⟨(some 15), .fa (.tmp 14) 0, none, []⟩,
    ⟨(some 16), .ld (.tmp 15) 1 false, none, []⟩,
    ⟨(some 17), .mv (.tmp 1), none, []⟩,
    ⟨(some 18), .bin .neq (.tmp 16) (.tmp 17), none, []⟩] [0, 1, 5, 18]
def m_laws_heldAcceptorS_7 : Unit → MCode := fun _ => .region [] [⟨(some 4), .mv (.const (.int .i64 (-1))), none, []⟩] [4]
def m_laws_heldAcceptorS_8 : Unit → MCode := fun _ => .seq m_laws_heldAcceptorS_7 (fun _ => .ret)
def m_laws_heldAcceptorS_9 : Unit → MCode := fun _ => .cond (.tmp 18) m_laws_heldAcceptorS_8 (fun _ => .skip)
def m_laws_heldAcceptorS_10 : Unit → MCode := fun _ => .seq m_laws_heldAcceptorS_6 m_laws_heldAcceptorS_9
def m_laws_heldAcceptorS_11 : Unit → MCode := fun _ => .region [] [⟨(some 19), .mv (.tmp 1), none, []⟩,
    ⟨(some 20), .bin .add (.tmp 19) (.const (.int .i64 1)), none, []⟩,
    ⟨(some 1), .mv (.tmp 20), none, []⟩] [0, 1, 5]
def m_laws_heldAcceptorS_12 : Unit → MCode := fun _ => .region [] [⟨(some 21), .mv (.tmp 0), none, []⟩,
    ⟨(some 22), .mv (.tmp 5), none, []⟩,
    ⟨(some 23), .ia (.tmp 21) (.tmp 22) 6, none, []⟩,
    ⟨(some 24), .fa (.tmp 23) 1, none, []⟩,
    ⟨(some 25), .ld (.tmp 24) 1 false, none, []⟩,
    ⟨(some 26), .mv (.tmp 1), none, []⟩,
    ⟨(some 27), .bin .neq (.tmp 25) (.tmp 26), none, []⟩] [0, 1, 5, 27]
def m_laws_heldAcceptorS_13 : Unit → MCode := fun _ => .region [] [⟨(some 4), .mv (.const (.int .i64 (-1))), none, []⟩] [4]
def m_laws_heldAcceptorS_14 : Unit → MCode := fun _ => .seq m_laws_heldAcceptorS_13 (fun _ => .ret)
def m_laws_heldAcceptorS_15 : Unit → MCode := fun _ => .cond (.tmp 27) m_laws_heldAcceptorS_14 (fun _ => .skip)
def m_laws_heldAcceptorS_16 : Unit → MCode := fun _ => .seq m_laws_heldAcceptorS_12 m_laws_heldAcceptorS_15
def m_laws_heldAcceptorS_17 : Unit → MCode := fun _ => .region [] [⟨(some 28), .mv (.tmp 1), none, []⟩,
    ⟨(some 29), .bin .add (.tmp 28) (.const (.int .i64 1)), none, []⟩,
    ⟨(some 1), .mv (.tmp 29), none, []⟩] [0, 1, 5]
def m_laws_heldAcceptorS_18 : Unit → MCode := fun _ => .region [] [⟨(some 30), .mv (.tmp 0), none, []⟩,
    ⟨(some 31), .mv (.tmp 5), none, []⟩,
    ⟨(some 32), .ia (.tmp 30) (.tmp 31) 6, none, []⟩,
    ⟨(some 33), .fa (.tmp 32) 2, none, []⟩,
    ⟨(some 34), .fa (.tmp 33) 0, none, []⟩,
    ⟨(some 35), .ld (.tmp 34) 1 false, none, []⟩,
    ⟨(some 36), .mv (.tmp 1), none, []⟩,
    ⟨(some 37), .bin .neq (.tmp 35) (.tmp 36), none, []⟩] [0, 1, 5, 37]
def m_laws_heldAcceptorS_19 : Unit → MCode := fun _ => .region [] [⟨(some 4), .mv (.const (.int .i64 (-1))), none, []⟩] [4]
def m_laws_heldAcceptorS_20 : Unit → MCode := fun _ => .seq m_laws_heldAcceptorS_19 (fun _ => .ret)
def m_laws_heldAcceptorS_21 : Unit → MCode := fun _ => .cond (.tmp 37) m_laws_heldAcceptorS_20 (fun _ => .skip)
def m_laws_heldAcceptorS_22 : Unit → MCode := fun _ => .seq m_laws_heldAcceptorS_18 m_laws_heldAcceptorS_21
def m_laws_heldAcceptorS_23 : Unit → MCode := fun _ => .region [] [⟨(some 38), .mv (.tmp 1), none, []⟩,
    ⟨(some 39), .bin .add (.tmp 38) (.const (.int .i64 1)), none, []⟩,
    ⟨(some 1), .mv (.tmp 39), none, []⟩] [0, 1, 5]
def m_laws_heldAcceptorS_24 : Unit → MCode := fun _ => .region [] [⟨(some 40), .mv (.tmp 0), none, []⟩,
    ⟨(some 41), .mv (.tmp 5), none, []⟩,
    ⟨(some 42), .ia (.tmp 40) (.tmp 41) 6, none, []⟩,
    ⟨(some 43), .fa (.tmp 42) 2, none, []⟩,
    ⟨(some 44), .fa (.tmp 43) 1, none, []⟩,
    ⟨(some 45), .ld (.tmp 44) 1 false, none, []⟩,
    ⟨(some 46), .mv (.tmp 1), none, []⟩,
    ⟨(some 47), .bin .neq (.tmp 45) (.tmp 46), none, []⟩] [0, 1, 5, 47]
def m_laws_heldAcceptorS_25 : Unit → MCode := fun _ => .region [] [⟨(some 4), .mv (.const (.int .i64 (-1))), none, []⟩] [4]
def m_laws_heldAcceptorS_26 : Unit → MCode := fun _ => .seq m_laws_heldAcceptorS_25 (fun _ => .ret)
def m_laws_heldAcceptorS_27 : Unit → MCode := fun _ => .cond (.tmp 47) m_laws_heldAcceptorS_26 (fun _ => .skip)
def m_laws_heldAcceptorS_28 : Unit → MCode := fun _ => .seq m_laws_heldAcceptorS_24 m_laws_heldAcceptorS_27
def m_laws_heldAcceptorS_29 : Unit → MCode := fun _ => .region [] [⟨(some 48), .mv (.tmp 1), none, []⟩,
    ⟨(some 49), .bin .add (.tmp 48) (.const (.int .i64 1)), none, []⟩,
    ⟨(some 1), .mv (.tmp 49), none, []⟩] [0, 1, 5]
def m_laws_heldAcceptorS_30 : Unit → MCode := fun _ => .region [] [⟨(some 50), .mv (.tmp 0), none, []⟩,
    ⟨(some 51), .mv (.tmp 5), none, []⟩,
    ⟨(some 52), .ia (.tmp 50) (.tmp 51) 6, none, []⟩,
    ⟨(some 53), .fa (.tmp 52) 2, none, []⟩,
    ⟨(some 54), .fa (.tmp 53) 2, none, []⟩,
    ⟨(some 55), .ld (.tmp 54) 1 false, none, []⟩,
    ⟨(some 56), .mv (.tmp 1), none, []⟩,
    ⟨(some 57), .call 83 [(.tmp 55), (.tmp 56)], none, []⟩,
    ⟨(some 1), .mv (.tmp 57), none, []⟩] [0, 1, 5]
def m_laws_heldAcceptorS_31 : Unit → MCode := fun _ => .region [] [⟨(some 58), .mv (.tmp 1), none, []⟩,
    ⟨(some 59), .bin .lss (.tmp 58) (.const (.int .i64 0)), none, []⟩] [0, 1, 5, 59]
def m_laws_heldAcceptorS_32 : Unit → MCode := fun _ => .region [] [⟨(some 4), .mv (.const (.int .i64 (-1))), none, []⟩] [4]
def m_laws_heldAcceptorS_33 : Unit → MCode := fun _ => .seq m_laws_heldAcceptorS_32 (fun _ => .ret)
def m_laws_heldAcceptorS_34 : Unit → MCode := fun _ => .cond (.tmp 59) m_laws_heldAcceptorS_33 (fun _ => .skip)
def m_laws_heldAcceptorS_35 : Unit → MCode := fun _ => .seq m_laws_heldAcceptorS_31 m_laws_heldAcceptorS_34
def m_laws_heldAcceptorS_36 : Unit → MCode := fun _ => .region [] [⟨(some 60), .mv (.tmp 0), none, []⟩,
    ⟨(some 61), .mv (.tmp 5), none, []⟩,
    ⟨(some 62), .ia (.tmp 60) (.tmp 61) 6, none, []⟩,
    ⟨(some 63), .fa (.tmp 62) 2, none, []⟩,
    ⟨(some 64), .fa (.tmp 63) 3, none, []⟩,
    ⟨(some 65), .ld (.tmp 64) 1 false, none, []⟩,
    ⟨(some 66), .mv (.tmp 1), none, []⟩,
    ⟨(some 67), .call 83 [(.tmp 65), (.tmp 66)], none, []⟩,
    ⟨(some 1), .mv (.tmp 67), none, []⟩] [0, 1, 5]
def m_laws_heldAcceptorS_37 : Unit → MCode := fun _ => .region [] [⟨(some 68), .mv (.tmp 1), none, []⟩,
    ⟨(some 69), .bin .lss (.tmp 68) (.const (.int .i64 0)), none, []⟩] [0, 1, 5, 69]
def m_laws_heldAcceptorS_38 : Unit → MCode := fun _ => .region [] [⟨(some 4), .mv (.const (.int .i64 (-1))), none, []⟩] [4]
def m_laws_heldAcceptorS_39 : Unit → MCode := fun _ => .seq m_laws_heldAcceptorS_38 (fun _ => .ret)
def m_laws_heldAcceptorS_40 : Unit → MCode := fun _ => .cond (.tmp 69) m_laws_heldAcceptorS_39 (fun _ => .skip)
def m_laws_heldAcceptorS_41 : Unit → MCode := fun _ => .seq m_laws_heldAcceptorS_37 m_laws_heldAcceptorS_40
def m_laws_heldAcceptorS_42 : Unit → MCode := fun _ => .seq m_laws_heldAcceptorS_36 m_laws_heldAcceptorS_41
def m_laws_heldAcceptorS_43 : Unit → MCode := fun _ => .seq m_laws_heldAcceptorS_35 m_laws_heldAcceptorS_42
def m_laws_heldAcceptorS_44 : Unit → MCode := fun _ => .seq m_laws_heldAcceptorS_30 m_laws_heldAcceptorS_43
def m_laws_heldAcceptorS_45 : Unit → MCode := fun _ => .seq m_laws_heldAcceptorS_29 m_laws_heldAcceptorS_44
def m_laws_heldAcceptorS_46 : Unit → MCode := fun _ => .seq m_laws_heldAcceptorS_28 m_laws_heldAcceptorS_45
def m_laws_heldAcceptorS_47 : Unit → MCode := fun _ => .seq m_laws_heldAcceptorS_23 m_laws_heldAcceptorS_46
def m_laws_heldAcceptorS_48 : Unit → MCode := fun _ => .seq m_laws_heldAcceptorS_22 m_laws_heldAcceptorS_47
def m_laws_heldAcceptorS_49 : Unit → MCode := fun _ => .seq m_laws_heldAcceptorS_17 m_laws_heldAcceptorS_48
def m_laws_heldAcceptorS_50 : Unit → MCode := fun _ => .seq m_laws_heldAcceptorS_16 m_laws_heldAcceptorS_49
def m_laws_heldAcceptorS_51 : Unit → MCode := fun _ => .seq m_laws_heldAcceptorS_11 m_laws_heldAcceptorS_50
def m_laws_heldAcceptorS_52 : Unit → MCode := fun _ => .seq m_laws_heldAcceptorS_10 m_laws_heldAcceptorS_51
def m_laws_heldAcceptorS_53 : Unit → MCode := fun _ => .block 1 m_laws_heldAcceptorS_52
def m_laws_heldAcceptorS_54 : Unit → MCode := fun _ => .region [] [⟨(some 10), .mv (.tmp 5), none, []⟩,
    ⟨(some 11), .bin .add (.tmp 10) (.const (.int .i64 1)), none, []⟩,
    ⟨(some 5), .mv (.tmp 11), none, []⟩] [0, 1, 5]
def m_laws_heldAcceptorS_55 : Unit → MCode := fun _ => .seq m_laws_heldAcceptorS_53 m_laws_heldAcceptorS_54
def m_laws_heldAcceptorS_56 : Unit → MCode := fun _ => .seq m_laws_heldAcceptorS_5 m_laws_heldAcceptorS_55
def m_laws_heldAcceptorS_57 : Unit → MCode := fun _ => .loop m_laws_heldAcceptorS_56
def m_laws_heldAcceptorS_58 : Unit → MCode := fun _ => .block 0 m_laws_heldAcceptorS_57
def m_laws_heldAcceptorS_59 : Unit → MCode := fun _ => .seq m_laws_heldAcceptorS_2 m_laws_heldAcceptorS_58
def m_laws_heldAcceptorS_60 : Unit → MCode := fun _ => .region [] [⟨(some 70), .mv (.tmp 1), none, []⟩,
    ⟨(some 4), .mv (.tmp 70), none, []⟩] [4]
def m_laws_heldAcceptorS_61 : Unit → MCode := fun _ => .seq m_laws_heldAcceptorS_60 (fun _ => .ret)
def m_laws_heldAcceptorS_62 : Unit → MCode := fun _ => .seq m_laws_heldAcceptorS_59 m_laws_heldAcceptorS_61
def m_laws_heldAcceptorS_63 : Unit → MCode := fun _ => .seq m_laws_heldAcceptorS_1 m_laws_heldAcceptorS_62
def m_laws_heldAcceptorS : MCode := m_laws_heldAcceptorS_63 ()
def h_laws_heldAcceptorS : Hints := [(0, [0, 1], [], [], []), (1, [0, 1, 5], [], [], []), (2, [0, 1, 5, 9], [], [], []), (4, [0, 1, 5, 18], [], [], []), (5, [4], [], [], []), (6, [0, 1, 5], [], [], []), (7, [0, 1, 5, 27], [], [], []), (8, [4], [], [], []), (9, [0, 1, 5], [], [], []), (10, [0, 1, 5, 37], [], [], []), (11, [4], [], [], []), (12, [0, 1, 5], [], [], []), (13, [0, 1, 5, 47], [], [], []), (14, [4], [], [], []), (15, [0, 1, 5], [], [], []), (16, [0, 1, 5], [], [], []), (17, [0, 1, 5, 59], [], [], []), (18, [4], [], [], []), (19, [0, 1, 5], [], [], []), (20, [0, 1, 5, 69], [], [], []), (21, [4], [], [], []), (3, [0, 1, 5], [], [], []), (22, [4], [], [], [])]
def r_laws_heldAcceptorS : List RV := [.t 4]
abbrev n_laws_heldAcceptorS : Nat := 33
theorem k_laws_heldAcceptorS : Known Pr mu n_laws_heldAcceptorS m_laws_heldAcceptorS r_laws_heldAcceptorS Go.Proofs.Try.f33.ntmps := .of h_laws_heldAcceptorS hm Go.Proofs.Try.func33 (by kernel_rfl) (by kernel_rfl) (by kernel_rfl) (by kernel_rfl)
def m_laws_eqAcceptor_1 : Unit → MCode := fun _ => .region [] [⟨(some 2), .box (.tmp 0), none, []⟩,
    ⟨(some 3), .box (.tmp 1), none, []⟩,
    ⟨(some 4), .mv (.const (.bool false)), none, []⟩] [2, 3]
def m_laws_eqAcceptor_2 : Unit → MCode := fun _ => .region [] [⟨(some 5), .fa (.tmp 2) 0, none, []⟩,
    ⟨(some 6), .ld (.tmp 5) 1 false, none, []⟩,
    ⟨(some 7), .fa (.tmp 3) 0, none, []⟩,
    ⟨(some 8), .ld (.tmp 7) 1 false, none, []⟩,
    ⟨(some 9), .bin .neq (.tmp 6) (.tmp 8), none, []⟩] [2, 3, 9]
def m_laws_eqAcceptor_3 : Unit → MCode := fun _ => .region [] [⟨(some 4), .mv (.const (.bool false)), none, []⟩] [4]
def m_laws_eqAcceptor_4 : Unit → MCode := fun _ => .seq m_laws_eqAcceptor_3 (fun _ => .ret)
def m_laws_eqAcceptor_5 : Unit → MCode := fun _ => .cond (.tmp 9) m_laws_eqAcceptor_4 (fun _ => .skip)
def m_laws_eqAcceptor_6 : Unit → MCode := fun _ => .seq m_laws_eqAcceptor_2 m_laws_eqAcceptor_5
def m_laws_eqAcceptor_7 : Unit → MCode := fun _ => .region [] [⟨(some 10), .fa (.tmp 2) 1, none, []⟩,
    ⟨(some 11), .ld (.tmp 10) 1 false, none, []⟩,
    ⟨(some 12), .fa (.tmp 3) 1, none, []⟩,
    ⟨(some 13), .ld (.tmp 12) 1 false, none, []⟩,
    ⟨(some 14), .bin .neq (.tmp 11) (.tmp 13), none, []⟩] [2, 3, 14]
def m_laws_eqAcceptor_8 : Unit → MCode := fun _ => .region [] [⟨(some 4), .mv (.const (.bool false)), none, []⟩] [4]
def m_laws_eqAcceptor_9 : Unit → MCode := fun _ => .seq m_laws_eqAcceptor_8 (fun _ => .ret)
def m_laws_eqAcceptor_10 : Unit → MCode := fun _ => .cond (.tmp 14) m_laws_eqAcceptor_9 (fun _ => .skip)
def m_laws_eqAcceptor_11 : Unit → MCode := fun _ => .seq m_laws_eqAcceptor_7 m_laws_eqAcceptor_10
def m_laws_eqAcceptor_12 : Unit → MCode := fun _ => .region [] [⟨(some 15), .fa (.tmp 2) 2, none, []⟩,
    ⟨(some 16), .ld (.tmp 15) 4 true, none, []⟩,
    ⟨(some 17), .fa (.tmp 3) 2, none, []⟩,
    ⟨(some 18), .ld (.tmp 17) 4 true, none, []⟩,
    ⟨(some 19), .call 28 [(.tmp 16), (.tmp 18)], none, []⟩,
    ⟨(some 20), .not (.tmp 19), none, []⟩] [20]
def m_laws_eqAcceptor_13 : Unit → MCode := fun _ => .region [] [⟨(some 4), .mv (.const (.bool false)), none, []⟩] [4]
def m_laws_eqAcceptor_14 : Unit → MCode := fun _ => .seq m_laws_eqAcceptor_13 (fun _ => .ret)
def m_laws_eqAcceptor_15 : Unit → MCode := fun _ => .cond (.tmp 20) m_laws_eqAcceptor_14 (fun _ => .skip)
def m_laws_eqAcceptor_16 : Unit → MCode := fun _ => .seq m_laws_eqAcceptor_12 m_laws_eqAcceptor_15
def m_laws_eqAcceptor_17 : Unit → MCode := fun _ => .region [] [⟨(some 4), .mv (.const (.bool true)), none, []⟩] [4]
def m_laws_eqAcceptor_18 : Unit → MCode := fun _ => .seq m_laws_eqAcceptor_17 (fun _ => .ret)
def m_laws_eqAcceptor_19 : Unit → MCode := fun _ => .seq m_laws_eqAcceptor_16 m_laws_eqAcceptor_18
def m_laws_eqAcceptor_20 : Unit → MCode := fun _ => .seq m_laws_eqAcceptor_11 m_laws_eqAcceptor_19
def m_laws_eqAcceptor_21 : Unit → MCode := fun _ => .seq m_laws_eqAcceptor_6 m_laws_eqAcceptor_20
def m_laws_eqAcceptor_22 : Unit → MCode := fun _ => .seq m_laws_eqAcceptor_1 m_laws_eqAcceptor_21
def m_laws_eqAcceptor : MCode := m_laws_eqAcceptor_22 ()
def h_laws_eqAcceptor : Hints := [(0, [2, 3], [], [], []), (1, [2, 3, 9], [], [], []), (2, [4], [], [], []), (3, [2, 3, 14], [], [], []), (4, [4], [], [], []), (5, [20], [], [], []), (6, [4], [], [], []), (7, [4], [], [], [])]
def r_laws_eqAcceptor : List RV := [.t 4]
abbrev n_laws_eqAcceptor : Nat := 43
theorem k_laws_eqAcceptor : Known Pr mu n_laws_eqAcceptor m_laws_eqAcceptor r_laws_eqAcceptor Go.Proofs.Try.f43.ntmps := .of h_laws_eqAcceptor hm Go.Proofs.Try.func43 (by kernel_rfl) (by kernel_rfl) (by kernel_rfl) (by kernel_rfl)
def m_laws_eqIntS_1 : Unit → MCode := fun _ => .region [] [⟨(some 4), .mv (.const (.bool false)), none, []⟩] [0, 1]
def m_laws_eqIntS_2 : Unit → MCode := fun _ => .region [] [⟨(some 6), .mv (.tmp 0), none, []⟩,
    ⟨(some 7), .len false (.tmp 6), none, []⟩,
    ⟨(some 8), .mv (.tmp 1), none, []⟩,
    ⟨(some 9), .len false (.tmp 8), none, []⟩,
    ⟨(some 10), .bin .neq (.tmp 7) (.tmp 9), none, []⟩] [0, 1, 10]
def m_laws_eqIntS_3 : Unit → MCode := fun _ => .region [] [⟨(some 4), .mv (.const (.bool false)), none, []⟩] [4]
def m_laws_eqIntS_4 : Unit → MCode := fun _ => .seq m_laws_eqIntS_3 (fun _ => .ret)
def m_laws_eqIntS_5 : Unit → MCode := fun _ => .cond (.tmp 10) m_laws_eqIntS_4 (fun _ => .skip)
def m_laws_eqIntS_6 : Unit → MCode := fun _ => .seq m_laws_eqIntS_2 m_laws_eqIntS_5
def m_laws_eqIntS_7 : Unit → MCode := fun _ => .region [] [⟨(some 5), .mv (.const (.int .i64 0)), none, []⟩] [0, 1, 5]
def m_laws_eqIntS_8 : Unit → MCode := fun _ => .region [] [⟨(some 11), .mv (.tmp 5), none, []⟩,
    ⟨(some 12), .mv (.tmp 0), none, []⟩,
    ⟨(some 13), .len false (.tmp 12), none, []⟩,
    ⟨(some 14), .bin .lss (.tmp 11) (.tmp 13), none, []⟩] [0, 1, 5, 14]
def m_laws_eqIntS_9 : Unit → MCode := fun _ => .cond (.tmp 14) (fun _ => .skip) (fun _ => .exit 0)
def m_laws_eqIntS_10 : Unit → MCode := fun _ => .seq m_laws_eqIntS_8 m_laws_eqIntS_9
def m_laws_eqIntS_11 : Unit → MCode := fun _ => .region [] [⟨(some 17), .mv (.tmp 0), none, []⟩,
    ⟨(some 18), .mv (.tmp 5), none, []⟩,
    ⟨(some 19), .ia (.tmp 17) (.tmp 18) 1, none, []⟩,
    ⟨(some 20), .ld (.tmp 19) 1 false, none, []⟩,
    ⟨(some 21), .mv (.tmp 1), none, []⟩,
    ⟨(some 22), .mv (.tmp 5), none, []⟩,
    ⟨(some 23), .ia (.tmp 21) (.tmp 22) 1, none, [0, 1, 2, 3]⟩,
    ⟨(some 24), .ld (.tmp 23) 1 false, none, [0, 1, 2, 3]⟩,
    ⟨(some 25), .bin .neq (.tmp 20) (.tmp 24), none, []⟩] [0, 1, 5, 25]
def m_laws_eqIntS_12 : Unit → MCode := fun _ => .region [] [⟨(some 4), .mv (.const (.bool false)), none, []⟩] [4]
def m_laws_eqIntS_13 : Unit → MCode := fun _ => .seq m_laws_eqIntS_12 (fun _ => .ret)
def m_laws_eqIntS_14 : Unit → MCode := fun _ => .cond (.tmp 25) m_laws_eqIntS_13 (fun _ => .skip)
def m_laws_eqIntS_15 : Unit → MCode := fun _ => .seq m_laws_eqIntS_11 m_laws_eqIntS_14
def m_laws_eqIntS_16 : Unit → MCode := fun _ => .block 1 m_laws_eqIntS_15
def m_laws_eqIntS_17 : Unit → MCode := fun _ => .region [] [⟨(some 15), .mv (.tmp 5), none, []⟩,
    ⟨(some 16), .bin .add (.tmp 15) (.const (.int .i64 1)), none, []⟩,
    ⟨(some 5), .mv (.tmp 16), none, []⟩] [0, 1, 5]
def m_laws_eqIntS_18 : Unit → MCode := fun _ => .seq m_laws_eqIntS_16 m_laws_eqIntS_17
def m_laws_eqIntS_19 : Unit → MCode := fun _ => .seq m_laws_eqIntS_10 m_laws_eqIntS_18
def m_laws_eqIntS_20 : Unit → MCode := fun _ => .loop m_laws_eqIntS_19
def m_laws_eqIntS_21 : Unit → MCode := fun _ => .block 0 m_laws_eqIntS_20
def m_laws_eqIntS_22 : Unit → MCode := fun _ => .seq m_laws_eqIntS_7 m_laws_eqIntS_21
def m_laws_eqIntS_23 : Unit → MCode := fun _ => .region [] [⟨(some 4), .mv (.const (.bool true)), none, []⟩] [4]
def m_laws_eqIntS_24 : Unit → MCode := fun _ => .seq m_laws_eqIntS_23 (fun _ => .ret)
def m_laws_eqIntS_25 : Unit → MCode := fun _ => .seq m_laws_eqIntS_22 m_laws_eqIntS_24
def m_laws_eqIntS_26 : Unit → MCode := fun _ => .seq m_laws_eqIntS_6 m_laws_eqIntS_25
def m_laws_eqIntS_27 : Unit → MCode := fun _ => .seq m_laws_eqIntS_1 m_laws_eqIntS_26
def m_laws_eqIntS : MCode := m_laws_eqIntS_27 ()
def h_laws_eqIntS : Hints := [(0, [0, 1], [], [], []), (1, [0, 1, 10], [], [], []), (2, [4], [], [], []), (3, [0, 1, 5], [], [], []), (4, [0, 1, 5, 14], [], [], []), (6, [0, 1, 5, 25], [[], [], [], [], [], [], [0, 1, 2, 3], [0, 1, 2, 3]], [], []), (7, [4], [], [], []), (5, [0, 1, 5], [], [], []), (8, [4], [], [], [])]
def r_laws_eqIntS : List RV := [.t 4]
abbrev n_laws_eqIntS : Nat := 81
theorem k_laws_eqIntS : Known Pr mu n_laws_eqIntS m_laws_eqIntS r_laws_eqIntS Go.Proofs.Try.f81.ntmps := .of h_laws_eqIntS hm Go.Proofs.Try.func81 (by kernel_rfl) (by kernel_rfl) (by kernel_rfl) (by kernel_rfl)
def m_laws_markIntS_1 : Unit → MCode := fun _ => .region [] [⟨(some 4), .mv (.const (.int .i64 0)), none, []⟩] [0, 1]
def m_laws_markIntS_2 : Unit → MCode := fun _ => .region [] [⟨(some 5), .mv (.const (.int .i64 0)), none, []⟩] [0, 1, 5]
def m_laws_markIntS_3 : Unit → MCode := fun _ => .region [] [⟨(some 6), .mv (.tmp 5), none, []⟩,
    ⟨(some 7), .mv (.tmp 0), none, []⟩,
    ⟨(some 8), .len false (.tmp 7), none, []⟩,
    ⟨(some 9), .bin .lss (.tmp 6) (.tmp 8), none, []⟩] [0, 1, 5, 9]
def m_laws_markIntS_4 : Unit → MCode := fun _ => .cond (.tmp 9) (fun _ => .skip) (fun _ => .exit 0)
def m_laws_markIntS_5 : Unit → MCode := fun _ => .seq m_laws_markIntS_3 m_laws_markIntS_4
def m_laws_markIntS_6 : Unit → MCode := fun _ => .region [] [⟨(some 12), .mv (.tmp 0), none, []⟩,
    ⟨(some 13), .mv (.tmp 5), none, []⟩,
    ⟨(some 14), .mv (.tmp 1), none, []⟩,
    ⟨(some 15), .ia (.tmp 12) (.tmp 13) 1, none, []⟩,
    ⟨none, .sto (.tmp 15) (.tmp 14) 1, none, []⟩] [0, 1, 5]
def m_laws_markIntS_7 : Unit → MCode := fun _ => .region [] [⟨(some 16), .mv (.tmp 1), none, []⟩,
    ⟨(some 17), .bin .add (.tmp 16) (.const (.int .i64 1)), none, []⟩,
    ⟨(some 1), .mv (.tmp 17), none, []⟩] [0, 1, 5]
def m_laws_markIntS_8 : Unit → MCode := fun _ => .seq m_laws_markIntS_6 m_laws_markIntS_7
def m_laws_markIntS_9 : Unit → MCode := fun _ => .block 1 m_laws_markIntS_8
def m_laws_markIntS_10 : Unit → MCode := fun _ => .region [] [⟨(some 10), .mv (.tmp 5), none, []⟩,
    ⟨(some 11), .bin .add (.tmp 10) (.const (.int .i64 1)), none, []⟩,
    ⟨(some 5), .mv (.tmp 11), none, []⟩] [0, 1, 5]
def m_laws_markIntS_11 : Unit → MCode := fun _ => .seq m_laws_markIntS_9 m_laws_markIntS_10
def m_laws_markIntS_12 : Unit → MCode := fun _ => .seq m_laws_markIntS_5 m_laws_markIntS_11
def m_laws_markIntS_13 : Unit → MCode := fun _ => .loop m_laws_markIntS_12
def m_laws_markIntS_14 : Unit → MCode := fun _ => .block 0 m_laws_markIntS_13
def m_laws_markIntS_15 : Unit → MCode := fun _ => .seq m_laws_markIntS_2 m_laws_markIntS_14
def m_laws_markIntS_16 : Unit → MCode := fun _ => .region [] [⟨(some 18), .mv (.tmp 1), none, []⟩,
    ⟨(some 4), .mv (.tmp 18), none, []⟩] [4]
def m_laws_markIntS_17 : Unit → MCode := fun _ => .seq m_laws_markIntS_16 (fun _ => .ret)
def m_laws_markIntS_18 : Unit → MCode := fun _ => .seq m_laws_markIntS_15 m_laws_markIntS_17
def m_laws_markIntS_19 : Unit → MCode := fun _ => .seq m_laws_markIntS_1 m_laws_markIntS_18
def m_laws_markIntS : MCode := m_laws_markIntS_19 ()
def h_laws_markIntS : Hints := [(0, [0, 1], [], [], []), (1, [0, 1, 5], [], [], []), (2, [0, 1, 5, 9], [], [], []), (4, [0, 1, 5], [], [], []), (5, [0, 1, 5], [], [], []), (3, [0, 1, 5], [], [], []), (6, [4], [], [], [])]
def r_laws_markIntS : List RV := [.t 4]
abbrev n_laws_markIntS : Nat := 82
theorem k_laws_markIntS : Known Pr mu n_laws_markIntS m_laws_markIntS r_laws_markIntS Go.Proofs.Try.f82.ntmps := .of h_laws_markIntS hm Go.Proofs.Try.func82 (by kernel_rfl) (by kernel_rfl) (by kernel_rfl) (by kernel_rfl)
def m_laws_heldIntS_1 : Unit → MCode := fun _ => .region [] [⟨(some 4), .mv (.const (.int .i64 0)), none, []⟩] [0, 1]
def m_laws_heldIntS_2 : Unit → MCode := fun _ => .region [] [⟨(some 5), .mv (.const (.int .i64 0)), none, []⟩] [0, 1, 5]
def m_laws_heldIntS_3 : Unit → MCode := fun _ => .region [] [⟨(some 6), .mv (.tmp 5), none, []⟩,
    ⟨(some 7), .mv (.tmp 0), none, []⟩,
    ⟨(some 8), .len false (.tmp 7), none, []⟩,
    ⟨(some 9), .bin .lss (.tmp 6) (.tmp 8), none, []⟩] [0, 1, 5, 9]
def m_laws_heldIntS_4 : Unit → MCode := fun _ => .cond (.tmp 9) (fun _ => .skip) (fun _ => .exit 0)
def m_laws_heldIntS_5 : Unit → MCode := fun _ => .seq m_laws_heldIntS_3 m_laws_heldIntS_4
def m_laws_heldIntS_6 : Unit → MCode := fun _ => .region [] [⟨(some 12), .mv (.tmp 0), none, []⟩,
    ⟨(some 13), .mv (.tmp 5), none, []⟩,
    ⟨(some 14), .ia (.tmp 12) (.tmp 13) 1, none, []⟩,
    ⟨(some 15), .ld (.tmp 14) 1 false, none, []⟩,
    ⟨(some 16), .mv (.tmp 1), none, []⟩,
    ⟨(some 17), .bin .neq (.tmp 15) (.tmp 16), none, []⟩] [0, 1, 5, 17]
def m_laws_heldIntS_7 : Unit → MCode := fun _ => .region [] [⟨(some 4), .mv (.const (.int .i64 (-1))), none, []⟩] [4]
def m_laws_heldIntS_8 : Unit → MCode := fun _ => .seq m_laws_heldIntS_7 (fun _ => .ret)
def m_laws_heldIntS_9 : Unit → MCode := fun _ => .cond (.tmp 17) m_laws_heldIntS_8 (fun _ => .skip)
def m_laws_heldIntS_10 : Unit → MCode := fun _ => .seq m_laws_heldIntS_6 m_laws_heldIntS_9
def m_laws_heldIntS_11 : Unit → MCode := fun _ => .region [] [⟨(some 18), .mv (.tmp 1), none, []⟩,
    ⟨(some 19), .bin .add (.tmp 18) (.const (.int .i64 1)), none, []⟩,
    ⟨(some 1), .mv (.tmp 19), none, []⟩] [0, 1, 5]
def m_laws_heldIntS_12 : Unit → MCode := fun _ => .seq m_laws_heldIntS_10 m_laws_heldIntS_11
def m_laws_heldIntS_13 : Unit → MCode := fun _ => .block 1 m_laws_heldIntS_12
def m_laws_heldIntS_14 : Unit → MCode := fun _ => .region [] [⟨(some 10), .mv (.tmp 5), none, []⟩,
    ⟨(some 11), .bin .add (.tmp 10) (.const (.int .i64 1)), none, []⟩,
    ⟨(some 5), .mv (.tmp 11), none, []⟩] [0, 1, 5]
def m_laws_heldIntS_15 : Unit → MCode := fun _ => .seq m_laws_heldIntS_13 m_laws_heldIntS_14
def m_laws_heldIntS_16 : Unit → MCode := fun _ => .seq m_laws_heldIntS_5 m_laws_heldIntS_15
def m_laws_heldIntS_17 : Unit → MCode := fun _ => .loop m_laws_heldIntS_16
def m_laws_heldIntS_18 : Unit → MCode := fun _ => .block 0 m_laws_heldIntS_17
def m_laws_heldIntS_19 : Unit → MCode := fun _ => .seq m_laws_heldIntS_2 m_laws_heldIntS_18
def m_laws_heldIntS_20 : Unit → MCode := fun _ => .region [] [⟨(some 20), .mv (.tmp 1), none, []⟩,
    ⟨(some 4), .mv (.tmp 20), none, []⟩] [4]
def m_laws_heldIntS_21 : Unit → MCode := fun _ => .seq m_laws_heldIntS_20 (fun _ => .ret)
def m_laws_heldIntS_22 : Unit → MCode := fun _ => .seq m_laws_heldIntS_19 m_laws_heldIntS_21
def m_laws_heldIntS_23 : Unit → MCode := fun _ => .seq m_laws_heldIntS_1 m_laws_heldIntS_22
def m_laws_heldIntS : MCode := m_laws_heldIntS_23 ()
def h_laws_heldIntS : Hints := [(0, [0, 1], [], [], []), (1, [0, 1, 5], [], [], []), (2, [0, 1, 5, 9], [], [], []), (4, [0, 1, 5, 17], [], [], []), (5, [4], [], [], []), (6, [0, 1, 5], [], [], []), (3, [0, 1, 5], [], [], []), (7, [4], [], [], [])]
def r_laws_heldIntS : List RV := [.t 4]
abbrev n_laws_heldIntS : Nat := 83
theorem k_laws_heldIntS : Known Pr mu n_laws_heldIntS m_laws_heldIntS r_laws_heldIntS Go.Proofs.Try.f83.ntmps := .of h_laws_heldIntS hm Go.Proofs.Try.func83 (by kernel_rfl) (by kernel_rfl) (by kernel_rfl) (by kernel_rfl)
end Go.V.T
