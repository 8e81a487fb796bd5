/- The short code of the functions that FnExactHasRoom reaches, held against the program. Conditions: none. -/
import Derived.Test.YtiamffhoiajgnaaV4
import Derived.Test.YtiamffhoiajgnaaProg
namespace Go.V.T
open Go Go.V
noncomputable abbrev Pr := Go.Proofs.Try.prog
def mu : Nat → Bool := fun n => Nat.beq n 32 || Nat.beq n 51 || Nat.beq n 59 || Nat.beq n 82 || Nat.beq n 98
theorem hm : Pr.follows .mixedOrders = true := by kernel_rfl
def m_laws_FnExactHasRoom_1 : Unit → MCode := fun _ => .region [] [⟨(some 4), .mv (.const (.bool false)), none, []⟩] [0, 1]
def m_laws_FnExactHasRoom_2 : Unit → MCode := fun _ => .region [] [⟨(some 5), .mv (.const (.int .i64 1048576)), none, []⟩] [0, 1, 5]
def m_laws_FnExactHasRoom_3 : Unit → MCode := fun _ => .region [] [⟨(some 9), .mv (.tmp 0), none, []⟩,
    ⟨(some 10), .mv (.tmp 5), none, []⟩,
    ⟨(some 11), .call 19 [(.tmp 9), (.tmp 10)], none, []⟩,
    ⟨(some 5), .mv (.tmp 11), none, []⟩] [0, 1, 5]
def m_laws_FnExactHasRoom_4 : Unit → MCode := fun _ => .region [] [⟨(some 12), .mv (.tmp 5), none, []⟩,
    ⟨(some 13), .bin .lss (.tmp 12) (.const (.int .i64 0)), none, []⟩] [0, 1, 13]
def m_laws_FnExactHasRoom_5 : Unit → MCode := fun _ => .region [] [⟨(some 4), .mv (.const (.bool true)), none, []⟩] [4]
def m_laws_FnExactHasRoom_6 : Unit → MCode := fun _ => .seq m_laws_FnExactHasRoom_5 (fun _ => .ret)
def m_laws_FnExactHasRoom_7 : Unit → MCode := fun _ => .cond (.tmp 13) m_laws_FnExactHasRoom_6 (fun _ => .skip)
def m_laws_FnExactHasRoom_8 : Unit → MCode := fun _ => .seq m_laws_FnExactHasRoom_4 m_laws_FnExactHasRoom_7
def m_laws_FnExactHasRoom_9 : Unit → MCode := fun _ => .region [] [⟨(some 14), .mv (.tmp 0), none, []⟩,
    ⟨(some 15), .call 21 [(.tmp 14)], none, []⟩,
    ⟨(some 16), .mv (.tmp 1), none, []⟩,
    ⟨(some 17), .call 20 [(.tmp 15), (.tmp 16)], none, []⟩,
    ⟨(some 6), .mv (.tmp 17), none, []⟩] [0, 1, 6]
def m_laws_FnExactHasRoom_10 : Unit → MCode := fun _ => .region [] [⟨(some 18), .mv (.tmp 0), none, []⟩,
    ⟨(some 19), .call 21 [(.tmp 18)], none, []⟩,
    ⟨(some 7), .mv (.tmp 19), none, []⟩] [0, 1, 6, 7]
def m_laws_FnExactHasRoom_11 : Unit → MCode := fun _ => .region [] [⟨(some 20), .mv (.tmp 7), none, []⟩,
    ⟨(some 21), .mv (.tmp 1), none, []⟩,
    ⟨(some 22), .call 22 [(.tmp 20), (.tmp 21)], none, []⟩,
    ⟨(some 8), .mv (.tmp 22), none, []⟩] [0, 6, 7, 8]
def m_laws_FnExactHasRoom_12 : Unit → MCode := fun _ => .region [] [⟨(some 23), .mv (.tmp 8), none, []⟩,
    ⟨(some 24), .mv (.tmp 6), none, []⟩,
    ⟨(some 25), .bbin .neq (.tmp 23) (.tmp 24), none, []⟩] [0, 7, 25]
def m_laws_FnExactHasRoom_13 : Unit → MCode := fun _ => .region [] [⟨(some 4), .mv (.const (.bool false)), none, []⟩] [4]
def m_laws_FnExactHasRoom_14 : Unit → MCode := fun _ => .seq m_laws_FnExactHasRoom_13 (fun _ => .ret)
def m_laws_FnExactHasRoom_15 : Unit → MCode := fun _ => .cond (.tmp 25) m_laws_FnExactHasRoom_14 (fun _ => .skip)
def m_laws_FnExactHasRoom_16 : Unit → MCode := fun _ => .seq m_laws_FnExactHasRoom_12 m_laws_FnExactHasRoom_15
def m_laws_FnExactHasRoom_17 : Unit → MCode := fun _ => .region [] [⟨(some 26), .mv (.tmp 7), none, []⟩,
    ⟨(some 27), .mv (.tmp 0), none, []⟩,
    ⟨(some 28), .call 21 [(.tmp 27)], none, []⟩,
    ⟨(some 29), .call 23 [(.tmp 26), (.tmp 28)], none, []⟩,
    ⟨(some 30), .not (.tmp 29), none, []⟩] [30]
def m_laws_FnExactHasRoom_18 : Unit → MCode := fun _ => .region [] [⟨(some 4), .mv (.const (.bool false)), none, []⟩] [4]
def m_laws_FnExactHasRoom_19 : Unit → MCode := fun _ => .seq m_laws_FnExactHasRoom_18 (fun _ => .ret)
def m_laws_FnExactHasRoom_20 : Unit → MCode := fun _ => .cond (.tmp 30) m_laws_FnExactHasRoom_19 (fun _ => .skip)
def m_laws_FnExactHasRoom_21 : Unit → MCode := fun _ => .seq m_laws_FnExactHasRoom_17 m_laws_FnExactHasRoom_20
def m_laws_FnExactHasRoom_22 : Unit → MCode := fun _ => .region [] [⟨(some 4), .mv (.const (.bool true)), none, []⟩] [4]
def m_laws_FnExactHasRoom_23 : Unit → MCode := fun _ => .seq m_laws_FnExactHasRoom_22 (fun _ => .ret)
def m_laws_FnExactHasRoom_24 : Unit → MCode := fun _ => .seq m_laws_FnExactHasRoom_21 m_laws_FnExactHasRoom_23
def m_laws_FnExactHasRoom_25 : Unit → MCode := fun _ => .seq m_laws_FnExactHasRoom_16 m_laws_FnExactHasRoom_24
def m_laws_FnExactHasRoom_26 : Unit → MCode := fun _ => .seq m_laws_FnExactHasRoom_11 m_laws_FnExactHasRoom_25
def m_laws_FnExactHasRoom_27 : Unit → MCode := fun _ => .seq m_laws_FnExactHasRoom_10 m_laws_FnExactHasRoom_26
def m_laws_FnExactHasRoom_28 : Unit → MCode := fun _ => .seq m_laws_FnExactHasRoom_9 m_laws_FnExactHasRoom_27
def m_laws_FnExactHasRoom_29 : Unit → MCode := fun _ => .seq m_laws_FnExactHasRoom_8 m_laws_FnExactHasRoom_28
def m_laws_FnExactHasRoom_30 : Unit → MCode := fun _ => .seq m_laws_FnExactHasRoom_3 m_laws_FnExactHasRoom_29
def m_laws_FnExactHasRoom_31 : Unit → MCode := fun _ => .seq m_laws_FnExactHasRoom_2 m_laws_FnExactHasRoom_30
def m_laws_FnExactHasRoom_32 : Unit → MCode := fun _ => .seq m_laws_FnExactHasRoom_1 m_laws_FnExactHasRoom_31
def m_laws_FnExactHasRoom : MCode := m_laws_FnExactHasRoom_32 ()
def h_laws_FnExactHasRoom : Hints := [(0, [0, 1], [], [], []), (1, [0, 1, 5], [], [], []), (2, [0, 1, 5], [], [], []), (3, [0, 1, 13], [], [], []), (4, [4], [], [], []), (5, [0, 1, 6], [], [], []), (6, [0, 1, 6, 7], [], [], []), (7, [0, 6, 7, 8], [], [], []), (8, [0, 7, 25], [], [], []), (9, [4], [], [], []), (10, [30], [], [], []), (11, [4], [], [], []), (12, [4], [], [], [])]
def r_laws_FnExactHasRoom : List RV := [.t 4]
abbrev n_laws_FnExactHasRoom : Nat := 4
theorem k_laws_FnExactHasRoom : Known Pr mu n_laws_FnExactHasRoom m_laws_FnExactHasRoom r_laws_FnExactHasRoom Go.Proofs.Try.f4.ntmps := .of h_laws_FnExactHasRoom hm Go.Proofs.Try.func4 (by kernel_rfl) (by kernel_rfl) (by kernel_rfl) (by kernel_rfl)
def m_laws_szPlaceS_1 : Unit → MCode := fun _ => .region [] [⟨(some 4), .mv (.const (.int .i64 0)), none, []⟩] [0, 1]
def m_laws_szPlaceS_2 : Unit → MCode := fun _ => .region [] [⟨(some 5), .mv (.tmp 1), none, []⟩,
    ⟨(some 6), .mv (.tmp 0), none, []⟩,
    ⟨(some 7), .len false (.tmp 6), none, []⟩,
    ⟨(some 8), .bin .sub (.tmp 5) (.tmp 7), none, []⟩,
    ⟨(some 1), .mv (.tmp 8), none, []⟩] [1]
def m_laws_szPlaceS_3 : Unit → MCode := fun _ => .region [] [⟨(some 9), .mv (.tmp 1), none, []⟩,
    ⟨(some 10), .bin .lss (.tmp 9) (.const (.int .i64 0)), none, []⟩] [1, 10]
def m_laws_szPlaceS_4 : Unit → MCode := fun _ => .region [] [⟨(some 4), .mv (.const (.int .i64 (-1))), none, []⟩] [4]
def m_laws_szPlaceS_5 : Unit → MCode := fun _ => .seq m_laws_szPlaceS_4 (fun _ => .ret)
def m_laws_szPlaceS_6 : Unit → MCode := fun _ => .cond (.tmp 10) m_laws_szPlaceS_5 (fun _ => .skip)
def m_laws_szPlaceS_7 : Unit → MCode := fun _ => .seq m_laws_szPlaceS_3 m_laws_szPlaceS_6
def m_laws_szPlaceS_8 : Unit → MCode := fun _ => .region [] [⟨(some 11), .mv (.tmp 1), none, []⟩,
    ⟨(some 4), .mv (.tmp 11), none, []⟩] [4]
def m_laws_szPlaceS_9 : Unit → MCode := fun _ => .seq m_laws_szPlaceS_8 (fun _ => .ret)
def m_laws_szPlaceS_10 : Unit → MCode := fun _ => .seq m_laws_szPlaceS_7 m_laws_szPlaceS_9
def m_laws_szPlaceS_11 : Unit → MCode := fun _ => .seq m_laws_szPlaceS_2 m_laws_szPlaceS_10
def m_laws_szPlaceS_12 : Unit → MCode := fun _ => .seq m_laws_szPlaceS_1 m_laws_szPlaceS_11
def m_laws_szPlaceS : MCode := m_laws_szPlaceS_12 ()
def h_laws_szPlaceS : Hints := [(0, [0, 1], [], [], []), (1, [1], [], [], []), (2, [1, 10], [], [], []), (3, [4], [], [], []), (4, [4], [], [], [])]
def r_laws_szPlaceS : List RV := [.t 4]
abbrev n_laws_szPlaceS : Nat := 19
theorem k_laws_szPlaceS : Known Pr mu n_laws_szPlaceS m_laws_szPlaceS r_laws_szPlaceS Go.Proofs.Try.f19.ntmps := .of h_laws_szPlaceS hm Go.Proofs.Try.func19 (by kernel_rfl) (by kernel_rfl) (by kernel_rfl) (by kernel_rfl)
def m_spec_HasRoom_1 : Unit → MCode := fun _ => .region [] [⟨(some 4), .mv (.const (.bool false)), none, []⟩] [0, 1]
def m_spec_HasRoom_2 : Unit → MCode := fun _ => .region [] [⟨(some 5), .mv (.tmp 0), none, []⟩,
    ⟨(some 6), .call 73 [(.tmp 5)], none, []⟩,
    ⟨(some 7), .mv (.tmp 6), none, []⟩,
    ⟨(some 8), .mv (.tmp 1), (some (7, true)), []⟩,
    ⟨(some 9), .call 68 [(.tmp 8), (.const (.int .i64 0)), (.const (.int .i64 4))], (some (7, true)), []⟩,
    ⟨(some 10), .pick (.tmp 7) (.tmp 9) (.const (.bool false)), none, []⟩,
    ⟨(some 11), .mv (.tmp 10), none, []⟩,
    ⟨(some 12), .mv (.tmp 0), (some (11, true)), []⟩,
    ⟨(some 13), .mv (.tmp 1), (some (11, true)), []⟩,
    ⟨(some 14), .ia (.tmp 12) (.tmp 13) 3, (some (11, true)), []⟩,
    ⟨(some 15), .fa (.tmp 14) 2, (some (11, true)), []⟩,
    ⟨(some 16), .ld (.tmp 15) 1 false, (some (11, true)), []⟩,
    ⟨(some 17), .mv (.tmp 0), (some (11, true)), []⟩,
    ⟨(some 18), .mv (.tmp 1), (some (11, true)), []⟩,
    ⟨(some 19), .ia (.tmp 17) (.tmp 18) 3, (some (11, true)), [7, 8, 9, 10, 11]⟩,
    ⟨(some 20), .fa (.tmp 19) 1, (some (11, true)), [7, 8, 9, 10, 11]⟩,
    ⟨(some 21), .ld (.tmp 20) 1 false, (some (11, true)), [7, 8, 9, 10, 11]⟩,
    ⟨(some 22), .bin .lss (.tmp 16) (.tmp 21), (some (11, true)), []⟩,
    ⟨(some 23), .pick (.tmp 11) (.tmp 22) (.const (.bool false)), none, []⟩,
    ⟨(some 4), .mv (.tmp 23), none, []⟩] [4]
def m_spec_HasRoom_3 : Unit → MCode := fun _ => .seq m_spec_HasRoom_2 (fun _ => .ret)
def m_spec_HasRoom_4 : Unit → MCode := fun _ => .seq m_spec_HasRoom_1 m_spec_HasRoom_3
def m_spec_HasRoom : MCode := m_spec_HasRoom_4 ()
def h_spec_HasRoom : Hints := [(0, [0, 1], [], [], []), (1, [4], [[], [], [], [], [], [], [], [], [], [], [], [], [], [], [7, 8, 9, 10, 11], [7, 8, 9, 10, 11], [7, 8, 9, 10, 11]], [], [])]
def r_spec_HasRoom : List RV := [.t 4]
abbrev n_spec_HasRoom : Nat := 20
theorem k_spec_HasRoom : Known Pr mu n_spec_HasRoom m_spec_HasRoom r_spec_HasRoom Go.Proofs.Try.f20.ntmps := .of h_spec_HasRoom hm Go.Proofs.Try.func20 (by kernel_rfl) (by kernel_rfl) (by kernel_rfl) (by kernel_rfl)
def m_laws_toPlaceS_1 : Unit → MCode := fun _ => .region [] [⟨(some 2), .mv (.const (.slice none 0 0)), none, []⟩] [0]
def m_laws_toPlaceS_2 : Unit → MCode := fun _ => .region [] [⟨(some 5), .mv (.tmp 0), none, []⟩,
    ⟨(some 6), .len false (.tmp 5), none, []⟩,
    ⟨(some 7), .mks 3 24 [.int .i64 0, .int .i64 0, .int .i64 0] (.tmp 6) (.tmp 6), none, []⟩,
    ⟨(some 3), .mv (.tmp 7), none, []⟩] [0, 3]
def m_laws_toPlaceS_3 : Unit → MCode := fun _ => .region [] [⟨(some 4), .mv (.const (.int .i64 0)), none, []⟩] [0, 3, 4]
def m_laws_toPlaceS_4 : Unit → MCode := fun _ => .region [] [⟨(some 8), .mv (.tmp 4), none, []⟩,
    ⟨(some 9), .mv (.tmp 0), none, []⟩,
    ⟨(some 10), .len false (.tmp 9), none, []⟩,
    ⟨(some 11), .bin .lss (.tmp 8) (.tmp 10), none, []⟩] [0, 3, 4, 11]
def m_laws_toPlaceS_5 : Unit → MCode := fun _ => .cond (.tmp 11) (fun _ => .skip) (fun _ => .exit 0)
def m_laws_toPlaceS_6 : Unit → MCode := fun _ => .seq m_laws_toPlaceS_4 m_laws_toPlaceS_5
def m_laws_toPlaceS_7 : Unit → MCode := fun _ => .region [] [⟨(some 14), .mv (.tmp 3), none, []⟩,
    ⟨(some 15), .mv (.tmp 4), none, []⟩,
    ⟨(some 16), .mv (.tmp 0), none, []⟩,
    ⟨(some 17), .mv (.tmp 4), none, []⟩,
    ⟨(some 18), .ia (.tmp 16) (.tmp 17) 3, none, []⟩,
    ⟨(some 19), .ld (.tmp 18) 3 true, none, []⟩,
    ⟨(some 20), .call 74 [(.tmp 19)], none, []⟩,
    ⟨(some 21), .ia (.tmp 14) (.tmp 15) 3, none, []⟩,
    ⟨none, .sto (.tmp 21) (.tmp 20) 3, none, []⟩] [0, 3, 4]
def m_laws_toPlaceS_8 : Unit → MCode := fun _ => .block 1 m_laws_toPlaceS_7
def m_laws_toPlaceS_9 : Unit → MCode := fun _ => .region [] [⟨(some 12), .mv (.tmp 4), none, []⟩,
    ⟨(some 13), .bin .add (.tmp 12) (.const (.int .i64 1)), none, []⟩,
    ⟨(some 4), .mv (.tmp 13), none, []⟩] [0, 3, 4]
def m_laws_toPlaceS_10 : Unit → MCode := fun _ => .seq m_laws_toPlaceS_8 m_laws_toPlaceS_9
def m_laws_toPlaceS_11 : Unit → MCode := fun _ => .seq m_laws_toPlaceS_6 m_laws_toPlaceS_10
def m_laws_toPlaceS_12 : Unit → MCode := fun _ => .loop m_laws_toPlaceS_11
def m_laws_toPlaceS_13 : Unit → MCode := fun _ => .block 0 m_laws_toPlaceS_12
def m_laws_toPlaceS_14 : Unit → MCode := fun _ => .seq m_laws_toPlaceS_3 m_laws_toPlaceS_13
def m_laws_toPlaceS_15 : Unit → MCode := fun _ => .region [] [⟨(some 22), .mv (.tmp 3), none, []⟩,
    ⟨(some 2), .mv (.tmp 22), none, []⟩] [2]
def m_laws_toPlaceS_16 : Unit → MCode := fun _ => .seq m_laws_toPlaceS_15 (fun _ => .ret)
def m_laws_toPlaceS_17 : Unit → MCode := fun _ => .seq m_laws_toPlaceS_14 m_laws_toPlaceS_16
def m_laws_toPlaceS_18 : Unit → MCode := fun _ => .seq m_laws_toPlaceS_2 m_laws_toPlaceS_17
def m_laws_toPlaceS_19 : Unit → MCode := fun _ => .seq m_laws_toPlaceS_1 m_laws_toPlaceS_18
def m_laws_toPlaceS : MCode := m_laws_toPlaceS_19 ()
def h_laws_toPlaceS : Hints := [(0, [0], [], [], []), (1, [0, 3], [], [], []), (2, [0, 3, 4], [], [], []), (3, [0, 3, 4, 11], [], [], []), (5, [0, 3, 4], [], [], []), (4, [0, 3, 4], [], [], []), (6, [2], [], [], [])]
def r_laws_toPlaceS : List RV := [.t 2]
abbrev n_laws_toPlaceS : Nat := 21
theorem k_laws_toPlaceS : Known Pr mu n_laws_toPlaceS m_laws_toPlaceS r_laws_toPlaceS Go.Proofs.Try.f21.ntmps := .of h_laws_toPlaceS hm Go.Proofs.Try.func21 (by kernel_rfl) (by kernel_rfl) (by kernel_rfl) (by kernel_rfl)
def m_impl_HasRoom_1 : Unit → MCode := fun _ => .region [] [⟨(some 4), .mv (.const (.bool false)), none, []⟩] [0, 1]
def m_impl_HasRoom_2 : Unit → MCode := fun _ => .region [] [⟨(some 5), .mv (.tmp 0), none, []⟩,
    ⟨(some 6), .call 75 [(.tmp 5)], none, []⟩,
    ⟨(some 7), .mv (.tmp 6), none, []⟩,
    ⟨(some 8), .mv (.tmp 1), (some (7, true)), []⟩,
    ⟨(some 9), .call 71 [(.tmp 8), (.const (.int .i64 0)), (.const (.int .i64 4))], (some (7, true)), []⟩,
    ⟨(some 10), .pick (.tmp 7) (.tmp 9) (.const (.bool false)), none, []⟩,
    ⟨(some 11), .mv (.tmp 10), none, []⟩,
    ⟨(some 12), .mv (.tmp 0), (some (11, true)), []⟩,
    ⟨(some 13), .mv (.tmp 1), (some (11, true)), []⟩,
    ⟨(some 14), .ia (.tmp 12) (.tmp 13) 3, (some (11, true)), []⟩,
    ⟨(some 15), .fa (.tmp 14) 2, (some (11, true)), []⟩,
    ⟨(some 16), .ld (.tmp 15) 1 false, (some (11, true)), []⟩,
    ⟨(some 17), .mv (.tmp 0), (some (11, true)), []⟩,
    ⟨(some 18), .mv (.tmp 1), (some (11, true)), []⟩,
    ⟨(some 19), .ia (.tmp 17) (.tmp 18) 3, (some (11, true)), [7, 8, 9, 10, 11]⟩,
    ⟨(some 20), .fa (.tmp 19) 1, (some (11, true)), [7, 8, 9, 10, 11]⟩,
    ⟨(some 21), .ld (.tmp 20) 1 false, (some (11, true)), [7, 8, 9, 10, 11]⟩,
    ⟨(some 22), .bin .lss (.tmp 16) (.tmp 21), (some (11, true)), []⟩,
    ⟨(some 23), .pick (.tmp 11) (.tmp 22) (.const (.bool false)), none, []⟩,
    ⟨(some 4), .mv (.tmp 23), none, []⟩] [4]
def m_impl_HasRoom_3 : Unit → MCode := fun _ => .seq m_impl_HasRoom_2 (fun _ => .ret)
def m_impl_HasRoom_4 : Unit → MCode := fun _ => .seq m_impl_HasRoom_1 m_impl_HasRoom_3
def m_impl_HasRoom : MCode := m_impl_HasRoom_4 ()
def h_impl_HasRoom : Hints := [(0, [0, 1], [], [], []), (1, [4], [[], [], [], [], [], [], [], [], [], [], [], [], [], [], [7, 8, 9, 10, 11], [7, 8, 9, 10, 11], [7, 8, 9, 10, 11]], [], [])]
def r_impl_HasRoom : List RV := [.t 4]
abbrev n_impl_HasRoom : Nat := 22
theorem k_impl_HasRoom : Known Pr mu n_impl_HasRoom m_impl_HasRoom r_impl_HasRoom Go.Proofs.Try.f22.ntmps := .of h_impl_HasRoom hm Go.Proofs.Try.func22 (by kernel_rfl) (by kernel_rfl) (by kernel_rfl) (by kernel_rfl)
def m_laws_eqPlaceS_1 : Unit → MCode := fun _ => .region [] [⟨(some 4), .mv (.const (.bool false)), none, []⟩] [0, 1]
def m_laws_eqPlaceS_2 : Unit → MCode := fun _ => .region [] [⟨(some 6), .mv (.tmp 0), none, []⟩,
    ⟨(some 7), .len false (.tmp 6), none, []⟩,
    ⟨(some 8), .mv (.tmp 1), none, []⟩,
    ⟨(some 9), .len false (.tmp 8), none, []⟩,
    ⟨(some 10), .bin .neq (.tmp 7) (.tmp 9), none, []⟩] [0, 1, 10]
def m_laws_eqPlaceS_3 : Unit → MCode := fun _ => .region [] [⟨(some 4), .mv (.const (.bool false)), none, []⟩] [4]
def m_laws_eqPlaceS_4 : Unit → MCode := fun _ => .seq m_laws_eqPlaceS_3 (fun _ => .ret)
def m_laws_eqPlaceS_5 : Unit → MCode := fun _ => .cond (.tmp 10) m_laws_eqPlaceS_4 (fun _ => .skip)
def m_laws_eqPlaceS_6 : Unit → MCode := fun _ => .seq m_laws_eqPlaceS_2 m_laws_eqPlaceS_5
def m_laws_eqPlaceS_7 : Unit → MCode := fun _ => .region [] [⟨(some 5), .mv (.const (.int .i64 0)), none, []⟩] [0, 1, 5]
def m_laws_eqPlaceS_8 : Unit → MCode := fun _ => .region [] [⟨(some 11), .mv (.tmp 5), none, []⟩,
    ⟨(some 12), .mv (.tmp 0), none, []⟩,
    ⟨(some 13), .len false (.tmp 12), none, []⟩,
    ⟨(some 14), .bin .lss (.tmp 11) (.tmp 13), none, []⟩] [0, 1, 5, 14]
def m_laws_eqPlaceS_9 : Unit → MCode := fun _ => .cond (.tmp 14) (fun _ => .skip) (fun _ => .exit 0)
def m_laws_eqPlaceS_10 : Unit → MCode := fun _ => .seq m_laws_eqPlaceS_8 m_laws_eqPlaceS_9
def m_laws_eqPlaceS_11 : Unit → MCode := fun _ => .region [] [⟨(some 17), .mv (.tmp 0), none, []⟩,
    ⟨(some 18), .mv (.tmp 5), none, []⟩,
    ⟨(some 19), .ia (.tmp 17) (.tmp 18) 3, none, []⟩,
    ⟨(some 20), .ld (.tmp 19) 3 true, none, []⟩,
    ⟨(some 21), .mv (.tmp 1), none, []⟩,
    ⟨(some 22), .mv (.tmp 5), none, []⟩,
    ⟨(some 23), .ia (.tmp 21) (.tmp 22) 3, none, [0, 1, 2, 3]⟩,
    ⟨(some 24), .ld (.tmp 23) 3 true, none, [0, 1, 2, 3]⟩,
    ⟨(some 25), .call 76 [(.tmp 20), (.tmp 24)], none, []⟩,
    ⟨(some 26), .not (.tmp 25), none, []⟩] [0, 1, 5, 26]
def m_laws_eqPlaceS_12 : Unit → MCode := fun _ => .region [] [⟨(some 4), .mv (.const (.bool false)), none, []⟩] [4]
def m_laws_eqPlaceS_13 : Unit → MCode := fun _ => .seq m_laws_eqPlaceS_12 (fun _ => .ret)
def m_laws_eqPlaceS_14 : Unit → MCode := fun _ => .cond (.tmp 26) m_laws_eqPlaceS_13 (fun _ => .skip)
def m_laws_eqPlaceS_15 : Unit → MCode := fun _ => .seq m_laws_eqPlaceS_11 m_laws_eqPlaceS_14
def m_laws_eqPlaceS_16 : Unit → MCode := fun _ => .block 1 m_laws_eqPlaceS_15
def m_laws_eqPlaceS_17 : Unit → MCode := fun _ => .region [] [⟨(some 15), .mv (.tmp 5), none, []⟩,
    ⟨(some 16), .bin .add (.tmp 15) (.const (.int .i64 1)), none, []⟩,
    ⟨(some 5), .mv (.tmp 16), none, []⟩] [0, 1, 5]
def m_laws_eqPlaceS_18 : Unit → MCode := fun _ => .seq m_laws_eqPlaceS_16 m_laws_eqPlaceS_17
def m_laws_eqPlaceS_19 : Unit → MCode := fun _ => .seq m_laws_eqPlaceS_10 m_laws_eqPlaceS_18
def m_laws_eqPlaceS_20 : Unit → MCode := fun _ => .loop m_laws_eqPlaceS_19
def m_laws_eqPlaceS_21 : Unit → MCode := fun _ => .block 0 m_laws_eqPlaceS_20
def m_laws_eqPlaceS_22 : Unit → MCode := fun _ => .seq m_laws_eqPlaceS_7 m_laws_eqPlaceS_21
def m_laws_eqPlaceS_23 : Unit → MCode := fun _ => .region [] [⟨(some 4), .mv (.const (.bool true)), none, []⟩] [4]
def m_laws_eqPlaceS_24 : Unit → MCode := fun _ => .seq m_laws_eqPlaceS_23 (fun _ => .ret)
def m_laws_eqPlaceS_25 : Unit → MCode := fun _ => .seq m_laws_eqPlaceS_22 m_laws_eqPlaceS_24
def m_laws_eqPlaceS_26 : Unit → MCode := fun _ => .seq m_laws_eqPlaceS_6 m_laws_eqPlaceS_25
def m_laws_eqPlaceS_27 : Unit → MCode := fun _ => .seq m_laws_eqPlaceS_1 m_laws_eqPlaceS_26
def m_laws_eqPlaceS : MCode := m_laws_eqPlaceS_27 ()
def h_laws_eqPlaceS : Hints := [(0, [0, 1], [], [], []), (1, [0, 1, 10], [], [], []), (2, [4], [], [], []), (3, [0, 1, 5], [], [], []), (4, [0, 1, 5, 14], [], [], []), (6, [0, 1, 5, 26], [[], [], [], [], [], [], [0, 1, 2, 3], [0, 1, 2, 3]], [], []), (7, [4], [], [], []), (5, [0, 1, 5], [], [], []), (8, [4], [], [], [])]
def r_laws_eqPlaceS : List RV := [.t 4]
abbrev n_laws_eqPlaceS : Nat := 23
theorem k_laws_eqPlaceS : Known Pr mu n_laws_eqPlaceS m_laws_eqPlaceS r_laws_eqPlaceS Go.Proofs.Try.f23.ntmps := .of h_laws_eqPlaceS hm Go.Proofs.Try.func23 (by kernel_rfl) (by kernel_rfl) (by kernel_rfl) (by kernel_rfl)
def m_spec_l1In_1 : Unit → MCode := fun _ => .region [] [⟨(some 6), .mv (.const (.bool false)), none, []⟩] [0, 1, 2]
def m_spec_l1In_2 : Unit → MCode := fun _ => .region [] [⟨(some 7), .mv (.tmp 0), none, []⟩,
    ⟨(some 8), .mv (.tmp 1), none, []⟩,
    ⟨(some 9), .bin .geq (.tmp 7) (.tmp 8), none, []⟩,
    ⟨(some 10), .mv (.tmp 9), none, []⟩,
    ⟨(some 11), .mv (.tmp 0), (some (10, true)), []⟩,
    ⟨(some 12), .mv (.tmp 2), (some (10, true)), []⟩,
    ⟨(some 13), .bin .leq (.tmp 11) (.tmp 12), (some (10, true)), []⟩,
    ⟨(some 14), .pick (.tmp 10) (.tmp 13) (.const (.bool false)), none, []⟩,
    ⟨(some 6), .mv (.tmp 14), none, []⟩] [6]
def m_spec_l1In_3 : Unit → MCode := fun _ => .seq m_spec_l1In_2 (fun _ => .ret)
def m_spec_l1In_4 : Unit → MCode := fun _ => .seq m_spec_l1In_1 m_spec_l1In_3
def m_spec_l1In : MCode := m_spec_l1In_4 ()
def h_spec_l1In : Hints := [(0, [0, 1, 2], [], [], []), (1, [6], [], [], [])]
def r_spec_l1In : List RV := [.t 6]
abbrev n_spec_l1In : Nat := 68
theorem k_spec_l1In : Known Pr mu n_spec_l1In m_spec_l1In r_spec_l1In Go.Proofs.Try.f68.ntmps := .of h_spec_l1In hm Go.Proofs.Try.func68 (by kernel_rfl) (by kernel_rfl) (by kernel_rfl) (by kernel_rfl)
def m_impl_within_1 : Unit → MCode := fun _ => .region [] [⟨(some 6), .mv (.const (.bool false)), none, []⟩] [0, 1, 2]
def m_impl_within_2 : Unit → MCode := fun _ => .region [] [⟨(some 7), .mv (.tmp 1), none, []⟩,
    ⟨(some 8), .mv (.tmp 0), none, []⟩,
    ⟨(some 9), .bin .leq (.tmp 7) (.tmp 8), none, []⟩,
    ⟨(some 10), .mv (.tmp 9), none, []⟩,
    ⟨(some 11), .mv (.tmp 0), (some (10, true)), []⟩,
    ⟨(some 12), .mv (.tmp 2), (some (10, true)), []⟩,
    ⟨(some 13), .bin .leq (.tmp 11) (.tmp 12), (some (10, true)), []⟩,
    ⟨(some 14), .pick (.tmp 10) (.tmp 13) (.const (.bool false)), none, []⟩,
    ⟨(some 6), .mv (.tmp 14), none, []⟩] [6]
def m_impl_within_3 : Unit → MCode := fun _ => .seq m_impl_within_2 (fun _ => .ret)
def m_impl_within_4 : Unit → MCode := fun _ => .seq m_impl_within_1 m_impl_within_3
def m_impl_within : MCode := m_impl_within_4 ()
def h_impl_within : Hints := [(0, [0, 1, 2], [], [], []), (1, [6], [], [], [])]
def r_impl_within : List RV := [.t 6]
abbrev n_impl_within : Nat := 71
theorem k_impl_within : Known Pr mu n_impl_within m_impl_within r_impl_within Go.Proofs.Try.f71.ntmps := .of h_impl_within hm Go.Proofs.Try.func71 (by kernel_rfl) (by kernel_rfl) (by kernel_rfl) (by kernel_rfl)
def m_spec_ArePlaces_1 : Unit → MCode := fun _ => .region [] [⟨(some 2), .mv (.const (.bool false)), none, []⟩] [0]
def m_spec_ArePlaces_2 : Unit → MCode := fun _ => .region [] [⟨(some 3), .mv (.const (.int .i64 0)), none, []⟩] [0, 3]
def m_spec_ArePlaces_3 : Unit → MCode := fun _ => .region [] [⟨(some 4), .mv (.tmp 3), none, []⟩,
    ⟨(some 5), .mv (.tmp 0), none, []⟩,
    ⟨(some 6), .len false (.tmp 5), none, []⟩,
    ⟨(some 7), .bin .lss (.tmp 4) (.tmp 6), none, []⟩] [0, 3, 7]
def m_spec_ArePlaces_4 : Unit → MCode := fun _ => .cond (.tmp 7) (fun _ => .skip) (fun _ => .exit 0)
def m_spec_ArePlaces_5 : Unit → MCode := fun _ => .seq m_spec_ArePlaces_3 m_spec_ArePlaces_4
def m_spec_ArePlaces_6 : Unit → MCode := fun _ => .region [] [⟨(some 10), .mv (.tmp 0), none, []⟩,
    ⟨(some 11), .mv (.tmp 3), none, []⟩,
    ⟨(some 12), .ia (.tmp 10) (.tmp 11) 3, none, []⟩,
    ⟨(some 13), .fa (.tmp 12) 0, none, []⟩,
    ⟨(some 14), .ld (.tmp 13) 1 false, none, []⟩,
    ⟨(some 15), .call 68 [(.tmp 14), (.const (.int .i64 0)), (.const (.int .i64 9))], none, []⟩,
    ⟨(some 16), .not (.tmp 15), none, []⟩,
    ⟨(some 17), .mv (.tmp 16), none, []⟩,
    ⟨(some 18), .mv (.tmp 0), (some (17, false)), []⟩,
    ⟨(some 19), .mv (.tmp 3), (some (17, false)), []⟩,
    ⟨(some 20), .ia (.tmp 18) (.tmp 19) 3, (some (17, false)), []⟩,
    ⟨(some 21), .fa (.tmp 20) 1, (some (17, false)), []⟩,
    ⟨(some 22), .ld (.tmp 21) 1 false, (some (17, false)), []⟩,
    ⟨(some 23), .call 68 [(.tmp 22), (.const (.int .i64 0)), (.const (.int .i64 9))], (some (17, false)), []⟩,
    ⟨(some 24), .not (.tmp 23), (some (17, false)), []⟩,
    ⟨(some 25), .pick (.tmp 17) (.const (.bool true)) (.tmp 24), none, []⟩,
    ⟨(some 26), .mv (.tmp 25), none, []⟩,
    ⟨(some 27), .mv (.tmp 0), (some (26, false)), []⟩,
    ⟨(some 28), .mv (.tmp 3), (some (26, false)), []⟩,
    ⟨(some 29), .ia (.tmp 27) (.tmp 28) 3, (some (26, false)), []⟩,
    ⟨(some 30), .fa (.tmp 29) 2, (some (26, false)), []⟩,
    ⟨(some 31), .ld (.tmp 30) 1 false, (some (26, false)), []⟩,
    ⟨(some 32), .call 68 [(.tmp 31), (.const (.int .i64 0)), (.const (.int .i64 99))], (some (26, false)), []⟩,
    ⟨(some 33), .not (.tmp 32), (some (26, false)), []⟩,
    ⟨(some 34), .pick (.tmp 26) (.const (.bool true)) (.tmp 33), none, []⟩] [0, 3, 34]
def m_spec_ArePlaces_7 : Unit → MCode := fun _ => .region [] [⟨(some 2), .mv (.const (.bool false)), none, []⟩] [2]
def m_spec_ArePlaces_8 : Unit → MCode := fun _ => .seq m_spec_ArePlaces_7 (fun _ => .ret)
def m_spec_ArePlaces_9 : Unit → MCode := fun _ => .cond (.tmp 34) m_spec_ArePlaces_8 (fun _ => .skip)
def m_spec_ArePlaces_10 : Unit → MCode := fun _ => .seq m_spec_ArePlaces_6 m_spec_ArePlaces_9
def m_spec_ArePlaces_11 : Unit → MCode := fun _ => .block 1 m_spec_ArePlaces_10
def m_spec_ArePlaces_12 : Unit → MCode := fun _ => .region [] [⟨(some 8), .mv (.tmp 3), none, []⟩,
    ⟨(some 9), .bin .add (.tmp 8) (.const (.int .i64 1)), none, []⟩,
    ⟨(some 3), .mv (.tmp 9), none, []⟩] [0, 3]
def m_spec_ArePlaces_13 : Unit → MCode := fun _ => .seq m_spec_ArePlaces_11 m_spec_ArePlaces_12
def m_spec_ArePlaces_14 : Unit → MCode := fun _ => .seq m_spec_ArePlaces_5 m_spec_ArePlaces_13
def m_spec_ArePlaces_15 : Unit → MCode := fun _ => .loop m_spec_ArePlaces_14
def m_spec_ArePlaces_16 : Unit → MCode := fun _ => .block 0 m_spec_ArePlaces_15
def m_spec_ArePlaces_17 : Unit → MCode := fun _ => .seq m_spec_ArePlaces_2 m_spec_ArePlaces_16
def m_spec_ArePlaces_18 : Unit → MCode := fun _ => .region [] [⟨(some 35), .mv (.tmp 0), none, []⟩,
    ⟨(some 36), .len false (.tmp 35), none, []⟩,
    ⟨(some 37), .bin .eql (.tmp 36) (.const (.int .i64 5)), none, []⟩,
    ⟨(some 2), .mv (.tmp 37), none, []⟩] [2]
def m_spec_ArePlaces_19 : Unit → MCode := fun _ => .seq m_spec_ArePlaces_18 (fun _ => .ret)
def m_spec_ArePlaces_20 : Unit → MCode := fun _ => .seq m_spec_ArePlaces_17 m_spec_ArePlaces_19
def m_spec_ArePlaces_21 : Unit → MCode := fun _ => .seq m_spec_ArePlaces_1 m_spec_ArePlaces_20
def m_spec_ArePlaces : MCode := m_spec_ArePlaces_21 ()
def h_spec_ArePlaces : Hints := [(0, [0], [], [], []), (1, [0, 3], [], [], []), (2, [0, 3, 7], [], [], []), (4, [0, 3, 34], [], [], []), (5, [2], [], [], []), (3, [0, 3], [], [], []), (6, [2], [], [], [])]
def r_spec_ArePlaces : List RV := [.t 2]
abbrev n_spec_ArePlaces : Nat := 73
theorem k_spec_ArePlaces : Known Pr mu n_spec_ArePlaces m_spec_ArePlaces r_spec_ArePlaces Go.Proofs.Try.f73.ntmps := .of h_spec_ArePlaces hm Go.Proofs.Try.func73 (by kernel_rfl) (by kernel_rfl) (by kernel_rfl) (by kernel_rfl)
def m_laws_toPlace_1 : Unit → MCode := fun _ => .region [] [⟨(some 1), .box (.tmp 0), none, []⟩,
    ⟨(some 2), .alloc [.int .i64 0, .int .i64 0, .int .i64 0], none, []⟩] [1, 2]
def m_laws_toPlace_2 : Unit → MCode := fun _ => .region [] [⟨(some 3), .alloc [.int .i64 0, .int .i64 0, .int .i64 0], none, []⟩] [1, 2, 3]
def m_laws_toPlace_3 : Unit → MCode := fun _ => .region [] [⟨(some 4), .fa (.tmp 1) 0, none, []⟩,
    ⟨(some 5), .ld (.tmp 4) 1 false, none, []⟩,
    ⟨(some 6), .fa (.tmp 3) 0, none, []⟩,
    ⟨none, .sto (.tmp 6) (.tmp 5) 1, none, []⟩] [1, 2, 3]
def m_laws_toPlace_4 : Unit → MCode := fun _ => .region [] [⟨(some 7), .fa (.tmp 1) 1, none, []⟩,
    ⟨(some 8), .ld (.tmp 7) 1 false, none, []⟩,
    ⟨(some 9), .fa (.tmp 3) 1, none, []⟩,
    ⟨none, .sto (.tmp 9) (.tmp 8) 1, none, []⟩] [1, 2, 3]
def m_laws_toPlace_5 : Unit → MCode := fun _ => .region [] [⟨(some 10), .fa (.tmp 1) 2, none, []⟩,
    ⟨(some 11), .ld (.tmp 10) 1 false, none, []⟩,
    ⟨(some 12), .fa (.tmp 3) 2, none, []⟩,
    ⟨none, .sto (.tmp 12) (.tmp 11) 1, none, []⟩] [2, 3]
def m_laws_toPlace_6 : Unit → MCode := fun _ => .region [] [⟨(some 13), .ld (.tmp 3) 3 true, none, []⟩,
    ⟨none, .sto (.tmp 2) (.tmp 13) 3, none, []⟩] [2]
def m_laws_toPlace_7 : Unit → MCode := fun _ => .seq m_laws_toPlace_6 (fun _ => .ret)
def m_laws_toPlace_8 : Unit → MCode := fun _ => .seq m_laws_toPlace_5 m_laws_toPlace_7
def m_laws_toPlace_9 : Unit → MCode := fun _ => .seq m_laws_toPlace_4 m_laws_toPlace_8
def m_laws_toPlace_10 : Unit → MCode := fun _ => .seq m_laws_toPlace_3 m_laws_toPlace_9
def m_laws_toPlace_11 : Unit → MCode := fun _ => .seq m_laws_toPlace_2 m_laws_toPlace_10
def m_laws_toPlace_12 : Unit → MCode := fun _ => .seq m_laws_toPlace_1 m_laws_toPlace_11
def m_laws_toPlace : MCode := m_laws_toPlace_12 ()
def h_laws_toPlace : Hints := [(0, [1, 2], [], [], []), (1, [1, 2, 3], [], [], []), (2, [1, 2, 3], [], [], []), (3, [1, 2, 3], [], [], []), (4, [2, 3], [], [], []), (5, [2], [], [], [])]
def r_laws_toPlace : List RV := [.c 2 3 true]
abbrev n_laws_toPlace : Nat := 74
theorem k_laws_toPlace : Known Pr mu n_laws_toPlace m_laws_toPlace r_laws_toPlace Go.Proofs.Try.f74.ntmps := .of h_laws_toPlace hm Go.Proofs.Try.func74 (by kernel_rfl) (by kernel_rfl) (by kernel_rfl) (by kernel_rfl)
def m_impl_ArePlaces_1 : Unit → MCode := fun _ => .region [] [⟨(some 2), .mv (.const (.bool false)), none, []⟩] [0]
def m_impl_ArePlaces_2 : Unit → MCode := fun _ => .region [] [⟨(some 3), .mv (.tmp 0), none, []⟩,
    ⟨(some 4), .len false (.tmp 3), none, []⟩,
    ⟨(some 5), .bin .eql (.tmp 4) (.const (.int .i64 5)), none, []⟩,
    ⟨(some 6), .mv (.tmp 5), none, []⟩,
    ⟨(some 7), .mv (.tmp 0), (some (6, true)), []⟩,
    ⟨(some 8), .call 106 [(.tmp 7), (.func 107)], (some (6, true)), []⟩,
    ⟨(some 9), .not (.tmp 8), (some (6, true)), []⟩,
    ⟨(some 10), .pick (.tmp 6) (.tmp 9) (.const (.bool false)), none, []⟩,
    ⟨(some 2), .mv (.tmp 10), none, []⟩] [2]
def m_impl_ArePlaces_3 : Unit → MCode := fun _ => .seq m_impl_ArePlaces_2 (fun _ => .ret)
def m_impl_ArePlaces_4 : Unit → MCode := fun _ => .seq m_impl_ArePlaces_1 m_impl_ArePlaces_3
def m_impl_ArePlaces : MCode := m_impl_ArePlaces_4 ()
def h_impl_ArePlaces : Hints := [(0, [0], [], [], []), (1, [2], [], [], [])]
def r_impl_ArePlaces : List RV := [.t 2]
abbrev n_impl_ArePlaces : Nat := 75
theorem k_impl_ArePlaces : Known Pr mu n_impl_ArePlaces m_impl_ArePlaces r_impl_ArePlaces Go.Proofs.Try.f75.ntmps := .of h_impl_ArePlaces hm Go.Proofs.Try.func75 (by kernel_rfl) (by kernel_rfl) (by kernel_rfl) (by kernel_rfl)
def m_laws_eqPlace_1 : Unit → MCode := fun _ => .region [] [⟨(some 2), .box (.tmp 0), none, []⟩,
    ⟨(some 3), .box (.tmp 1), none, []⟩,
    ⟨(some 4), .mv (.const (.bool false)), none, []⟩] [2, 3]
def m_laws_eqPlace_2 : Unit → MCode := fun _ => .region [] [⟨(some 5), .fa (.tmp 2) 0, none, []⟩,
    ⟨(some 6), .ld (.tmp 5) 1 false, none, []⟩,
    ⟨(some 7), .fa (.tmp 3) 0, none, []⟩,
    ⟨(some 8), .ld (.tmp 7) 1 false, none, []⟩,
    ⟨(some 9), .bin .neq (.tmp 6) (.tmp 8), none, []⟩] [2, 3, 9]
def m_laws_eqPlace_3 : Unit → MCode := fun _ => .region [] [⟨(some 4), .mv (.const (.bool false)), none, []⟩] [4]
def m_laws_eqPlace_4 : Unit → MCode := fun _ => .seq m_laws_eqPlace_3 (fun _ => .ret)
def m_laws_eqPlace_5 : Unit → MCode := fun _ => .cond (.tmp 9) m_laws_eqPlace_4 (fun _ => .skip)
def m_laws_eqPlace_6 : Unit → MCode := fun _ => .seq m_laws_eqPlace_2 m_laws_eqPlace_5
def m_laws_eqPlace_7 : Unit → MCode := fun _ => .region [] [⟨(some 10), .fa (.tmp 2) 1, none, []⟩,
    ⟨(some 11), .ld (.tmp 10) 1 false, none, []⟩,
    ⟨(some 12), .fa (.tmp 3) 1, none, []⟩,
    ⟨(some 13), .ld (.tmp 12) 1 false, none, []⟩,
    ⟨(some 14), .bin .neq (.tmp 11) (.tmp 13), none, []⟩] [2, 3, 14]
def m_laws_eqPlace_8 : Unit → MCode := fun _ => .region [] [⟨(some 4), .mv (.const (.bool false)), none, []⟩] [4]
def m_laws_eqPlace_9 : Unit → MCode := fun _ => .seq m_laws_eqPlace_8 (fun _ => .ret)
def m_laws_eqPlace_10 : Unit → MCode := fun _ => .cond (.tmp 14) m_laws_eqPlace_9 (fun _ => .skip)
def m_laws_eqPlace_11 : Unit → MCode := fun _ => .seq m_laws_eqPlace_7 m_laws_eqPlace_10
def m_laws_eqPlace_12 : Unit → MCode := fun _ => .region [] [⟨(some 15), .fa (.tmp 2) 2, none, []⟩,
    ⟨(some 16), .ld (.tmp 15) 1 false, none, []⟩,
    ⟨(some 17), .fa (.tmp 3) 2, none, []⟩,
    ⟨(some 18), .ld (.tmp 17) 1 false, none, []⟩,
    ⟨(some 19), .bin .neq (.tmp 16) (.tmp 18), none, []⟩] [19]
def m_laws_eqPlace_13 : Unit → MCode := fun _ => .region [] [⟨(some 4), .mv (.const (.bool false)), none, []⟩] [4]
def m_laws_eqPlace_14 : Unit → MCode := fun _ => .seq m_laws_eqPlace_13 (fun _ => .ret)
def m_laws_eqPlace_15 : Unit → MCode := fun _ => .cond (.tmp 19) m_laws_eqPlace_14 (fun _ => .skip)
def m_laws_eqPlace_16 : Unit → MCode := fun _ => .seq m_laws_eqPlace_12 m_laws_eqPlace_15
def m_laws_eqPlace_17 : Unit → MCode := fun _ => .region [] [⟨(some 4), .mv (.const (.bool true)), none, []⟩] [4]
def m_laws_eqPlace_18 : Unit → MCode := fun _ => .seq m_laws_eqPlace_17 (fun _ => .ret)
def m_laws_eqPlace_19 : Unit → MCode := fun _ => .seq m_laws_eqPlace_16 m_laws_eqPlace_18
def m_laws_eqPlace_20 : Unit → MCode := fun _ => .seq m_laws_eqPlace_11 m_laws_eqPlace_19
def m_laws_eqPlace_21 : Unit → MCode := fun _ => .seq m_laws_eqPlace_6 m_laws_eqPlace_20
def m_laws_eqPlace_22 : Unit → MCode := fun _ => .seq m_laws_eqPlace_1 m_laws_eqPlace_21
def m_laws_eqPlace : MCode := m_laws_eqPlace_22 ()
def h_laws_eqPlace : Hints := [(0, [2, 3], [], [], []), (1, [2, 3, 9], [], [], []), (2, [4], [], [], []), (3, [2, 3, 14], [], [], []), (4, [4], [], [], []), (5, [19], [], [], []), (6, [4], [], [], []), (7, [4], [], [], [])]
def r_laws_eqPlace : List RV := [.t 4]
abbrev n_laws_eqPlace : Nat := 76
theorem k_laws_eqPlace : Known Pr mu n_laws_eqPlace m_laws_eqPlace r_laws_eqPlace Go.Proofs.Try.f76.ntmps := .of h_laws_eqPlace hm Go.Proofs.Try.func76 (by kernel_rfl) (by kernel_rfl) (by kernel_rfl) (by kernel_rfl)
def m_slices_ContainsFunc_implPlaceimplPlace_1 : Unit → MCode := fun _ => .region [] [⟨(some 4), .mv (.const (.bool false)), none, []⟩] [0, 1]
def m_slices_ContainsFunc_implPlaceimplPlace_2 : Unit → MCode := fun _ => .region [] [⟨(some 5), .mv (.tmp 0), none, []⟩,
    ⟨(some 6), .mv (.tmp 1), none, []⟩,
    ⟨(some 7), .call 113 [(.tmp 5), (.tmp 6)], none, []⟩,
    ⟨(some 8), .bin .geq (.tmp 7) (.const (.int .i64 0)), none, []⟩,
    ⟨(some 4), .mv (.tmp 8), none, []⟩] [4]
def m_slices_ContainsFunc_implPlaceimplPlace_3 : Unit → MCode := fun _ => .seq m_slices_ContainsFunc_implPlaceimplPlace_2 (fun _ => .ret)
def m_slices_ContainsFunc_implPlaceimplPlace_4 : Unit → MCode := fun _ => .seq m_slices_ContainsFunc_implPlaceimplPlace_1 m_slices_ContainsFunc_implPlaceimplPlace_3
def m_slices_ContainsFunc_implPlaceimplPlace : MCode := m_slices_ContainsFunc_implPlaceimplPlace_4 ()
def h_slices_ContainsFunc_implPlaceimplPlace : Hints := [(0, [0, 1], [], [], []), (1, [4], [], [], [])]
def r_slices_ContainsFunc_implPlaceimplPlace : List RV := [.t 4]
abbrev n_slices_ContainsFunc_implPlaceimplPlace : Nat := 106
theorem k_slices_ContainsFunc_implPlaceimplPlace : Known Pr mu n_slices_ContainsFunc_implPlaceimplPlace m_slices_ContainsFunc_implPlaceimplPlace r_slices_ContainsFunc_implPlaceimplPlace Go.Proofs.Try.f106.ntmps := .of h_slices_ContainsFunc_implPlaceimplPlace hm Go.Proofs.Try.func106 (by kernel_rfl) (by kernel_rfl) (by kernel_rfl) (by kernel_rfl)
def m_impl_ArePlaces_c1_1 : Unit → MCode := fun _ => .region [] [⟨(some 1), .box (.tmp 0), none, []⟩,
    ⟨(some 2), .mv (.const (.bool false)), none, []⟩] [1]
def m_impl_ArePlaces_c1_2 : Unit → MCode := fun _ => .region [] [⟨(some 3), .fa (.tmp 1) 0, none, []⟩,
    ⟨(some 4), .ld (.tmp 3) 1 false, none, []⟩,
    ⟨(some 5), .call 71 [(.tmp 4), (.const (.int .i64 0)), (.const (.int .i64 9))], none, []⟩,
    ⟨(some 6), .not (.tmp 5), none, []⟩,
    ⟨(some 7), .mv (.tmp 6), none, []⟩,
    ⟨(some 8), .fa (.tmp 1) 1, (some (7, false)), []⟩,
    ⟨(some 9), .ld (.tmp 8) 1 false, (some (7, false)), []⟩,
    ⟨(some 10), .call 71 [(.tmp 9), (.const (.int .i64 0)), (.const (.int .i64 9))], (some (7, false)), []⟩,
    ⟨(some 11), .not (.tmp 10), (some (7, false)), []⟩,
    ⟨(some 12), .pick (.tmp 7) (.const (.bool true)) (.tmp 11), none, []⟩,
    ⟨(some 13), .mv (.tmp 12), none, []⟩,
    ⟨(some 14), .fa (.tmp 1) 2, (some (13, false)), []⟩,
    ⟨(some 15), .ld (.tmp 14) 1 false, (some (13, false)), []⟩,
    ⟨(some 16), .call 71 [(.tmp 15), (.const (.int .i64 0)), (.const (.int .i64 99))], (some (13, false)), []⟩,
    ⟨(some 17), .not (.tmp 16), (some (13, false)), []⟩,
    ⟨(some 18), .pick (.tmp 13) (.const (.bool true)) (.tmp 17), none, []⟩,
    ⟨(some 2), .mv (.tmp 18), none, []⟩] [2]
def m_impl_ArePlaces_c1_3 : Unit → MCode := fun _ => .seq m_impl_ArePlaces_c1_2 (fun _ => .ret)
def m_impl_ArePlaces_c1_4 : Unit → MCode := fun _ => .seq m_impl_ArePlaces_c1_1 m_impl_ArePlaces_c1_3
def m_impl_ArePlaces_c1 : MCode := m_impl_ArePlaces_c1_4 ()
def h_impl_ArePlaces_c1 : Hints := [(0, [1], [], [], []), (1, [2], [], [], [])]
def r_impl_ArePlaces_c1 : List RV := [.t 2]
abbrev n_impl_ArePlaces_c1 : Nat := 107
theorem k_impl_ArePlaces_c1 : Known Pr mu n_impl_ArePlaces_c1 m_impl_ArePlaces_c1 r_impl_ArePlaces_c1 Go.Proofs.Try.f107.ntmps := .of h_impl_ArePlaces_c1 hm Go.Proofs.Try.func107 (by kernel_rfl) (by kernel_rfl) (by kernel_rfl) (by kernel_rfl)
def m_slices_IndexFunc_implPlaceimplPlace_1 : Unit → MCode := fun _ => .region [] [⟨(some 4), .mv (.const (.int .i64 0)), none, []⟩] [0, 1]
def m_slices_IndexFunc_implPlaceimplPlace_2 : Unit → MCode := fun _ => .region [] [⟨(some 6), .mv (.tmp 0), none, []⟩,
    ⟨(some 7), .len false (.tmp 6), none, []⟩,
    ⟨(some 8), .mv (.const (.int .i64 0)), none, []⟩] [0, 1, 7, 8]
def m_slices_IndexFunc_implPlaceimplPlace_3 : Unit → MCode := fun _ => .region [] [⟨(some 9), .bin .lss (.tmp 8) (.tmp 7), none, []⟩] [0, 1, 7, 8, 9]
def m_slices_IndexFunc_implPlaceimplPlace_4 : Unit → MCode := fun _ => .cond (.tmp 9) (fun _ => .skip) (fun _ => .exit 0)
def m_slices_IndexFunc_implPlaceimplPlace_5 : Unit → MCode := fun _ => .region [] [⟨(some 10), .mv (.tmp 8), none, []⟩,
    ⟨(some 5), .mv (.tmp 10), none, []⟩] [0, 1, 5, 7, 8]
def m_slices_IndexFunc_implPlaceimplPlace_6 : Unit → MCode := fun _ => .region [] [⟨(some 11), .mv (.tmp 1), none, []⟩,
    ⟨(some 12), .mv (.tmp 0), none, []⟩,
    ⟨(some 13), .mv (.tmp 5), none, []⟩,
    ⟨(some 14), .ia (.tmp 12) (.tmp 13) 3, none, []⟩,
    ⟨(some 15), .ld (.tmp 14) 3 true, none, []⟩,
    ⟨(some 16), .callv (.tmp 11) [(.tmp 15)], none, []⟩] [0, 1, 5, 7, 8, 16]
def m_slices_IndexFunc_implPlaceimplPlace_7 : Unit → MCode := fun _ => .region [] [⟨(some 17), .mv (.tmp 5), none, []⟩,
    ⟨(some 4), .mv (.tmp 17), none, []⟩] [4]
def m_slices_IndexFunc_implPlaceimplPlace_8 : Unit → MCode := fun _ => .seq m_slices_IndexFunc_implPlaceimplPlace_7 (fun _ => .ret)
def m_slices_IndexFunc_implPlaceimplPlace_9 : Unit → MCode := fun _ => .cond (.tmp 16) m_slices_IndexFunc_implPlaceimplPlace_8 (fun _ => .skip)
def m_slices_IndexFunc_implPlaceimplPlace_10 : Unit → MCode := fun _ => .seq m_slices_IndexFunc_implPlaceimplPlace_6 m_slices_IndexFunc_implPlaceimplPlace_9
def m_slices_IndexFunc_implPlaceimplPlace_11 : Unit → MCode := fun _ => .seq m_slices_IndexFunc_implPlaceimplPlace_5 m_slices_IndexFunc_implPlaceimplPlace_10
def m_slices_IndexFunc_implPlaceimplPlace_12 : Unit → MCode := fun _ => .block 1 m_slices_IndexFunc_implPlaceimplPlace_11
def m_slices_IndexFunc_implPlaceimplPlace_13 : Unit → MCode := fun _ => .region [] [⟨(some 18), .bin .add (.tmp 8) (.const (.int .i64 1)), none, []⟩,
    ⟨(some 8), .mv (.tmp 18), none, []⟩] [0, 1, 7, 8]
def m_slices_IndexFunc_implPlaceimplPlace_14 : Unit → MCode := fun _ => .seq m_slices_IndexFunc_implPlaceimplPlace_12 m_slices_IndexFunc_implPlaceimplPlace_13
def m_slices_IndexFunc_implPlaceimplPlace_15 : Unit → MCode := fun _ => .seq m_slices_IndexFunc_implPlaceimplPlace_4 m_slices_IndexFunc_implPlaceimplPlace_14
def m_slices_IndexFunc_implPlaceimplPlace_16 : Unit → MCode := fun _ => .seq m_slices_IndexFunc_implPlaceimplPlace_3 m_slices_IndexFunc_implPlaceimplPlace_15
def m_slices_IndexFunc_implPlaceimplPlace_17 : Unit → MCode := fun _ => .loop m_slices_IndexFunc_implPlaceimplPlace_16
def m_slices_IndexFunc_implPlaceimplPlace_18 : Unit → MCode := fun _ => .block 0 m_slices_IndexFunc_implPlaceimplPlace_17
def m_slices_IndexFunc_implPlaceimplPlace_19 : Unit → MCode := fun _ => .seq m_slices_IndexFunc_implPlaceimplPlace_2 m_slices_IndexFunc_implPlaceimplPlace_18
def m_slices_IndexFunc_implPlaceimplPlace_20 : Unit → MCode := fun _ => .region [] [⟨(some 4), .mv (.const (.int .i64 (-1))), none, []⟩] [4]
def m_slices_IndexFunc_implPlaceimplPlace_21 : Unit → MCode := fun _ => .seq m_slices_IndexFunc_implPlaceimplPlace_20 (fun _ => .ret)
def m_slices_IndexFunc_implPlaceimplPlace_22 : Unit → MCode := fun _ => .seq m_slices_IndexFunc_implPlaceimplPlace_19 m_slices_IndexFunc_implPlaceimplPlace_21
def m_slices_IndexFunc_implPlaceimplPlace_23 : Unit → MCode := fun _ => .seq m_slices_IndexFunc_implPlaceimplPlace_1 m_slices_IndexFunc_implPlaceimplPlace_22
def m_slices_IndexFunc_implPlaceimplPlace : MCode := m_slices_IndexFunc_implPlaceimplPlace_23 ()
def h_slices_IndexFunc_implPlaceimplPlace : Hints := [(0, [0, 1], [], [], []), (1, [0, 1, 7, 8], [], [], []), (2, [0, 1, 7, 8, 9], [], [], []), (3, [0, 1, 5, 7, 8], [], [], []), (4, [0, 1, 5, 7, 8, 16], [], [], []), (5, [4], [], [], []), (6, [0, 1, 7, 8], [], [], []), (7, [4], [], [], [])]
def r_slices_IndexFunc_implPlaceimplPlace : List RV := [.t 4]
abbrev n_slices_IndexFunc_implPlaceimplPlace : Nat := 113
theorem k_slices_IndexFunc_implPlaceimplPlace : Known Pr mu n_slices_IndexFunc_implPlaceimplPlace m_slices_IndexFunc_implPlaceimplPlace r_slices_IndexFunc_implPlaceimplPlace Go.Proofs.Try.f113.ntmps := .of h_slices_IndexFunc_implPlaceimplPlace hm Go.Proofs.Try.func113 (by kernel_rfl) (by kernel_rfl) (by kernel_rfl) (by kernel_rfl)
end Go.V.T
