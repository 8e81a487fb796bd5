/- The short code of the functions that FnExactTailCovers reaches, held against the program. Conditions: none. -/
import Derived.Test.YtiamffhoiajgnaaV4
import Derived.Test.YtiamffhoiajgnaaProg
namespace Go.V.T
open Go Go.V
noncomputable abbrev Pr := Go.Proofs.Try.prog
def mu : Nat → Bool := fun n => Nat.beq n 32 || Nat.beq n 51 || Nat.beq n 59 || Nat.beq n 82 || Nat.beq n 98
theorem hm : Pr.follows .mixedOrders = true := by kernel_rfl
def m_laws_FnExactTailCovers_1 : Unit → MCode := fun _ => .region [] [⟨(some 6), .mv (.const (.bool false)), none, []⟩] [0, 1, 2]
def m_laws_FnExactTailCovers_2 : Unit → MCode := fun _ => .region [] [⟨(some 7), .mv (.const (.int .i64 1048576)), none, []⟩] [0, 1, 2, 7]
def m_laws_FnExactTailCovers_3 : Unit → MCode := fun _ => .region [] [⟨(some 11), .mv (.tmp 1), none, []⟩,
    ⟨(some 12), .mv (.tmp 7), none, []⟩,
    ⟨(some 13), .call 34 [(.tmp 11), (.tmp 12)], none, []⟩,
    ⟨(some 7), .mv (.tmp 13), none, []⟩] [0, 1, 2, 7]
def m_laws_FnExactTailCovers_4 : Unit → MCode := fun _ => .region [] [⟨(some 14), .mv (.tmp 7), none, []⟩,
    ⟨(some 15), .bin .lss (.tmp 14) (.const (.int .i64 0)), none, []⟩] [0, 1, 2, 15]
def m_laws_FnExactTailCovers_5 : Unit → MCode := fun _ => .region [] [⟨(some 6), .mv (.const (.bool true)), none, []⟩] [6]
def m_laws_FnExactTailCovers_6 : Unit → MCode := fun _ => .seq m_laws_FnExactTailCovers_5 (fun _ => .ret)
def m_laws_FnExactTailCovers_7 : Unit → MCode := fun _ => .cond (.tmp 15) m_laws_FnExactTailCovers_6 (fun _ => .skip)
def m_laws_FnExactTailCovers_8 : Unit → MCode := fun _ => .seq m_laws_FnExactTailCovers_4 m_laws_FnExactTailCovers_7
def m_laws_FnExactTailCovers_9 : Unit → MCode := fun _ => .region [] [⟨(some 16), .mv (.tmp 0), none, []⟩,
    ⟨(some 17), .mv (.tmp 1), none, []⟩,
    ⟨(some 18), .call 36 [(.tmp 17)], none, []⟩,
    ⟨(some 19), .mv (.tmp 2), none, []⟩,
    ⟨(some 20), .call 35 [(.tmp 16), (.tmp 18), (.tmp 19)], none, []⟩,
    ⟨(some 8), .mv (.tmp 20), none, []⟩] [0, 1, 2, 8]
def m_laws_FnExactTailCovers_10 : Unit → MCode := fun _ => .region [] [⟨(some 21), .mv (.tmp 1), none, []⟩,
    ⟨(some 22), .call 36 [(.tmp 21)], none, []⟩,
    ⟨(some 9), .mv (.tmp 22), none, []⟩] [0, 1, 2, 8, 9]
def m_laws_FnExactTailCovers_11 : Unit → MCode := fun _ => .region [] [⟨(some 23), .mv (.tmp 0), none, []⟩,
    ⟨(some 24), .mv (.tmp 9), none, []⟩,
    ⟨(some 25), .mv (.tmp 2), none, []⟩,
    ⟨(some 26), .call 37 [(.tmp 23), (.tmp 24), (.tmp 25)], none, []⟩,
    ⟨(some 10), .mv (.tmp 26), none, []⟩] [1, 8, 9, 10]
def m_laws_FnExactTailCovers_12 : Unit → MCode := fun _ => .region [] [⟨(some 27), .mv (.tmp 10), none, []⟩,
    ⟨(some 28), .mv (.tmp 8), none, []⟩,
    ⟨(some 29), .bbin .neq (.tmp 27) (.tmp 28), none, []⟩] [1, 9, 29]
def m_laws_FnExactTailCovers_13 : Unit → MCode := fun _ => .region [] [⟨(some 6), .mv (.const (.bool false)), none, []⟩] [6]
def m_laws_FnExactTailCovers_14 : Unit → MCode := fun _ => .seq m_laws_FnExactTailCovers_13 (fun _ => .ret)
def m_laws_FnExactTailCovers_15 : Unit → MCode := fun _ => .cond (.tmp 29) m_laws_FnExactTailCovers_14 (fun _ => .skip)
def m_laws_FnExactTailCovers_16 : Unit → MCode := fun _ => .seq m_laws_FnExactTailCovers_12 m_laws_FnExactTailCovers_15
def m_laws_FnExactTailCovers_17 : Unit → MCode := fun _ => .region [] [⟨(some 30), .mv (.tmp 9), none, []⟩,
    ⟨(some 31), .mv (.tmp 1), none, []⟩,
    ⟨(some 32), .call 36 [(.tmp 31)], none, []⟩,
    ⟨(some 33), .call 38 [(.tmp 30), (.tmp 32)], none, []⟩,
    ⟨(some 34), .not (.tmp 33), none, []⟩] [34]
def m_laws_FnExactTailCovers_18 : Unit → MCode := fun _ => .region [] [⟨(some 6), .mv (.const (.bool false)), none, []⟩] [6]
def m_laws_FnExactTailCovers_19 : Unit → MCode := fun _ => .seq m_laws_FnExactTailCovers_18 (fun _ => .ret)
def m_laws_FnExactTailCovers_20 : Unit → MCode := fun _ => .cond (.tmp 34) m_laws_FnExactTailCovers_19 (fun _ => .skip)
def m_laws_FnExactTailCovers_21 : Unit → MCode := fun _ => .seq m_laws_FnExactTailCovers_17 m_laws_FnExactTailCovers_20
def m_laws_FnExactTailCovers_22 : Unit → MCode := fun _ => .region [] [⟨(some 6), .mv (.const (.bool true)), none, []⟩] [6]
def m_laws_FnExactTailCovers_23 : Unit → MCode := fun _ => .seq m_laws_FnExactTailCovers_22 (fun _ => .ret)
def m_laws_FnExactTailCovers_24 : Unit → MCode := fun _ => .seq m_laws_FnExactTailCovers_21 m_laws_FnExactTailCovers_23
def m_laws_FnExactTailCovers_25 : Unit → MCode := fun _ => .seq m_laws_FnExactTailCovers_16 m_laws_FnExactTailCovers_24
def m_laws_FnExactTailCovers_26 : Unit → MCode := fun _ => .seq m_laws_FnExactTailCovers_11 m_laws_FnExactTailCovers_25
def m_laws_FnExactTailCovers_27 : Unit → MCode := fun _ => .seq m_laws_FnExactTailCovers_10 m_laws_FnExactTailCovers_26
def m_laws_FnExactTailCovers_28 : Unit → MCode := fun _ => .seq m_laws_FnExactTailCovers_9 m_laws_FnExactTailCovers_27
def m_laws_FnExactTailCovers_29 : Unit → MCode := fun _ => .seq m_laws_FnExactTailCovers_8 m_laws_FnExactTailCovers_28
def m_laws_FnExactTailCovers_30 : Unit → MCode := fun _ => .seq m_laws_FnExactTailCovers_3 m_laws_FnExactTailCovers_29
def m_laws_FnExactTailCovers_31 : Unit → MCode := fun _ => .seq m_laws_FnExactTailCovers_2 m_laws_FnExactTailCovers_30
def m_laws_FnExactTailCovers_32 : Unit → MCode := fun _ => .seq m_laws_FnExactTailCovers_1 m_laws_FnExactTailCovers_31
def m_laws_FnExactTailCovers : MCode := m_laws_FnExactTailCovers_32 ()
def h_laws_FnExactTailCovers : Hints := [(0, [0, 1, 2], [], [], []), (1, [0, 1, 2, 7], [], [], []), (2, [0, 1, 2, 7], [], [], []), (3, [0, 1, 2, 15], [], [], []), (4, [6], [], [], []), (5, [0, 1, 2, 8], [], [], []), (6, [0, 1, 2, 8, 9], [], [], []), (7, [1, 8, 9, 10], [], [], []), (8, [1, 9, 29], [], [], []), (9, [6], [], [], []), (10, [34], [], [], []), (11, [6], [], [], []), (12, [6], [], [], [])]
def r_laws_FnExactTailCovers : List RV := [.t 6]
abbrev n_laws_FnExactTailCovers : Nat := 7
theorem k_laws_FnExactTailCovers : Known Pr mu n_laws_FnExactTailCovers m_laws_FnExactTailCovers r_laws_FnExactTailCovers Go.Proofs.Try.f7.ntmps := .of h_laws_FnExactTailCovers hm Go.Proofs.Try.func7 (by kernel_rfl) (by kernel_rfl) (by kernel_rfl) (by kernel_rfl)
def m_laws_szEntryS_1 : Unit → MCode := fun _ => .region [] [⟨(some 4), .mv (.const (.int .i64 0)), none, []⟩] [0, 1]
def m_laws_szEntryS_2 : Unit → MCode := fun _ => .region [] [⟨(some 5), .mv (.tmp 1), none, []⟩,
    ⟨(some 6), .mv (.tmp 0), none, []⟩,
    ⟨(some 7), .len false (.tmp 6), none, []⟩,
    ⟨(some 8), .bin .sub (.tmp 5) (.tmp 7), none, []⟩,
    ⟨(some 1), .mv (.tmp 8), none, []⟩] [1]
def m_laws_szEntryS_3 : Unit → MCode := fun _ => .region [] [⟨(some 9), .mv (.tmp 1), none, []⟩,
    ⟨(some 10), .bin .lss (.tmp 9) (.const (.int .i64 0)), none, []⟩] [1, 10]
def m_laws_szEntryS_4 : Unit → MCode := fun _ => .region [] [⟨(some 4), .mv (.const (.int .i64 (-1))), none, []⟩] [4]
def m_laws_szEntryS_5 : Unit → MCode := fun _ => .seq m_laws_szEntryS_4 (fun _ => .ret)
def m_laws_szEntryS_6 : Unit → MCode := fun _ => .cond (.tmp 10) m_laws_szEntryS_5 (fun _ => .skip)
def m_laws_szEntryS_7 : Unit → MCode := fun _ => .seq m_laws_szEntryS_3 m_laws_szEntryS_6
def m_laws_szEntryS_8 : Unit → MCode := fun _ => .region [] [⟨(some 11), .mv (.tmp 1), none, []⟩,
    ⟨(some 4), .mv (.tmp 11), none, []⟩] [4]
def m_laws_szEntryS_9 : Unit → MCode := fun _ => .seq m_laws_szEntryS_8 (fun _ => .ret)
def m_laws_szEntryS_10 : Unit → MCode := fun _ => .seq m_laws_szEntryS_7 m_laws_szEntryS_9
def m_laws_szEntryS_11 : Unit → MCode := fun _ => .seq m_laws_szEntryS_2 m_laws_szEntryS_10
def m_laws_szEntryS_12 : Unit → MCode := fun _ => .seq m_laws_szEntryS_1 m_laws_szEntryS_11
def m_laws_szEntryS : MCode := m_laws_szEntryS_12 ()
def h_laws_szEntryS : Hints := [(0, [0, 1], [], [], []), (1, [1], [], [], []), (2, [1, 10], [], [], []), (3, [4], [], [], []), (4, [4], [], [], [])]
def r_laws_szEntryS : List RV := [.t 4]
abbrev n_laws_szEntryS : Nat := 34
theorem k_laws_szEntryS : Known Pr mu n_laws_szEntryS m_laws_szEntryS r_laws_szEntryS Go.Proofs.Try.f34.ntmps := .of h_laws_szEntryS hm Go.Proofs.Try.func34 (by kernel_rfl) (by kernel_rfl) (by kernel_rfl) (by kernel_rfl)
def m_spec_TailCovers_1 : Unit → MCode := fun _ => .region [] [⟨(some 6), .mv (.const (.bool false)), none, []⟩] [0, 1, 2]
def m_spec_TailCovers_2 : Unit → MCode := fun _ => .region [] [⟨(some 7), .mv (.tmp 0), none, []⟩,
    ⟨(some 8), .mv (.tmp 1), none, []⟩,
    ⟨(some 9), .call 84 [(.tmp 7), (.tmp 8)], none, []⟩,
    ⟨(some 10), .mv (.tmp 9), none, []⟩,
    ⟨(some 11), .mv (.tmp 2), (some (10, true)), []⟩,
    ⟨(some 12), .mv (.tmp 0), (some (10, true)), []⟩,
    ⟨(some 13), .mv (.tmp 0), (some (10, true)), []⟩,
    ⟨(some 14), .mv (.tmp 1), (some (10, true)), []⟩,
    ⟨(some 15), .len false (.tmp 14), (some (10, true)), []⟩,
    ⟨(some 16), .bin .add (.tmp 13) (.tmp 15), (some (10, true)), []⟩,
    ⟨(some 17), .call 68 [(.tmp 11), (.tmp 12), (.tmp 16)], (some (10, true)), []⟩,
    ⟨(some 18), .pick (.tmp 10) (.tmp 17) (.const (.bool false)), none, []⟩,
    ⟨(some 6), .mv (.tmp 18), none, []⟩] [6]
def m_spec_TailCovers_3 : Unit → MCode := fun _ => .seq m_spec_TailCovers_2 (fun _ => .ret)
def m_spec_TailCovers_4 : Unit → MCode := fun _ => .seq m_spec_TailCovers_1 m_spec_TailCovers_3
def m_spec_TailCovers : MCode := m_spec_TailCovers_4 ()
def h_spec_TailCovers : Hints := [(0, [0, 1, 2], [], [], []), (1, [6], [], [], [])]
def r_spec_TailCovers : List RV := [.t 6]
abbrev n_spec_TailCovers : Nat := 35
theorem k_spec_TailCovers : Known Pr mu n_spec_TailCovers m_spec_TailCovers r_spec_TailCovers Go.Proofs.Try.f35.ntmps := .of h_spec_TailCovers hm Go.Proofs.Try.func35 (by kernel_rfl) (by kernel_rfl) (by kernel_rfl) (by kernel_rfl)
def m_laws_toEntryS_1 : Unit → MCode := fun _ => .region [] [⟨(some 2), .mv (.const (.slice none 0 0)), none, []⟩] [0]
def m_laws_toEntryS_2 : Unit → MCode := fun _ => .region [] [⟨(some 5), .mv (.tmp 0), none, []⟩,
    ⟨(some 6), .len false (.tmp 5), none, []⟩,
    ⟨(some 7), .mks 7 56 [.int .i64 0, .int .i64 0, .int .i64 0, .int .i64 0, .int .i64 0, .int .i64 0, .int .i64 0] (.tmp 6) (.tmp 6), none, []⟩,
    ⟨(some 3), .mv (.tmp 7), none, []⟩] [0, 3]
def m_laws_toEntryS_3 : Unit → MCode := fun _ => .region [] [⟨(some 4), .mv (.const (.int .i64 0)), none, []⟩] [0, 3, 4]
def m_laws_toEntryS_4 : Unit → MCode := fun _ => .region [] [⟨(some 8), .mv (.tmp 4), none, []⟩,
    ⟨(some 9), .mv (.tmp 0), none, []⟩,
    ⟨(some 10), .len false (.tmp 9), none, []⟩,
    ⟨(some 11), .bin .lss (.tmp 8) (.tmp 10), none, []⟩] [0, 3, 4, 11]
def m_laws_toEntryS_5 : Unit → MCode := fun _ => .cond (.tmp 11) (fun _ => .skip) (fun _ => .exit 0)
def m_laws_toEntryS_6 : Unit → MCode := fun _ => .seq m_laws_toEntryS_4 m_laws_toEntryS_5
def m_laws_toEntryS_7 : Unit → MCode := fun _ => .region [] [⟨(some 14), .mv (.tmp 3), none, []⟩,
    ⟨(some 15), .mv (.tmp 4), none, []⟩,
    ⟨(some 16), .mv (.tmp 0), none, []⟩,
    ⟨(some 17), .mv (.tmp 4), none, []⟩,
    ⟨(some 18), .ia (.tmp 16) (.tmp 17) 7, none, []⟩,
    ⟨(some 19), .ld (.tmp 18) 7 true, none, []⟩,
    ⟨(some 20), .call 54 [(.tmp 19)], none, []⟩,
    ⟨(some 21), .ia (.tmp 14) (.tmp 15) 7, none, []⟩,
    ⟨none, .sto (.tmp 21) (.tmp 20) 7, none, []⟩] [0, 3, 4]
def m_laws_toEntryS_8 : Unit → MCode := fun _ => .block 1 m_laws_toEntryS_7
def m_laws_toEntryS_9 : Unit → MCode := fun _ => .region [] [⟨(some 12), .mv (.tmp 4), none, []⟩,
    ⟨(some 13), .bin .add (.tmp 12) (.const (.int .i64 1)), none, []⟩,
    ⟨(some 4), .mv (.tmp 13), none, []⟩] [0, 3, 4]
def m_laws_toEntryS_10 : Unit → MCode := fun _ => .seq m_laws_toEntryS_8 m_laws_toEntryS_9
def m_laws_toEntryS_11 : Unit → MCode := fun _ => .seq m_laws_toEntryS_6 m_laws_toEntryS_10
def m_laws_toEntryS_12 : Unit → MCode := fun _ => .loop m_laws_toEntryS_11
def m_laws_toEntryS_13 : Unit → MCode := fun _ => .block 0 m_laws_toEntryS_12
def m_laws_toEntryS_14 : Unit → MCode := fun _ => .seq m_laws_toEntryS_3 m_laws_toEntryS_13
def m_laws_toEntryS_15 : Unit → MCode := fun _ => .region [] [⟨(some 22), .mv (.tmp 3), none, []⟩,
    ⟨(some 2), .mv (.tmp 22), none, []⟩] [2]
def m_laws_toEntryS_16 : Unit → MCode := fun _ => .seq m_laws_toEntryS_15 (fun _ => .ret)
def m_laws_toEntryS_17 : Unit → MCode := fun _ => .seq m_laws_toEntryS_14 m_laws_toEntryS_16
def m_laws_toEntryS_18 : Unit → MCode := fun _ => .seq m_laws_toEntryS_2 m_laws_toEntryS_17
def m_laws_toEntryS_19 : Unit → MCode := fun _ => .seq m_laws_toEntryS_1 m_laws_toEntryS_18
def m_laws_toEntryS : MCode := m_laws_toEntryS_19 ()
def h_laws_toEntryS : Hints := [(0, [0], [], [], []), (1, [0, 3], [], [], []), (2, [0, 3, 4], [], [], []), (3, [0, 3, 4, 11], [], [], []), (5, [0, 3, 4], [], [], []), (4, [0, 3, 4], [], [], []), (6, [2], [], [], [])]
def r_laws_toEntryS : List RV := [.t 2]
abbrev n_laws_toEntryS : Nat := 36
theorem k_laws_toEntryS : Known Pr mu n_laws_toEntryS m_laws_toEntryS r_laws_toEntryS Go.Proofs.Try.f36.ntmps := .of h_laws_toEntryS hm Go.Proofs.Try.func36 (by kernel_rfl) (by kernel_rfl) (by kernel_rfl) (by kernel_rfl)
def m_impl_TailCovers_1 : Unit → MCode := fun _ => .region [] [⟨(some 6), .mv (.const (.bool false)), none, []⟩] [0, 1, 2]
def m_impl_TailCovers_2 : Unit → MCode := fun _ => .region [] [⟨(some 7), .mv (.tmp 0), none, []⟩,
    ⟨(some 8), .mv (.tmp 1), none, []⟩,
    ⟨(some 9), .call 85 [(.tmp 7), (.tmp 8)], none, []⟩,
    ⟨(some 10), .mv (.tmp 9), none, []⟩,
    ⟨(some 11), .mv (.tmp 2), (some (10, true)), []⟩,
    ⟨(some 12), .mv (.tmp 0), (some (10, true)), []⟩,
    ⟨(some 13), .mv (.tmp 0), (some (10, true)), []⟩,
    ⟨(some 14), .mv (.tmp 1), (some (10, true)), []⟩,
    ⟨(some 15), .len false (.tmp 14), (some (10, true)), []⟩,
    ⟨(some 16), .bin .add (.tmp 13) (.tmp 15), (some (10, true)), []⟩,
    ⟨(some 17), .call 71 [(.tmp 11), (.tmp 12), (.tmp 16)], (some (10, true)), []⟩,
    ⟨(some 18), .pick (.tmp 10) (.tmp 17) (.const (.bool false)), none, []⟩,
    ⟨(some 6), .mv (.tmp 18), none, []⟩] [6]
def m_impl_TailCovers_3 : Unit → MCode := fun _ => .seq m_impl_TailCovers_2 (fun _ => .ret)
def m_impl_TailCovers_4 : Unit → MCode := fun _ => .seq m_impl_TailCovers_1 m_impl_TailCovers_3
def m_impl_TailCovers : MCode := m_impl_TailCovers_4 ()
def h_impl_TailCovers : Hints := [(0, [0, 1, 2], [], [], []), (1, [6], [], [], [])]
def r_impl_TailCovers : List RV := [.t 6]
abbrev n_impl_TailCovers : Nat := 37
theorem k_impl_TailCovers : Known Pr mu n_impl_TailCovers m_impl_TailCovers r_impl_TailCovers Go.Proofs.Try.f37.ntmps := .of h_impl_TailCovers hm Go.Proofs.Try.func37 (by kernel_rfl) (by kernel_rfl) (by kernel_rfl) (by kernel_rfl)
def m_laws_eqEntryS_1 : Unit → MCode := fun _ => .region [] [⟨(some 4), .mv (.const (.bool false)), none, []⟩] [0, 1]
def m_laws_eqEntryS_2 : Unit → MCode := fun _ => .region [] [⟨(some 6), .mv (.tmp 0), none, []⟩,
    ⟨(some 7), .len false (.tmp 6), none, []⟩,
    ⟨(some 8), .mv (.tmp 1), none, []⟩,
    ⟨(some 9), .len false (.tmp 8), none, []⟩,
    ⟨(some 10), .bin .neq (.tmp 7) (.tmp 9), none, []⟩] [0, 1, 10]
def m_laws_eqEntryS_3 : Unit → MCode := fun _ => .region [] [⟨(some 4), .mv (.const (.bool false)), none, []⟩] [4]
def m_laws_eqEntryS_4 : Unit → MCode := fun _ => .seq m_laws_eqEntryS_3 (fun _ => .ret)
def m_laws_eqEntryS_5 : Unit → MCode := fun _ => .cond (.tmp 10) m_laws_eqEntryS_4 (fun _ => .skip)
def m_laws_eqEntryS_6 : Unit → MCode := fun _ => .seq m_laws_eqEntryS_2 m_laws_eqEntryS_5
def m_laws_eqEntryS_7 : Unit → MCode := fun _ => .region [] [⟨(some 5), .mv (.const (.int .i64 0)), none, []⟩] [0, 1, 5]
def m_laws_eqEntryS_8 : Unit → MCode := fun _ => .region [] [⟨(some 11), .mv (.tmp 5), none, []⟩,
    ⟨(some 12), .mv (.tmp 0), none, []⟩,
    ⟨(some 13), .len false (.tmp 12), none, []⟩,
    ⟨(some 14), .bin .lss (.tmp 11) (.tmp 13), none, []⟩] [0, 1, 5, 14]
def m_laws_eqEntryS_9 : Unit → MCode := fun _ => .cond (.tmp 14) (fun _ => .skip) (fun _ => .exit 0)
def m_laws_eqEntryS_10 : Unit → MCode := fun _ => .seq m_laws_eqEntryS_8 m_laws_eqEntryS_9
def m_laws_eqEntryS_11 : Unit → MCode := fun _ => .region [] [⟨(some 17), .mv (.tmp 0), none, []⟩,
    ⟨(some 18), .mv (.tmp 5), none, []⟩,
    ⟨(some 19), .ia (.tmp 17) (.tmp 18) 7, none, []⟩,
    ⟨(some 20), .ld (.tmp 19) 7 true, none, []⟩,
    ⟨(some 21), .mv (.tmp 1), none, []⟩,
    ⟨(some 22), .mv (.tmp 5), none, []⟩,
    ⟨(some 23), .ia (.tmp 21) (.tmp 22) 7, none, [0, 1, 2, 3]⟩,
    ⟨(some 24), .ld (.tmp 23) 7 true, none, [0, 1, 2, 3]⟩,
    ⟨(some 25), .call 86 [(.tmp 20), (.tmp 24)], none, []⟩,
    ⟨(some 26), .not (.tmp 25), none, []⟩] [0, 1, 5, 26]
def m_laws_eqEntryS_12 : Unit → MCode := fun _ => .region [] [⟨(some 4), .mv (.const (.bool false)), none, []⟩] [4]
def m_laws_eqEntryS_13 : Unit → MCode := fun _ => .seq m_laws_eqEntryS_12 (fun _ => .ret)
def m_laws_eqEntryS_14 : Unit → MCode := fun _ => .cond (.tmp 26) m_laws_eqEntryS_13 (fun _ => .skip)
def m_laws_eqEntryS_15 : Unit → MCode := fun _ => .seq m_laws_eqEntryS_11 m_laws_eqEntryS_14
def m_laws_eqEntryS_16 : Unit → MCode := fun _ => .block 1 m_laws_eqEntryS_15
def m_laws_eqEntryS_17 : Unit → MCode := fun _ => .region [] [⟨(some 15), .mv (.tmp 5), none, []⟩,
    ⟨(some 16), .bin .add (.tmp 15) (.const (.int .i64 1)), none, []⟩,
    ⟨(some 5), .mv (.tmp 16), none, []⟩] [0, 1, 5]
def m_laws_eqEntryS_18 : Unit → MCode := fun _ => .seq m_laws_eqEntryS_16 m_laws_eqEntryS_17
def m_laws_eqEntryS_19 : Unit → MCode := fun _ => .seq m_laws_eqEntryS_10 m_laws_eqEntryS_18
def m_laws_eqEntryS_20 : Unit → MCode := fun _ => .loop m_laws_eqEntryS_19
def m_laws_eqEntryS_21 : Unit → MCode := fun _ => .block 0 m_laws_eqEntryS_20
def m_laws_eqEntryS_22 : Unit → MCode := fun _ => .seq m_laws_eqEntryS_7 m_laws_eqEntryS_21
def m_laws_eqEntryS_23 : Unit → MCode := fun _ => .region [] [⟨(some 4), .mv (.const (.bool true)), none, []⟩] [4]
def m_laws_eqEntryS_24 : Unit → MCode := fun _ => .seq m_laws_eqEntryS_23 (fun _ => .ret)
def m_laws_eqEntryS_25 : Unit → MCode := fun _ => .seq m_laws_eqEntryS_22 m_laws_eqEntryS_24
def m_laws_eqEntryS_26 : Unit → MCode := fun _ => .seq m_laws_eqEntryS_6 m_laws_eqEntryS_25
def m_laws_eqEntryS_27 : Unit → MCode := fun _ => .seq m_laws_eqEntryS_1 m_laws_eqEntryS_26
def m_laws_eqEntryS : MCode := m_laws_eqEntryS_27 ()
def h_laws_eqEntryS : Hints := [(0, [0, 1], [], [], []), (1, [0, 1, 10], [], [], []), (2, [4], [], [], []), (3, [0, 1, 5], [], [], []), (4, [0, 1, 5, 14], [], [], []), (6, [0, 1, 5, 26], [[], [], [], [], [], [], [0, 1, 2, 3], [0, 1, 2, 3]], [], []), (7, [4], [], [], []), (5, [0, 1, 5], [], [], []), (8, [4], [], [], [])]
def r_laws_eqEntryS : List RV := [.t 4]
abbrev n_laws_eqEntryS : Nat := 38
theorem k_laws_eqEntryS : Known Pr mu n_laws_eqEntryS m_laws_eqEntryS r_laws_eqEntryS Go.Proofs.Try.f38.ntmps := .of h_laws_eqEntryS hm Go.Proofs.Try.func38 (by kernel_rfl) (by kernel_rfl) (by kernel_rfl) (by kernel_rfl)
def m_laws_toEntry_1 : Unit → MCode := fun _ => .region [] [⟨(some 1), .box (.tmp 0), none, []⟩,
    ⟨(some 2), .alloc [.int .i64 0, .int .i64 0, .int .i64 0, .int .i64 0, .int .i64 0, .int .i64 0, .int .i64 0], none, []⟩] [1, 2]
def m_laws_toEntry_2 : Unit → MCode := fun _ => .region [] [⟨(some 3), .alloc [.int .i64 0, .int .i64 0, .int .i64 0, .int .i64 0, .int .i64 0, .int .i64 0, .int .i64 0], none, []⟩] [1, 2, 3]
def m_laws_toEntry_3 : Unit → MCode := fun _ => .region [] [⟨(some 4), .fa (.tmp 1) 0, none, []⟩,
    ⟨(some 5), .ld (.tmp 4) 1 false, none, []⟩,
    ⟨(some 6), .fa (.tmp 3) 0, none, []⟩,
    ⟨none, .sto (.tmp 6) (.tmp 5) 1, none, []⟩] [1, 2, 3]
def m_laws_toEntry_4 : Unit → MCode := fun _ => .region [] [⟨(some 7), .fa (.tmp 1) 1, none, []⟩,
    ⟨(some 8), .ld (.tmp 7) 6 true, none, []⟩,
    ⟨(some 9), .call 96 [(.tmp 8)], none, []⟩,
    ⟨(some 10), .fa (.tmp 3) 1, none, []⟩,
    ⟨none, .sto (.tmp 10) (.tmp 9) 6, none, []⟩] [2, 3]
def m_laws_toEntry_5 : Unit → MCode := fun _ => .region [] [⟨(some 11), .ld (.tmp 3) 7 true, none, []⟩,
    ⟨none, .sto (.tmp 2) (.tmp 11) 7, none, []⟩] [2]
def m_laws_toEntry_6 : Unit → MCode := fun _ => .seq m_laws_toEntry_5 (fun _ => .ret)
def m_laws_toEntry_7 : Unit → MCode := fun _ => .seq m_laws_toEntry_4 m_laws_toEntry_6
def m_laws_toEntry_8 : Unit → MCode := fun _ => .seq m_laws_toEntry_3 m_laws_toEntry_7
def m_laws_toEntry_9 : Unit → MCode := fun _ => .seq m_laws_toEntry_2 m_laws_toEntry_8
def m_laws_toEntry_10 : Unit → MCode := fun _ => .seq m_laws_toEntry_1 m_laws_toEntry_9
def m_laws_toEntry : MCode := m_laws_toEntry_10 ()
def h_laws_toEntry : Hints := [(0, [1, 2], [], [], []), (1, [1, 2, 3], [], [], []), (2, [1, 2, 3], [], [], []), (3, [2, 3], [], [], []), (4, [2], [], [], [])]
def r_laws_toEntry : List RV := [.c 2 7 true]
abbrev n_laws_toEntry : Nat := 54
theorem k_laws_toEntry : Known Pr mu n_laws_toEntry m_laws_toEntry r_laws_toEntry Go.Proofs.Try.f54.ntmps := .of h_laws_toEntry hm Go.Proofs.Try.func54 (by kernel_rfl) (by kernel_rfl) (by kernel_rfl) (by kernel_rfl)
def m_spec_l1In_1 : Unit → MCode := fun _ => .region [] [⟨(some 6), .mv (.const (.bool false)), none, []⟩] [0, 1, 2]
def m_spec_l1In_2 : Unit → MCode := fun _ => .region [] [⟨(some 7), .mv (.tmp 0), none, []⟩,
    ⟨(some 8), .mv (.tmp 1), none, []⟩,
    ⟨(some 9), .bin .geq (.tmp 7) (.tmp 8), none, []⟩,
    ⟨(some 10), .mv (.tmp 9), none, []⟩,
    ⟨(some 11), .mv (.tmp 0), (some (10, true)), []⟩,
    ⟨(some 12), .mv (.tmp 2), (some (10, true)), []⟩,
    ⟨(some 13), .bin .leq (.tmp 11) (.tmp 12), (some (10, true)), []⟩,
    ⟨(some 14), .pick (.tmp 10) (.tmp 13) (.const (.bool false)), none, []⟩,
    ⟨(some 6), .mv (.tmp 14), none, []⟩] [6]
def m_spec_l1In_3 : Unit → MCode := fun _ => .seq m_spec_l1In_2 (fun _ => .ret)
def m_spec_l1In_4 : Unit → MCode := fun _ => .seq m_spec_l1In_1 m_spec_l1In_3
def m_spec_l1In : MCode := m_spec_l1In_4 ()
def h_spec_l1In : Hints := [(0, [0, 1, 2], [], [], []), (1, [6], [], [], [])]
def r_spec_l1In : List RV := [.t 6]
abbrev n_spec_l1In : Nat := 68
theorem k_spec_l1In : Known Pr mu n_spec_l1In m_spec_l1In r_spec_l1In Go.Proofs.Try.f68.ntmps := .of h_spec_l1In hm Go.Proofs.Try.func68 (by kernel_rfl) (by kernel_rfl) (by kernel_rfl) (by kernel_rfl)
def m_impl_within_1 : Unit → MCode := fun _ => .region [] [⟨(some 6), .mv (.const (.bool false)), none, []⟩] [0, 1, 2]
def m_impl_within_2 : Unit → MCode := fun _ => .region [] [⟨(some 7), .mv (.tmp 1), none, []⟩,
    ⟨(some 8), .mv (.tmp 0), none, []⟩,
    ⟨(some 9), .bin .leq (.tmp 7) (.tmp 8), none, []⟩,
    ⟨(some 10), .mv (.tmp 9), none, []⟩,
    ⟨(some 11), .mv (.tmp 0), (some (10, true)), []⟩,
    ⟨(some 12), .mv (.tmp 2), (some (10, true)), []⟩,
    ⟨(some 13), .bin .leq (.tmp 11) (.tmp 12), (some (10, true)), []⟩,
    ⟨(some 14), .pick (.tmp 10) (.tmp 13) (.const (.bool false)), none, []⟩,
    ⟨(some 6), .mv (.tmp 14), none, []⟩] [6]
def m_impl_within_3 : Unit → MCode := fun _ => .seq m_impl_within_2 (fun _ => .ret)
def m_impl_within_4 : Unit → MCode := fun _ => .seq m_impl_within_1 m_impl_within_3
def m_impl_within : MCode := m_impl_within_4 ()
def h_impl_within : Hints := [(0, [0, 1, 2], [], [], []), (1, [6], [], [], [])]
def r_impl_within : List RV := [.t 6]
abbrev n_impl_within : Nat := 71
theorem k_impl_within : Known Pr mu n_impl_within m_impl_within r_impl_within Go.Proofs.Try.f71.ntmps := .of h_impl_within hm Go.Proofs.Try.func71 (by kernel_rfl) (by kernel_rfl) (by kernel_rfl) (by kernel_rfl)
def m_spec_l15Good_1 : Unit → MCode := fun _ => .region [] [⟨(some 4), .mv (.const (.bool false)), none, []⟩] [0, 1]
def m_spec_l15Good_2 : Unit → MCode := fun _ => .region [] [⟨(some 5), .mv (.tmp 1), none, []⟩,
    ⟨(some 6), .call 91 [(.tmp 5)], none, []⟩,
    ⟨(some 7), .mv (.tmp 6), none, []⟩,
    ⟨(some 8), .mv (.tmp 1), (some (7, true)), []⟩,
    ⟨(some 9), .len false (.tmp 8), (some (7, true)), []⟩,
    ⟨(some 10), .bin .leq (.tmp 9) (.const (.int .i64 3)), (some (7, true)), []⟩,
    ⟨(some 11), .pick (.tmp 7) (.tmp 10) (.const (.bool false)), none, []⟩,
    ⟨(some 12), .mv (.tmp 11), none, []⟩,
    ⟨(some 13), .mv (.tmp 0), (some (12, true)), []⟩,
    ⟨(some 14), .mv (.tmp 1), (some (12, true)), []⟩,
    ⟨(some 15), .len false (.tmp 14), (some (12, true)), []⟩,
    ⟨(some 16), .bin .sub (.const (.int .i64 16)) (.tmp 15), (some (12, true)), []⟩,
    ⟨(some 17), .call 68 [(.tmp 13), (.const (.int .i64 0)), (.tmp 16)], (some (12, true)), []⟩,
    ⟨(some 18), .pick (.tmp 12) (.tmp 17) (.const (.bool false)), none, []⟩,
    ⟨(some 19), .mv (.tmp 18), none, []⟩,
    ⟨(some 20), .mv (.tmp 0), (some (19, true)), []⟩,
    ⟨(some 21), .bin .eql (.tmp 20) (.const (.int .i64 0)), (some (19, true)), []⟩,
    ⟨(some 22), .mv (.tmp 21), (some (19, true)), []⟩,
    ⟨(some 23), .mv (.tmp 1), (some (22, false)), []⟩,
    ⟨(some 24), .len false (.tmp 23), (some (22, false)), []⟩,
    ⟨(some 25), .bin .eql (.tmp 24) (.const (.int .i64 3)), (some (22, false)), []⟩,
    ⟨(some 26), .pick (.tmp 22) (.const (.bool true)) (.tmp 25), (some (19, true)), []⟩,
    ⟨(some 27), .pick (.tmp 19) (.tmp 26) (.const (.bool false)), none, []⟩,
    ⟨(some 4), .mv (.tmp 27), none, []⟩] [4]
def m_spec_l15Good_3 : Unit → MCode := fun _ => .seq m_spec_l15Good_2 (fun _ => .ret)
def m_spec_l15Good_4 : Unit → MCode := fun _ => .seq m_spec_l15Good_1 m_spec_l15Good_3
def m_spec_l15Good : MCode := m_spec_l15Good_4 ()
def h_spec_l15Good : Hints := [(0, [0, 1], [], [], []), (1, [4], [], [], [])]
def r_spec_l15Good : List RV := [.t 4]
abbrev n_spec_l15Good : Nat := 84
theorem k_spec_l15Good : Known Pr mu n_spec_l15Good m_spec_l15Good r_spec_l15Good Go.Proofs.Try.f84.ntmps := .of h_spec_l15Good hm Go.Proofs.Try.func84 (by kernel_rfl) (by kernel_rfl) (by kernel_rfl) (by kernel_rfl)
def m_impl_isTail_1 : Unit → MCode := fun _ => .region [] [⟨(some 4), .mv (.const (.bool false)), none, []⟩] [0, 1]
def m_impl_isTail_2 : Unit → MCode := fun _ => .region [] [⟨(some 5), .mv (.tmp 1), none, []⟩,
    ⟨(some 6), .call 93 [(.tmp 5)], none, []⟩,
    ⟨(some 7), .mv (.tmp 6), none, []⟩,
    ⟨(some 8), .mv (.tmp 1), (some (7, true)), []⟩,
    ⟨(some 9), .len false (.tmp 8), (some (7, true)), []⟩,
    ⟨(some 10), .bin .leq (.tmp 9) (.const (.int .i64 3)), (some (7, true)), []⟩,
    ⟨(some 11), .pick (.tmp 7) (.tmp 10) (.const (.bool false)), none, []⟩,
    ⟨(some 12), .mv (.tmp 11), none, []⟩,
    ⟨(some 13), .mv (.tmp 0), (some (12, true)), []⟩,
    ⟨(some 14), .mv (.tmp 1), (some (12, true)), []⟩,
    ⟨(some 15), .len false (.tmp 14), (some (12, true)), []⟩,
    ⟨(some 16), .bin .sub (.const (.int .i64 16)) (.tmp 15), (some (12, true)), []⟩,
    ⟨(some 17), .call 71 [(.tmp 13), (.const (.int .i64 0)), (.tmp 16)], (some (12, true)), []⟩,
    ⟨(some 18), .pick (.tmp 12) (.tmp 17) (.const (.bool false)), none, []⟩,
    ⟨(some 19), .mv (.tmp 18), none, []⟩,
    ⟨(some 20), .mv (.tmp 0), (some (19, true)), []⟩,
    ⟨(some 21), .bin .eql (.tmp 20) (.const (.int .i64 0)), (some (19, true)), []⟩,
    ⟨(some 22), .mv (.tmp 21), (some (19, true)), []⟩,
    ⟨(some 23), .mv (.tmp 1), (some (22, false)), []⟩,
    ⟨(some 24), .len false (.tmp 23), (some (22, false)), []⟩,
    ⟨(some 25), .bin .eql (.tmp 24) (.const (.int .i64 3)), (some (22, false)), []⟩,
    ⟨(some 26), .pick (.tmp 22) (.const (.bool true)) (.tmp 25), (some (19, true)), []⟩,
    ⟨(some 27), .pick (.tmp 19) (.tmp 26) (.const (.bool false)), none, []⟩,
    ⟨(some 4), .mv (.tmp 27), none, []⟩] [4]
def m_impl_isTail_3 : Unit → MCode := fun _ => .seq m_impl_isTail_2 (fun _ => .ret)
def m_impl_isTail_4 : Unit → MCode := fun _ => .seq m_impl_isTail_1 m_impl_isTail_3
def m_impl_isTail : MCode := m_impl_isTail_4 ()
def h_impl_isTail : Hints := [(0, [0, 1], [], [], []), (1, [4], [], [], [])]
def r_impl_isTail : List RV := [.t 4]
abbrev n_impl_isTail : Nat := 85
theorem k_impl_isTail : Known Pr mu n_impl_isTail m_impl_isTail r_impl_isTail Go.Proofs.Try.f85.ntmps := .of h_impl_isTail hm Go.Proofs.Try.func85 (by kernel_rfl) (by kernel_rfl) (by kernel_rfl) (by kernel_rfl)
def m_laws_eqEntry_1 : Unit → MCode := fun _ => .region [] [⟨(some 2), .box (.tmp 0), none, []⟩,
    ⟨(some 3), .box (.tmp 1), none, []⟩,
    ⟨(some 4), .mv (.const (.bool false)), none, []⟩] [2, 3]
def m_laws_eqEntry_2 : Unit → MCode := fun _ => .region [] [⟨(some 5), .fa (.tmp 2) 0, none, []⟩,
    ⟨(some 6), .ld (.tmp 5) 1 false, none, []⟩,
    ⟨(some 7), .fa (.tmp 3) 0, none, []⟩,
    ⟨(some 8), .ld (.tmp 7) 1 false, none, []⟩,
    ⟨(some 9), .bin .neq (.tmp 6) (.tmp 8), none, []⟩] [2, 3, 9]
def m_laws_eqEntry_3 : Unit → MCode := fun _ => .region [] [⟨(some 4), .mv (.const (.bool false)), none, []⟩] [4]
def m_laws_eqEntry_4 : Unit → MCode := fun _ => .seq m_laws_eqEntry_3 (fun _ => .ret)
def m_laws_eqEntry_5 : Unit → MCode := fun _ => .cond (.tmp 9) m_laws_eqEntry_4 (fun _ => .skip)
def m_laws_eqEntry_6 : Unit → MCode := fun _ => .seq m_laws_eqEntry_2 m_laws_eqEntry_5
def m_laws_eqEntry_7 : Unit → MCode := fun _ => .region [] [⟨(some 10), .fa (.tmp 2) 1, none, []⟩,
    ⟨(some 11), .ld (.tmp 10) 6 true, none, []⟩,
    ⟨(some 12), .fa (.tmp 3) 1, none, []⟩,
    ⟨(some 13), .ld (.tmp 12) 6 true, none, []⟩,
    ⟨(some 14), .call 109 [(.tmp 11), (.tmp 13)], none, []⟩,
    ⟨(some 15), .not (.tmp 14), none, []⟩] [15]
def m_laws_eqEntry_8 : Unit → MCode := fun _ => .region [] [⟨(some 4), .mv (.const (.bool false)), none, []⟩] [4]
def m_laws_eqEntry_9 : Unit → MCode := fun _ => .seq m_laws_eqEntry_8 (fun _ => .ret)
def m_laws_eqEntry_10 : Unit → MCode := fun _ => .cond (.tmp 15) m_laws_eqEntry_9 (fun _ => .skip)
def m_laws_eqEntry_11 : Unit → MCode := fun _ => .seq m_laws_eqEntry_7 m_laws_eqEntry_10
def m_laws_eqEntry_12 : Unit → MCode := fun _ => .region [] [⟨(some 4), .mv (.const (.bool true)), none, []⟩] [4]
def m_laws_eqEntry_13 : Unit → MCode := fun _ => .seq m_laws_eqEntry_12 (fun _ => .ret)
def m_laws_eqEntry_14 : Unit → MCode := fun _ => .seq m_laws_eqEntry_11 m_laws_eqEntry_13
def m_laws_eqEntry_15 : Unit → MCode := fun _ => .seq m_laws_eqEntry_6 m_laws_eqEntry_14
def m_laws_eqEntry_16 : Unit → MCode := fun _ => .seq m_laws_eqEntry_1 m_laws_eqEntry_15
def m_laws_eqEntry : MCode := m_laws_eqEntry_16 ()
def h_laws_eqEntry : Hints := [(0, [2, 3], [], [], []), (1, [2, 3, 9], [], [], []), (2, [4], [], [], []), (3, [15], [], [], []), (4, [4], [], [], []), (5, [4], [], [], [])]
def r_laws_eqEntry : List RV := [.t 4]
abbrev n_laws_eqEntry : Nat := 86
theorem k_laws_eqEntry : Known Pr mu n_laws_eqEntry m_laws_eqEntry r_laws_eqEntry Go.Proofs.Try.f86.ntmps := .of h_laws_eqEntry hm Go.Proofs.Try.func86 (by kernel_rfl) (by kernel_rfl) (by kernel_rfl) (by kernel_rfl)
def m_spec_IsLog_1 : Unit → MCode := fun _ => .region [] [⟨(some 2), .mv (.const (.bool false)), none, []⟩] [0]
def m_spec_IsLog_2 : Unit → MCode := fun _ => .region [] [⟨(some 3), .mv (.const (.int .i64 0)), none, []⟩] [0, 3]
def m_spec_IsLog_3 : Unit → MCode := fun _ => .region [] [⟨(some 4), .mv (.tmp 3), none, []⟩,
    ⟨(some 5), .mv (.tmp 0), none, []⟩,
    ⟨(some 6), .len false (.tmp 5), none, []⟩,
    ⟨(some 7), .bin .lss (.tmp 4) (.tmp 6), none, []⟩] [0, 3, 7]
def m_spec_IsLog_4 : Unit → MCode := fun _ => .cond (.tmp 7) (fun _ => .skip) (fun _ => .exit 0)
def m_spec_IsLog_5 : Unit → MCode := fun _ => .seq m_spec_IsLog_3 m_spec_IsLog_4
def m_spec_IsLog_6 : Unit → MCode := fun _ => .region [] [⟨(some 10), .mv (.tmp 0), none, []⟩,
    ⟨(some 11), .mv (.tmp 3), none, []⟩,
    ⟨(some 12), .ia (.tmp 10) (.tmp 11) 7, none, []⟩,
    ⟨(some 13), .fa (.tmp 12) 0, none, []⟩,
    ⟨(some 14), .ld (.tmp 13) 1 false, none, []⟩,
    ⟨(some 15), .call 68 [(.tmp 14), (.const (.int .i64 1)), (.const (.int .i64 20))], none, []⟩,
    ⟨(some 16), .not (.tmp 15), none, []⟩,
    ⟨(some 17), .mv (.tmp 16), none, []⟩,
    ⟨(some 18), .mv (.tmp 0), (some (17, false)), []⟩,
    ⟨(some 19), .mv (.tmp 3), (some (17, false)), []⟩,
    ⟨(some 20), .ia (.tmp 18) (.tmp 19) 7, (some (17, false)), []⟩,
    ⟨(some 21), .fa (.tmp 20) 1, (some (17, false)), []⟩,
    ⟨(some 22), .ld (.tmp 21) 6 true, (some (17, false)), []⟩,
    ⟨(some 23), .call 110 [(.tmp 22)], (some (17, false)), []⟩,
    ⟨(some 24), .not (.tmp 23), (some (17, false)), []⟩,
    ⟨(some 25), .pick (.tmp 17) (.const (.bool true)) (.tmp 24), none, []⟩,
    ⟨(some 26), .mv (.tmp 25), none, []⟩,
    ⟨(some 27), .mv (.tmp 3), (some (26, false)), []⟩,
    ⟨(some 28), .bin .gtr (.tmp 27) (.const (.int .i64 0)), (some (26, false)), []⟩,
    ⟨(some 29), .mv (.tmp 28), (some (26, false)), []⟩,
    ⟨(some 30), .mv (.tmp 0), (some (29, true)), []⟩,
    ⟨(some 31), .mv (.tmp 3), (some (29, true)), []⟩,
    ⟨(some 32), .bin .sub (.tmp 31) (.const (.int .i64 1)), (some (29, true)), []⟩,
    ⟨(some 33), .ia (.tmp 30) (.tmp 32) 7, (some (29, true)), []⟩,
    ⟨(some 34), .fa (.tmp 33) 0, (some (29, true)), []⟩,
    ⟨(some 35), .ld (.tmp 34) 1 false, (some (29, true)), []⟩,
    ⟨(some 36), .mv (.tmp 0), (some (29, true)), []⟩,
    ⟨(some 37), .mv (.tmp 3), (some (29, true)), []⟩,
    ⟨(some 38), .ia (.tmp 36) (.tmp 37) 7, (some (29, true)), [20, 21, 22, 23, 24, 25]⟩,
    ⟨(some 39), .fa (.tmp 38) 0, (some (29, true)), [20, 21, 22, 23, 24, 25]⟩,
    ⟨(some 40), .ld (.tmp 39) 1 false, (some (29, true)), [20, 21, 22, 23, 24, 25]⟩,
    ⟨(some 41), .bin .gtr (.tmp 35) (.tmp 40), (some (29, true)), []⟩,
    ⟨(some 42), .pick (.tmp 29) (.tmp 41) (.const (.bool false)), (some (26, false)), []⟩,
    ⟨(some 43), .pick (.tmp 26) (.const (.bool true)) (.tmp 42), none, []⟩] [0, 3, 43]
def m_spec_IsLog_7 : Unit → MCode := fun _ => .region [] [⟨(some 2), .mv (.const (.bool false)), none, []⟩] [2]
def m_spec_IsLog_8 : Unit → MCode := fun _ => .seq m_spec_IsLog_7 (fun _ => .ret)
def m_spec_IsLog_9 : Unit → MCode := fun _ => .cond (.tmp 43) m_spec_IsLog_8 (fun _ => .skip)
def m_spec_IsLog_10 : Unit → MCode := fun _ => .seq m_spec_IsLog_6 m_spec_IsLog_9
def m_spec_IsLog_11 : Unit → MCode := fun _ => .block 1 m_spec_IsLog_10
def m_spec_IsLog_12 : Unit → MCode := fun _ => .region [] [⟨(some 8), .mv (.tmp 3), none, []⟩,
    ⟨(some 9), .bin .add (.tmp 8) (.const (.int .i64 1)), none, []⟩,
    ⟨(some 3), .mv (.tmp 9), none, []⟩] [0, 3]
def m_spec_IsLog_13 : Unit → MCode := fun _ => .seq m_spec_IsLog_11 m_spec_IsLog_12
def m_spec_IsLog_14 : Unit → MCode := fun _ => .seq m_spec_IsLog_5 m_spec_IsLog_13
def m_spec_IsLog_15 : Unit → MCode := fun _ => .loop m_spec_IsLog_14
def m_spec_IsLog_16 : Unit → MCode := fun _ => .block 0 m_spec_IsLog_15
def m_spec_IsLog_17 : Unit → MCode := fun _ => .seq m_spec_IsLog_2 m_spec_IsLog_16
def m_spec_IsLog_18 : Unit → MCode := fun _ => .region [] [⟨(some 44), .mv (.tmp 0), none, []⟩,
    ⟨(some 45), .len false (.tmp 44), none, []⟩,
    ⟨(some 46), .bin .leq (.tmp 45) (.const (.int .i64 16)), none, []⟩,
    ⟨(some 2), .mv (.tmp 46), none, []⟩] [2]
def m_spec_IsLog_19 : Unit → MCode := fun _ => .seq m_spec_IsLog_18 (fun _ => .ret)
def m_spec_IsLog_20 : Unit → MCode := fun _ => .seq m_spec_IsLog_17 m_spec_IsLog_19
def m_spec_IsLog_21 : Unit → MCode := fun _ => .seq m_spec_IsLog_1 m_spec_IsLog_20
def m_spec_IsLog : MCode := m_spec_IsLog_21 ()
def h_spec_IsLog : Hints := [(0, [0], [], [], []), (1, [0, 3], [], [], []), (2, [0, 3, 7], [], [], []), (4, [0, 3, 43], [[], [], [], [], [], [], [], [], [], [], [], [], [], [], [], [], [], [], [], [], [], [], [], [], [], [], [], [], [20, 21, 22, 23, 24, 25], [20, 21, 22, 23, 24, 25], [20, 21, 22, 23, 24, 25]], [], []), (5, [2], [], [], []), (3, [0, 3], [], [], []), (6, [2], [], [], [])]
def r_spec_IsLog : List RV := [.t 2]
abbrev n_spec_IsLog : Nat := 91
theorem k_spec_IsLog : Known Pr mu n_spec_IsLog m_spec_IsLog r_spec_IsLog Go.Proofs.Try.f91.ntmps := .of h_spec_IsLog hm Go.Proofs.Try.func91 (by kernel_rfl) (by kernel_rfl) (by kernel_rfl) (by kernel_rfl)
def m_impl_IsLog_1 : Unit → MCode := fun _ => .region [] [⟨(some 2), .mv (.const (.bool false)), none, []⟩] [0]
def m_impl_IsLog_2 : Unit → MCode := fun _ => .region [] [⟨(some 5), .mv (.tmp 0), none, []⟩,
    ⟨(some 6), .len false (.tmp 5), none, []⟩,
    ⟨(some 7), .mv (.const (.int .i64 0)), none, []⟩] [0, 5, 6, 7]
def m_impl_IsLog_3 : Unit → MCode := fun _ => .region [] [⟨(some 8), .bin .lss (.tmp 7) (.tmp 6), none, []⟩] [0, 5, 6, 7, 8]
def m_impl_IsLog_4 : Unit → MCode := fun _ => .cond (.tmp 8) (fun _ => .skip) (fun _ => .exit 0)
def m_impl_IsLog_5 : Unit → MCode := fun _ => .region [] [⟨(some 9), .mv (.tmp 7), none, []⟩,
    ⟨(some 10), .ia (.tmp 5) (.tmp 7) 7, none, []⟩,
    ⟨(some 11), .ld (.tmp 10) 7 true, none, []⟩,
    ⟨(some 4), .alloc [.int .i64 0, .int .i64 0, .int .i64 0, .int .i64 0, .int .i64 0, .int .i64 0, .int .i64 0], none, []⟩,
    ⟨(some 3), .mv (.tmp 9), none, []⟩,
    ⟨none, .sto (.tmp 4) (.tmp 11) 7, none, []⟩] [0, 3, 4, 5, 6, 7]
def m_impl_IsLog_6 : Unit → MCode := fun _ => .region [] [⟨(some 12), .fa (.tmp 4) 0, none, []⟩,
    ⟨(some 13), .ld (.tmp 12) 1 false, none, []⟩,
    ⟨(some 14), .call 71 [(.tmp 13), (.const (.int .i64 1)), (.const (.int .i64 20))], none, []⟩,
    ⟨(some 15), .not (.tmp 14), none, []⟩,
    ⟨(some 16), .mv (.tmp 15), none, []⟩,
    ⟨(some 17), .mv (.tmp 3), (some (16, false)), []⟩,
    ⟨(some 18), .bin .gtr (.tmp 17) (.const (.int .i64 0)), (some (16, false)), []⟩,
    ⟨(some 19), .mv (.tmp 18), (some (16, false)), []⟩,
    ⟨(some 20), .fa (.tmp 4) 0, (some (19, true)), []⟩,
    ⟨(some 21), .ld (.tmp 20) 1 false, (some (19, true)), []⟩,
    ⟨(some 22), .mv (.tmp 0), (some (19, true)), []⟩,
    ⟨(some 23), .mv (.tmp 3), (some (19, true)), []⟩,
    ⟨(some 24), .bin .sub (.tmp 23) (.const (.int .i64 1)), (some (19, true)), []⟩,
    ⟨(some 25), .ia (.tmp 22) (.tmp 24) 7, (some (19, true)), [8, 9]⟩,
    ⟨(some 26), .fa (.tmp 25) 0, (some (19, true)), [8, 9]⟩,
    ⟨(some 27), .ld (.tmp 26) 1 false, (some (19, true)), [8, 9]⟩,
    ⟨(some 28), .bin .lss (.tmp 21) (.tmp 27), (some (19, true)), []⟩,
    ⟨(some 29), .pick (.tmp 19) (.tmp 28) (.const (.bool false)), (some (16, false)), []⟩,
    ⟨(some 30), .pick (.tmp 16) (.const (.bool true)) (.tmp 29), none, []⟩,
    ⟨(some 31), .mv (.tmp 30), none, []⟩,
    ⟨(some 32), .fa (.tmp 4) 1, (some (31, false)), []⟩,
    ⟨(some 33), .ld (.tmp 32) 6 true, (some (31, false)), []⟩,
    ⟨(some 34), .call 111 [(.tmp 33)], (some (31, false)), []⟩,
    ⟨(some 35), .not (.tmp 34), (some (31, false)), []⟩,
    ⟨(some 36), .pick (.tmp 31) (.const (.bool true)) (.tmp 35), none, []⟩] [0, 5, 6, 7, 36]
def m_impl_IsLog_7 : Unit → MCode := fun _ => .region [] [⟨(some 2), .mv (.const (.bool false)), none, []⟩] [2]
def m_impl_IsLog_8 : Unit → MCode := fun _ => .seq m_impl_IsLog_7 (fun _ => .ret)
def m_impl_IsLog_9 : Unit → MCode := fun _ => .cond (.tmp 36) m_impl_IsLog_8 (fun _ => .skip)
def m_impl_IsLog_10 : Unit → MCode := fun _ => .seq m_impl_IsLog_6 m_impl_IsLog_9
def m_impl_IsLog_11 : Unit → MCode := fun _ => .seq m_impl_IsLog_5 m_impl_IsLog_10
def m_impl_IsLog_12 : Unit → MCode := fun _ => .block 1 m_impl_IsLog_11
def m_impl_IsLog_13 : Unit → MCode := fun _ => .region [] [⟨(some 37), .bin .add (.tmp 7) (.const (.int .i64 1)), none, []⟩,
    ⟨(some 7), .mv (.tmp 37), none, []⟩] [0, 5, 6, 7]
def m_impl_IsLog_14 : Unit → MCode := fun _ => .seq m_impl_IsLog_12 m_impl_IsLog_13
def m_impl_IsLog_15 : Unit → MCode := fun _ => .seq m_impl_IsLog_4 m_impl_IsLog_14
def m_impl_IsLog_16 : Unit → MCode := fun _ => .seq m_impl_IsLog_3 m_impl_IsLog_15
def m_impl_IsLog_17 : Unit → MCode := fun _ => .loop m_impl_IsLog_16
def m_impl_IsLog_18 : Unit → MCode := fun _ => .block 0 m_impl_IsLog_17
def m_impl_IsLog_19 : Unit → MCode := fun _ => .seq m_impl_IsLog_2 m_impl_IsLog_18
def m_impl_IsLog_20 : Unit → MCode := fun _ => .region [] [⟨(some 38), .mv (.tmp 0), none, []⟩,
    ⟨(some 39), .len false (.tmp 38), none, []⟩,
    ⟨(some 40), .bin .leq (.tmp 39) (.const (.int .i64 16)), none, []⟩,
    ⟨(some 2), .mv (.tmp 40), none, []⟩] [2]
def m_impl_IsLog_21 : Unit → MCode := fun _ => .seq m_impl_IsLog_20 (fun _ => .ret)
def m_impl_IsLog_22 : Unit → MCode := fun _ => .seq m_impl_IsLog_19 m_impl_IsLog_21
def m_impl_IsLog_23 : Unit → MCode := fun _ => .seq m_impl_IsLog_1 m_impl_IsLog_22
def m_impl_IsLog : MCode := m_impl_IsLog_23 ()
def h_impl_IsLog : Hints := [(0, [0], [], [], []), (1, [0, 5, 6, 7], [], [], []), (2, [0, 5, 6, 7, 8], [], [], []), (3, [0, 3, 4, 5, 6, 7], [], [], []), (4, [0, 5, 6, 7, 36], [[], [], [], [], [], [], [], [], [], [], [], [], [], [8, 9], [8, 9], [8, 9]], [], []), (5, [2], [], [], []), (6, [0, 5, 6, 7], [], [], []), (7, [2], [], [], [])]
def r_impl_IsLog : List RV := [.t 2]
abbrev n_impl_IsLog : Nat := 93
theorem k_impl_IsLog : Known Pr mu n_impl_IsLog m_impl_IsLog r_impl_IsLog Go.Proofs.Try.f93.ntmps := .of h_impl_IsLog hm Go.Proofs.Try.func93 (by kernel_rfl) (by kernel_rfl) (by kernel_rfl) (by kernel_rfl)
def m_laws_toOp_1 : Unit → MCode := fun _ => .region [] [⟨(some 1), .box (.tmp 0), none, []⟩,
    ⟨(some 2), .alloc [.int .i64 0, .int .i64 0, .int .i64 0, .int .i64 0, .int .i64 0, .int .i64 0], none, []⟩] [1, 2]
def m_laws_toOp_2 : Unit → MCode := fun _ => .region [] [⟨(some 3), .alloc [.int .i64 0, .int .i64 0, .int .i64 0, .int .i64 0, .int .i64 0, .int .i64 0], none, []⟩] [1, 2, 3]
def m_laws_toOp_3 : Unit → MCode := fun _ => .region [] [⟨(some 4), .fa (.tmp 1) 0, none, []⟩,
    ⟨(some 5), .ld (.tmp 4) 1 false, none, []⟩,
    ⟨(some 6), .fa (.tmp 3) 0, none, []⟩,
    ⟨none, .sto (.tmp 6) (.tmp 5) 1, none, []⟩] [1, 2, 3]
def m_laws_toOp_4 : Unit → MCode := fun _ => .region [] [⟨(some 7), .fa (.tmp 1) 1, none, []⟩,
    ⟨(some 8), .ld (.tmp 7) 1 false, none, []⟩,
    ⟨(some 9), .fa (.tmp 3) 1, none, []⟩,
    ⟨none, .sto (.tmp 9) (.tmp 8) 1, none, []⟩] [1, 2, 3]
def m_laws_toOp_5 : Unit → MCode := fun _ => .region [] [⟨(some 10), .fa (.tmp 1) 2, none, []⟩,
    ⟨(some 11), .ld (.tmp 10) 1 false, none, []⟩,
    ⟨(some 12), .fa (.tmp 3) 2, none, []⟩,
    ⟨none, .sto (.tmp 12) (.tmp 11) 1, none, []⟩] [1, 2, 3]
def m_laws_toOp_6 : Unit → MCode := fun _ => .region [] [⟨(some 13), .fa (.tmp 1) 3, none, []⟩,
    ⟨(some 14), .ld (.tmp 13) 1 false, none, []⟩,
    ⟨(some 15), .fa (.tmp 3) 3, none, []⟩,
    ⟨none, .sto (.tmp 15) (.tmp 14) 1, none, []⟩] [1, 2, 3]
def m_laws_toOp_7 : Unit → MCode := fun _ => .region [] [⟨(some 16), .fa (.tmp 1) 4, none, []⟩,
    ⟨(some 17), .ld (.tmp 16) 1 false, none, []⟩,
    ⟨(some 18), .fa (.tmp 3) 4, none, []⟩,
    ⟨none, .sto (.tmp 18) (.tmp 17) 1, none, []⟩] [1, 2, 3]
def m_laws_toOp_8 : Unit → MCode := fun _ => .region [] [⟨(some 19), .fa (.tmp 1) 5, none, []⟩,
    ⟨(some 20), .ld (.tmp 19) 1 false, none, []⟩,
    ⟨(some 21), .fa (.tmp 3) 5, none, []⟩,
    ⟨none, .sto (.tmp 21) (.tmp 20) 1, none, []⟩] [2, 3]
def m_laws_toOp_9 : Unit → MCode := fun _ => .region [] [⟨(some 22), .ld (.tmp 3) 6 true, none, []⟩,
    ⟨none, .sto (.tmp 2) (.tmp 22) 6, none, []⟩] [2]
def m_laws_toOp_10 : Unit → MCode := fun _ => .seq m_laws_toOp_9 (fun _ => .ret)
def m_laws_toOp_11 : Unit → MCode := fun _ => .seq m_laws_toOp_8 m_laws_toOp_10
def m_laws_toOp_12 : Unit → MCode := fun _ => .seq m_laws_toOp_7 m_laws_toOp_11
def m_laws_toOp_13 : Unit → MCode := fun _ => .seq m_laws_toOp_6 m_laws_toOp_12
def m_laws_toOp_14 : Unit → MCode := fun _ => .seq m_laws_toOp_5 m_laws_toOp_13
def m_laws_toOp_15 : Unit → MCode := fun _ => .seq m_laws_toOp_4 m_laws_toOp_14
def m_laws_toOp_16 : Unit → MCode := fun _ => .seq m_laws_toOp_3 m_laws_toOp_15
def m_laws_toOp_17 : Unit → MCode := fun _ => .seq m_laws_toOp_2 m_laws_toOp_16
def m_laws_toOp_18 : Unit → MCode := fun _ => .seq m_laws_toOp_1 m_laws_toOp_17
def m_laws_toOp : MCode := m_laws_toOp_18 ()
def h_laws_toOp : Hints := [(0, [1, 2], [], [], []), (1, [1, 2, 3], [], [], []), (2, [1, 2, 3], [], [], []), (3, [1, 2, 3], [], [], []), (4, [1, 2, 3], [], [], []), (5, [1, 2, 3], [], [], []), (6, [1, 2, 3], [], [], []), (7, [2, 3], [], [], []), (8, [2], [], [], [])]
def r_laws_toOp : List RV := [.c 2 6 true]
abbrev n_laws_toOp : Nat := 96
theorem k_laws_toOp : Known Pr mu n_laws_toOp m_laws_toOp r_laws_toOp Go.Proofs.Try.f96.ntmps := .of h_laws_toOp hm Go.Proofs.Try.func96 (by kernel_rfl) (by kernel_rfl) (by kernel_rfl) (by kernel_rfl)
def m_laws_eqOp_1 : Unit → MCode := fun _ => .region [] [⟨(some 2), .box (.tmp 0), none, []⟩,
    ⟨(some 3), .box (.tmp 1), none, []⟩,
    ⟨(some 4), .mv (.const (.bool false)), none, []⟩] [2, 3]
def m_laws_eqOp_2 : Unit → MCode := fun _ => .region [] [⟨(some 5), .fa (.tmp 2) 0, none, []⟩,
    ⟨(some 6), .ld (.tmp 5) 1 false, none, []⟩,
    ⟨(some 7), .fa (.tmp 3) 0, none, []⟩,
    ⟨(some 8), .ld (.tmp 7) 1 false, none, []⟩,
    ⟨(some 9), .bin .neq (.tmp 6) (.tmp 8), none, []⟩] [2, 3, 9]
def m_laws_eqOp_3 : Unit → MCode := fun _ => .region [] [⟨(some 4), .mv (.const (.bool false)), none, []⟩] [4]
def m_laws_eqOp_4 : Unit → MCode := fun _ => .seq m_laws_eqOp_3 (fun _ => .ret)
def m_laws_eqOp_5 : Unit → MCode := fun _ => .cond (.tmp 9) m_laws_eqOp_4 (fun _ => .skip)
def m_laws_eqOp_6 : Unit → MCode := fun _ => .seq m_laws_eqOp_2 m_laws_eqOp_5
def m_laws_eqOp_7 : Unit → MCode := fun _ => .region [] [⟨(some 10), .fa (.tmp 2) 1, none, []⟩,
    ⟨(some 11), .ld (.tmp 10) 1 false, none, []⟩,
    ⟨(some 12), .fa (.tmp 3) 1, none, []⟩,
    ⟨(some 13), .ld (.tmp 12) 1 false, none, []⟩,
    ⟨(some 14), .bin .neq (.tmp 11) (.tmp 13), none, []⟩] [2, 3, 14]
def m_laws_eqOp_8 : Unit → MCode := fun _ => .region [] [⟨(some 4), .mv (.const (.bool false)), none, []⟩] [4]
def m_laws_eqOp_9 : Unit → MCode := fun _ => .seq m_laws_eqOp_8 (fun _ => .ret)
def m_laws_eqOp_10 : Unit → MCode := fun _ => .cond (.tmp 14) m_laws_eqOp_9 (fun _ => .skip)
def m_laws_eqOp_11 : Unit → MCode := fun _ => .seq m_laws_eqOp_7 m_laws_eqOp_10
def m_laws_eqOp_12 : Unit → MCode := fun _ => .region [] [⟨(some 15), .fa (.tmp 2) 2, none, []⟩,
    ⟨(some 16), .ld (.tmp 15) 1 false, none, []⟩,
    ⟨(some 17), .fa (.tmp 3) 2, none, []⟩,
    ⟨(some 18), .ld (.tmp 17) 1 false, none, []⟩,
    ⟨(some 19), .bin .neq (.tmp 16) (.tmp 18), none, []⟩] [2, 3, 19]
def m_laws_eqOp_13 : Unit → MCode := fun _ => .region [] [⟨(some 4), .mv (.const (.bool false)), none, []⟩] [4]
def m_laws_eqOp_14 : Unit → MCode := fun _ => .seq m_laws_eqOp_13 (fun _ => .ret)
def m_laws_eqOp_15 : Unit → MCode := fun _ => .cond (.tmp 19) m_laws_eqOp_14 (fun _ => .skip)
def m_laws_eqOp_16 : Unit → MCode := fun _ => .seq m_laws_eqOp_12 m_laws_eqOp_15
def m_laws_eqOp_17 : Unit → MCode := fun _ => .region [] [⟨(some 20), .fa (.tmp 2) 3, none, []⟩,
    ⟨(some 21), .ld (.tmp 20) 1 false, none, []⟩,
    ⟨(some 22), .fa (.tmp 3) 3, none, []⟩,
    ⟨(some 23), .ld (.tmp 22) 1 false, none, []⟩,
    ⟨(some 24), .bin .neq (.tmp 21) (.tmp 23), none, []⟩] [2, 3, 24]
def m_laws_eqOp_18 : Unit → MCode := fun _ => .region [] [⟨(some 4), .mv (.const (.bool false)), none, []⟩] [4]
def m_laws_eqOp_19 : Unit → MCode := fun _ => .seq m_laws_eqOp_18 (fun _ => .ret)
def m_laws_eqOp_20 : Unit → MCode := fun _ => .cond (.tmp 24) m_laws_eqOp_19 (fun _ => .skip)
def m_laws_eqOp_21 : Unit → MCode := fun _ => .seq m_laws_eqOp_17 m_laws_eqOp_20
def m_laws_eqOp_22 : Unit → MCode := fun _ => .region [] [⟨(some 25), .fa (.tmp 2) 4, none, []⟩,
    ⟨(some 26), .ld (.tmp 25) 1 false, none, []⟩,
    ⟨(some 27), .fa (.tmp 3) 4, none, []⟩,
    ⟨(some 28), .ld (.tmp 27) 1 false, none, []⟩,
    ⟨(some 29), .bin .neq (.tmp 26) (.tmp 28), none, []⟩] [2, 3, 29]
def m_laws_eqOp_23 : Unit → MCode := fun _ => .region [] [⟨(some 4), .mv (.const (.bool false)), none, []⟩] [4]
def m_laws_eqOp_24 : Unit → MCode := fun _ => .seq m_laws_eqOp_23 (fun _ => .ret)
def m_laws_eqOp_25 : Unit → MCode := fun _ => .cond (.tmp 29) m_laws_eqOp_24 (fun _ => .skip)
def m_laws_eqOp_26 : Unit → MCode := fun _ => .seq m_laws_eqOp_22 m_laws_eqOp_25
def m_laws_eqOp_27 : Unit → MCode := fun _ => .region [] [⟨(some 30), .fa (.tmp 2) 5, none, []⟩,
    ⟨(some 31), .ld (.tmp 30) 1 false, none, []⟩,
    ⟨(some 32), .fa (.tmp 3) 5, none, []⟩,
    ⟨(some 33), .ld (.tmp 32) 1 false, none, []⟩,
    ⟨(some 34), .bin .neq (.tmp 31) (.tmp 33), none, []⟩] [34]
def m_laws_eqOp_28 : Unit → MCode := fun _ => .region [] [⟨(some 4), .mv (.const (.bool false)), none, []⟩] [4]
def m_laws_eqOp_29 : Unit → MCode := fun _ => .seq m_laws_eqOp_28 (fun _ => .ret)
def m_laws_eqOp_30 : Unit → MCode := fun _ => .cond (.tmp 34) m_laws_eqOp_29 (fun _ => .skip)
def m_laws_eqOp_31 : Unit → MCode := fun _ => .seq m_laws_eqOp_27 m_laws_eqOp_30
def m_laws_eqOp_32 : Unit → MCode := fun _ => .region [] [⟨(some 4), .mv (.const (.bool true)), none, []⟩] [4]
def m_laws_eqOp_33 : Unit → MCode := fun _ => .seq m_laws_eqOp_32 (fun _ => .ret)
def m_laws_eqOp_34 : Unit → MCode := fun _ => .seq m_laws_eqOp_31 m_laws_eqOp_33
def m_laws_eqOp_35 : Unit → MCode := fun _ => .seq m_laws_eqOp_26 m_laws_eqOp_34
def m_laws_eqOp_36 : Unit → MCode := fun _ => .seq m_laws_eqOp_21 m_laws_eqOp_35
def m_laws_eqOp_37 : Unit → MCode := fun _ => .seq m_laws_eqOp_16 m_laws_eqOp_36
def m_laws_eqOp_38 : Unit → MCode := fun _ => .seq m_laws_eqOp_11 m_laws_eqOp_37
def m_laws_eqOp_39 : Unit → MCode := fun _ => .seq m_laws_eqOp_6 m_laws_eqOp_38
def m_laws_eqOp_40 : Unit → MCode := fun _ => .seq m_laws_eqOp_1 m_laws_eqOp_39
def m_laws_eqOp : MCode := m_laws_eqOp_40 ()
def h_laws_eqOp : Hints := [(0, [2, 3], [], [], []), (1, [2, 3, 9], [], [], []), (2, [4], [], [], []), (3, [2, 3, 14], [], [], []), (4, [4], [], [], []), (5, [2, 3, 19], [], [], []), (6, [4], [], [], []), (7, [2, 3, 24], [], [], []), (8, [4], [], [], []), (9, [2, 3, 29], [], [], []), (10, [4], [], [], []), (11, [34], [], [], []), (12, [4], [], [], []), (13, [4], [], [], [])]
def r_laws_eqOp : List RV := [.t 4]
abbrev n_laws_eqOp : Nat := 109
theorem k_laws_eqOp : Known Pr mu n_laws_eqOp m_laws_eqOp r_laws_eqOp Go.Proofs.Try.f109.ntmps := .of h_laws_eqOp hm Go.Proofs.Try.func109 (by kernel_rfl) (by kernel_rfl) (by kernel_rfl) (by kernel_rfl)
def m_spec_IsValidOp_1 : Unit → MCode := fun _ => .region [] [⟨(some 1), .box (.tmp 0), none, []⟩,
    ⟨(some 2), .mv (.const (.bool false)), none, []⟩] [1]
def m_spec_IsValidOp_2 : Unit → MCode := fun _ => .region [] [⟨(some 3), .fa (.tmp 1) 0, none, []⟩,
    ⟨(some 4), .ld (.tmp 3) 1 false, none, []⟩,
    ⟨(some 5), .call 68 [(.tmp 4), (.const (.int .i64 0)), (.const (.int .i64 2))], none, []⟩,
    ⟨(some 6), .not (.tmp 5), none, []⟩,
    ⟨(some 7), .mv (.tmp 6), none, []⟩,
    ⟨(some 8), .fa (.tmp 1) 1, (some (7, false)), []⟩,
    ⟨(some 9), .ld (.tmp 8) 1 false, (some (7, false)), []⟩,
    ⟨(some 10), .call 68 [(.tmp 9), (.const (.int .i64 1)), (.const (.int .i64 99))], (some (7, false)), []⟩,
    ⟨(some 11), .not (.tmp 10), (some (7, false)), []⟩,
    ⟨(some 12), .pick (.tmp 7) (.const (.bool true)) (.tmp 11), none, []⟩,
    ⟨(some 13), .mv (.tmp 12), none, []⟩,
    ⟨(some 14), .fa (.tmp 1) 3, (some (13, false)), []⟩,
    ⟨(some 15), .ld (.tmp 14) 1 false, (some (13, false)), []⟩,
    ⟨(some 16), .call 68 [(.tmp 15), (.const (.int .i64 0)), (.const (.int .i64 2))], (some (13, false)), []⟩,
    ⟨(some 17), .not (.tmp 16), (some (13, false)), []⟩,
    ⟨(some 18), .pick (.tmp 13) (.const (.bool true)) (.tmp 17), none, []⟩,
    ⟨(some 19), .mv (.tmp 18), none, []⟩,
    ⟨(some 20), .fa (.tmp 1) 5, (some (19, false)), []⟩,
    ⟨(some 21), .ld (.tmp 20) 1 false, (some (19, false)), []⟩,
    ⟨(some 22), .call 68 [(.tmp 21), (.const (.int .i64 0)), (.const (.int .i64 9))], (some (19, false)), []⟩,
    ⟨(some 23), .not (.tmp 22), (some (19, false)), []⟩,
    ⟨(some 24), .pick (.tmp 19) (.const (.bool true)) (.tmp 23), none, []⟩] [1, 24]
def m_spec_IsValidOp_3 : Unit → MCode := fun _ => .region [] [⟨(some 2), .mv (.const (.bool false)), none, []⟩] [2]
def m_spec_IsValidOp_4 : Unit → MCode := fun _ => .seq m_spec_IsValidOp_3 (fun _ => .ret)
def m_spec_IsValidOp_5 : Unit → MCode := fun _ => .cond (.tmp 24) m_spec_IsValidOp_4 (fun _ => .skip)
def m_spec_IsValidOp_6 : Unit → MCode := fun _ => .seq m_spec_IsValidOp_2 m_spec_IsValidOp_5
def m_spec_IsValidOp_7 : Unit → MCode := fun _ => .region [] [⟨(some 25), .fa (.tmp 1) 2, none, []⟩,
    ⟨(some 26), .ld (.tmp 25) 1 false, none, []⟩,
    ⟨(some 27), .bin .eql (.tmp 26) (.const (.int .i64 1)), none, []⟩,
    ⟨(some 28), .mv (.tmp 27), none, []⟩,
    ⟨(some 29), .fa (.tmp 1) 4, (some (28, true)), []⟩,
    ⟨(some 30), .ld (.tmp 29) 1 false, (some (28, true)), []⟩,
    ⟨(some 31), .bin .eql (.tmp 30) (.const (.int .i64 0)), (some (28, true)), []⟩,
    ⟨(some 32), .pick (.tmp 28) (.tmp 31) (.const (.bool false)), none, []⟩,
    ⟨(some 33), .mv (.tmp 32), none, []⟩,
    ⟨(some 34), .fa (.tmp 1) 2, (some (33, false)), []⟩,
    ⟨(some 35), .ld (.tmp 34) 1 false, (some (33, false)), []⟩,
    ⟨(some 36), .bin .eql (.tmp 35) (.const (.int .i64 2)), (some (33, false)), []⟩,
    ⟨(some 37), .mv (.tmp 36), (some (33, false)), []⟩,
    ⟨(some 38), .fa (.tmp 1) 4, (some (37, true)), []⟩,
    ⟨(some 39), .ld (.tmp 38) 1 false, (some (37, true)), []⟩,
    ⟨(some 40), .call 68 [(.tmp 39), (.const (.int .i64 0)), (.const (.int .i64 9))], (some (37, true)), []⟩,
    ⟨(some 41), .pick (.tmp 37) (.tmp 40) (.const (.bool false)), (some (33, false)), []⟩,
    ⟨(some 42), .pick (.tmp 33) (.const (.bool true)) (.tmp 41), none, []⟩,
    ⟨(some 2), .mv (.tmp 42), none, []⟩] [2]
def m_spec_IsValidOp_8 : Unit → MCode := fun _ => .seq m_spec_IsValidOp_7 (fun _ => .ret)
def m_spec_IsValidOp_9 : Unit → MCode := fun _ => .seq m_spec_IsValidOp_6 m_spec_IsValidOp_8
def m_spec_IsValidOp_10 : Unit → MCode := fun _ => .seq m_spec_IsValidOp_1 m_spec_IsValidOp_9
def m_spec_IsValidOp : MCode := m_spec_IsValidOp_10 ()
def h_spec_IsValidOp : Hints := [(0, [1], [], [], []), (1, [1, 24], [], [], []), (2, [2], [], [], []), (3, [2], [], [], [])]
def r_spec_IsValidOp : List RV := [.t 2]
abbrev n_spec_IsValidOp : Nat := 110
theorem k_spec_IsValidOp : Known Pr mu n_spec_IsValidOp m_spec_IsValidOp r_spec_IsValidOp Go.Proofs.Try.f110.ntmps := .of h_spec_IsValidOp hm Go.Proofs.Try.func110 (by kernel_rfl) (by kernel_rfl) (by kernel_rfl) (by kernel_rfl)
def m_impl_IsValidOp_1 : Unit → MCode := fun _ => .region [] [⟨(some 1), .box (.tmp 0), none, []⟩,
    ⟨(some 2), .mv (.const (.bool false)), none, []⟩] [1]
def m_impl_IsValidOp_2 : Unit → MCode := fun _ => .region [] [⟨(some 3), .fa (.tmp 1) 0, none, []⟩,
    ⟨(some 4), .ld (.tmp 3) 1 false, none, []⟩,
    ⟨(some 5), .call 71 [(.tmp 4), (.const (.int .i64 0)), (.const (.int .i64 2))], none, []⟩,
    ⟨(some 6), .not (.tmp 5), none, []⟩,
    ⟨(some 7), .mv (.tmp 6), none, []⟩,
    ⟨(some 8), .fa (.tmp 1) 1, (some (7, false)), []⟩,
    ⟨(some 9), .ld (.tmp 8) 1 false, (some (7, false)), []⟩,
    ⟨(some 10), .call 71 [(.tmp 9), (.const (.int .i64 1)), (.const (.int .i64 99))], (some (7, false)), []⟩,
    ⟨(some 11), .not (.tmp 10), (some (7, false)), []⟩,
    ⟨(some 12), .pick (.tmp 7) (.const (.bool true)) (.tmp 11), none, []⟩,
    ⟨(some 13), .mv (.tmp 12), none, []⟩,
    ⟨(some 14), .fa (.tmp 1) 3, (some (13, false)), []⟩,
    ⟨(some 15), .ld (.tmp 14) 1 false, (some (13, false)), []⟩,
    ⟨(some 16), .call 71 [(.tmp 15), (.const (.int .i64 0)), (.const (.int .i64 2))], (some (13, false)), []⟩,
    ⟨(some 17), .not (.tmp 16), (some (13, false)), []⟩,
    ⟨(some 18), .pick (.tmp 13) (.const (.bool true)) (.tmp 17), none, []⟩,
    ⟨(some 19), .mv (.tmp 18), none, []⟩,
    ⟨(some 20), .fa (.tmp 1) 5, (some (19, false)), []⟩,
    ⟨(some 21), .ld (.tmp 20) 1 false, (some (19, false)), []⟩,
    ⟨(some 22), .call 71 [(.tmp 21), (.const (.int .i64 0)), (.const (.int .i64 9))], (some (19, false)), []⟩,
    ⟨(some 23), .not (.tmp 22), (some (19, false)), []⟩,
    ⟨(some 24), .pick (.tmp 19) (.const (.bool true)) (.tmp 23), none, []⟩] [1, 24]
def m_impl_IsValidOp_3 : Unit → MCode := fun _ => .region [] [⟨(some 2), .mv (.const (.bool false)), none, []⟩] [2]
def m_impl_IsValidOp_4 : Unit → MCode := fun _ => .seq m_impl_IsValidOp_3 (fun _ => .ret)
def m_impl_IsValidOp_5 : Unit → MCode := fun _ => .cond (.tmp 24) m_impl_IsValidOp_4 (fun _ => .skip)
def m_impl_IsValidOp_6 : Unit → MCode := fun _ => .seq m_impl_IsValidOp_2 m_impl_IsValidOp_5
def m_impl_IsValidOp_7 : Unit → MCode := fun _ => .region [] [⟨(some 25), .fa (.tmp 1) 2, none, []⟩,
    ⟨(some 26), .ld (.tmp 25) 1 false, none, []⟩,
    ⟨(some 27), .bin .eql (.tmp 26) (.const (.int .i64 1)), none, []⟩,
    ⟨(some 28), .mv (.tmp 27), none, []⟩,
    ⟨(some 29), .fa (.tmp 1) 4, (some (28, true)), []⟩,
    ⟨(some 30), .ld (.tmp 29) 1 false, (some (28, true)), []⟩,
    ⟨(some 31), .bin .eql (.tmp 30) (.const (.int .i64 0)), (some (28, true)), []⟩,
    ⟨(some 32), .pick (.tmp 28) (.tmp 31) (.const (.bool false)), none, []⟩,
    ⟨(some 33), .mv (.tmp 32), none, []⟩,
    ⟨(some 34), .fa (.tmp 1) 2, (some (33, false)), []⟩,
    ⟨(some 35), .ld (.tmp 34) 1 false, (some (33, false)), []⟩,
    ⟨(some 36), .bin .eql (.tmp 35) (.const (.int .i64 2)), (some (33, false)), []⟩,
    ⟨(some 37), .mv (.tmp 36), (some (33, false)), []⟩,
    ⟨(some 38), .fa (.tmp 1) 4, (some (37, true)), []⟩,
    ⟨(some 39), .ld (.tmp 38) 1 false, (some (37, true)), []⟩,
    ⟨(some 40), .call 71 [(.tmp 39), (.const (.int .i64 0)), (.const (.int .i64 9))], (some (37, true)), []⟩,
    ⟨(some 41), .pick (.tmp 37) (.tmp 40) (.const (.bool false)), (some (33, false)), []⟩,
    ⟨(some 42), .pick (.tmp 33) (.const (.bool true)) (.tmp 41), none, []⟩,
    ⟨(some 2), .mv (.tmp 42), none, []⟩] [2]
def m_impl_IsValidOp_8 : Unit → MCode := fun _ => .seq m_impl_IsValidOp_7 (fun _ => .ret)
def m_impl_IsValidOp_9 : Unit → MCode := fun _ => .seq m_impl_IsValidOp_6 m_impl_IsValidOp_8
def m_impl_IsValidOp_10 : Unit → MCode := fun _ => .seq m_impl_IsValidOp_1 m_impl_IsValidOp_9
def m_impl_IsValidOp : MCode := m_impl_IsValidOp_10 ()
def h_impl_IsValidOp : Hints := [(0, [1], [], [], []), (1, [1, 24], [], [], []), (2, [2], [], [], []), (3, [2], [], [], [])]
def r_impl_IsValidOp : List RV := [.t 2]
abbrev n_impl_IsValidOp : Nat := 111
theorem k_impl_IsValidOp : Known Pr mu n_impl_IsValidOp m_impl_IsValidOp r_impl_IsValidOp Go.Proofs.Try.f111.ntmps := .of h_impl_IsValidOp hm Go.Proofs.Try.func111 (by kernel_rfl) (by kernel_rfl) (by kernel_rfl) (by kernel_rfl)
end Go.V.T
