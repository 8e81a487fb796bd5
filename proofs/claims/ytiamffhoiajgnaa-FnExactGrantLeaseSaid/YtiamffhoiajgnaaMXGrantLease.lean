/- The short code of the functions that FnExactGrantLease reaches, held against the program. Conditions: none. -/
import Derived.Test.YtiamffhoiajgnaaV4
import Derived.Test.YtiamffhoiajgnaaProg
namespace Go.V.T
open Go Go.V
noncomputable abbrev Pr := Go.Proofs.Try.prog
def mu : Nat → Bool := fun _ => false
theorem hm : Pr.follows .mixedOrders = true := by kernel_rfl
def m_laws_FnExactGrantLease_1 : Unit → MCode := fun _ => .region [⟨(some 5), .box (.tmp 0), none, []⟩,
    ⟨(some 10), .mv (.const (.bool false)), none, []⟩] [1, 2, 3, 4, 5]
def m_laws_FnExactGrantLease_2 : Unit → MCode := fun _ => .region [⟨(some 16), .ld (.tmp 5) 3 true, none, []⟩,
    ⟨(some 17), .call 16 [(.tmp 16)], none, []⟩,
    ⟨(some 18), .mv (.tmp 1), none, []⟩,
    ⟨(some 19), .mv (.tmp 2), none, []⟩,
    ⟨(some 20), .mv (.tmp 3), none, []⟩,
    ⟨(some 21), .mv (.tmp 4), none, []⟩,
    ⟨(some 22), .call 15 [(.tmp 17), (.tmp 18), (.tmp 19), (.tmp 20), (.tmp 21)], none, []⟩,
    ⟨(some 15), .mv (.tmp 22), none, []⟩,
    ⟨(some 23), .ext (.tmp 15) 0, none, []⟩,
    ⟨(some 24), .ext (.tmp 15) 1, none, []⟩,
    ⟨(some 11), .alloc [.int .i64 0, .int .i64 0, .int .i64 0], none, []⟩,
    ⟨none, .sto (.tmp 11) (.tmp 23) 3, none, []⟩,
    ⟨(some 12), .mv (.tmp 24), none, []⟩] [1, 2, 3, 4, 5, 11, 12]
def m_laws_FnExactGrantLease_3 : Unit → MCode := fun _ => .region [⟨(some 26), .ld (.tmp 5) 3 true, none, []⟩,
    ⟨(some 27), .call 16 [(.tmp 26)], none, []⟩,
    ⟨(some 28), .mv (.tmp 1), none, []⟩,
    ⟨(some 29), .mv (.tmp 2), none, []⟩,
    ⟨(some 30), .mv (.tmp 3), none, []⟩,
    ⟨(some 31), .mv (.tmp 4), none, []⟩,
    ⟨(some 32), .call 17 [(.tmp 27), (.tmp 28), (.tmp 29), (.tmp 30), (.tmp 31)], none, []⟩,
    ⟨(some 25), .mv (.tmp 32), none, []⟩,
    ⟨(some 33), .ext (.tmp 25) 0, none, []⟩,
    ⟨(some 34), .ext (.tmp 25) 1, none, []⟩,
    ⟨(some 13), .alloc [.int .i64 0, .int .i64 0, .int .i64 0], none, []⟩,
    ⟨none, .sto (.tmp 13) (.tmp 33) 3, none, []⟩,
    ⟨(some 14), .mv (.tmp 34), none, []⟩] [11, 12, 13, 14]
def m_laws_FnExactGrantLease_4 : Unit → MCode := fun _ => .region [⟨(some 35), .ld (.tmp 13) 3 true, none, []⟩,
    ⟨(some 36), .ld (.tmp 11) 3 true, none, []⟩,
    ⟨(some 37), .call 18 [(.tmp 35), (.tmp 36)], none, []⟩,
    ⟨(some 38), .not (.tmp 37), none, []⟩,
    ⟨(some 39), .mv (.tmp 38), none, []⟩,
    ⟨(some 40), .mv (.tmp 14), (some (39, false)), []⟩,
    ⟨(some 41), .mv (.tmp 12), (some (39, false)), []⟩,
    ⟨(some 42), .bbin .neq (.tmp 40) (.tmp 41), (some (39, false)), []⟩,
    ⟨(some 43), .pick (.tmp 39) (.const (.bool true)) (.tmp 42), none, []⟩] [43]
def m_laws_FnExactGrantLease_5 : Unit → MCode := fun _ => .region [⟨(some 10), .mv (.const (.bool false)), none, []⟩] [10]
def m_laws_FnExactGrantLease_6 : Unit → MCode := fun _ => .seq m_laws_FnExactGrantLease_5 (fun _ => .ret)
def m_laws_FnExactGrantLease_7 : Unit → MCode := fun _ => .cond (.tmp 43) m_laws_FnExactGrantLease_6 (fun _ => .skip)
def m_laws_FnExactGrantLease_8 : Unit → MCode := fun _ => .seq m_laws_FnExactGrantLease_4 m_laws_FnExactGrantLease_7
def m_laws_FnExactGrantLease_9 : Unit → MCode := fun _ => .region [⟨(some 10), .mv (.const (.bool true)), none, []⟩] [10]
def m_laws_FnExactGrantLease_10 : Unit → MCode := fun _ => .seq m_laws_FnExactGrantLease_9 (fun _ => .ret)
def m_laws_FnExactGrantLease_11 : Unit → MCode := fun _ => .seq m_laws_FnExactGrantLease_8 m_laws_FnExactGrantLease_10
def m_laws_FnExactGrantLease_12 : Unit → MCode := fun _ => .seq m_laws_FnExactGrantLease_3 m_laws_FnExactGrantLease_11
def m_laws_FnExactGrantLease_13 : Unit → MCode := fun _ => .seq m_laws_FnExactGrantLease_2 m_laws_FnExactGrantLease_12
def m_laws_FnExactGrantLease_14 : Unit → MCode := fun _ => .seq m_laws_FnExactGrantLease_1 m_laws_FnExactGrantLease_13
def m_laws_FnExactGrantLease : MCode := m_laws_FnExactGrantLease_14 ()
def h_laws_FnExactGrantLease : Hints := [(0, [1, 2, 3, 4, 5], []), (1, [1, 2, 3, 4, 5, 11, 12], []), (2, [11, 12, 13, 14], []), (3, [43], []), (4, [10], []), (5, [10], [])]
def r_laws_FnExactGrantLease : List RV := [.t 10]
abbrev n_laws_FnExactGrantLease : Nat := 3
theorem k_laws_FnExactGrantLease : Known Pr mu n_laws_FnExactGrantLease m_laws_FnExactGrantLease r_laws_FnExactGrantLease Go.Proofs.Try.f3.ntmps := .of h_laws_FnExactGrantLease hm Go.Proofs.Try.func3 (by kernel_rfl) (by kernel_rfl) (by kernel_rfl) (by kernel_rfl)
def m_spec_GrantLease_1 : Unit → MCode := fun _ => .region [⟨(some 5), .box (.tmp 0), none, []⟩,
    ⟨(some 10), .alloc [.int .i64 0, .int .i64 0, .int .i64 0], none, []⟩,
    ⟨(some 11), .mv (.const (.bool false)), none, []⟩] [1, 2, 3, 4, 5, 10]
def m_spec_GrantLease_2 : Unit → MCode := fun _ => .region [⟨(some 14), .fa (.tmp 5) 0, none, []⟩,
    ⟨(some 15), .ld (.tmp 14) 1 false, none, []⟩,
    ⟨(some 16), .mv (.tmp 1), none, []⟩,
    ⟨(some 17), .bin .eql (.tmp 15) (.tmp 16), none, []⟩,
    ⟨(some 18), .mv (.tmp 17), none, []⟩,
    ⟨(some 19), .fa (.tmp 5) 1, (some (18, true)), []⟩,
    ⟨(some 20), .ld (.tmp 19) 1 false, (some (18, true)), []⟩,
    ⟨(some 21), .mv (.tmp 2), (some (18, true)), []⟩,
    ⟨(some 22), .bin .eql (.tmp 20) (.tmp 21), (some (18, true)), []⟩,
    ⟨(some 23), .pick (.tmp 18) (.tmp 22) (.const (.bool false)), none, []⟩,
    ⟨(some 12), .mv (.tmp 23), none, []⟩] [1, 2, 3, 4, 5, 10, 12]
def m_spec_GrantLease_3 : Unit → MCode := fun _ => .region [⟨(some 24), .ld (.tmp 5) 3 true, none, []⟩,
    ⟨(some 25), .call 67 [(.tmp 24)], none, []⟩,
    ⟨(some 26), .not (.tmp 25), none, []⟩,
    ⟨(some 27), .mv (.tmp 26), none, []⟩,
    ⟨(some 28), .mv (.tmp 1), (some (27, false)), []⟩,
    ⟨(some 29), .call 68 [(.tmp 28), (.const (.int .i64 1)), (.const (.int .i64 20))], (some (27, false)), []⟩,
    ⟨(some 30), .not (.tmp 29), (some (27, false)), []⟩,
    ⟨(some 31), .pick (.tmp 27) (.const (.bool true)) (.tmp 30), none, []⟩,
    ⟨(some 32), .mv (.tmp 31), none, []⟩,
    ⟨(some 33), .mv (.tmp 2), (some (32, false)), []⟩,
    ⟨(some 34), .call 68 [(.tmp 33), (.const (.int .i64 0)), (.const (.int .i64 4))], (some (32, false)), []⟩,
    ⟨(some 35), .not (.tmp 34), (some (32, false)), []⟩,
    ⟨(some 36), .pick (.tmp 32) (.const (.bool true)) (.tmp 35), none, []⟩,
    ⟨(some 37), .mv (.tmp 36), none, []⟩,
    ⟨(some 38), .mv (.tmp 3), (some (37, false)), []⟩,
    ⟨(some 39), .call 68 [(.tmp 38), (.const (.int .i64 0)), (.const (.int .i64 999))], (some (37, false)), []⟩,
    ⟨(some 40), .not (.tmp 39), (some (37, false)), []⟩,
    ⟨(some 41), .pick (.tmp 37) (.const (.bool true)) (.tmp 40), none, []⟩,
    ⟨(some 42), .mv (.tmp 41), none, []⟩,
    ⟨(some 43), .mv (.tmp 4), (some (42, false)), []⟩,
    ⟨(some 44), .call 68 [(.tmp 43), (.const (.int .i64 1)), (.const (.int .i64 50))], (some (42, false)), []⟩,
    ⟨(some 45), .not (.tmp 44), (some (42, false)), []⟩,
    ⟨(some 46), .pick (.tmp 42) (.const (.bool true)) (.tmp 45), none, []⟩] [1, 2, 3, 4, 5, 10, 12, 46]
def m_spec_GrantLease_4 : Unit → MCode := fun _ => .region [⟨(some 47), .ld (.tmp 5) 3 true, none, []⟩,
    ⟨none, .sto (.tmp 10) (.tmp 47) 3, none, []⟩,
    ⟨(some 11), .mv (.const (.bool false)), none, []⟩] [10, 11]
def m_spec_GrantLease_5 : Unit → MCode := fun _ => .seq m_spec_GrantLease_4 (fun _ => .ret)
def m_spec_GrantLease_6 : Unit → MCode := fun _ => .cond (.tmp 46) m_spec_GrantLease_5 (fun _ => .skip)
def m_spec_GrantLease_7 : Unit → MCode := fun _ => .seq m_spec_GrantLease_3 m_spec_GrantLease_6
def m_spec_GrantLease_8 : Unit → MCode := fun _ => .region [⟨(some 48), .ld (.tmp 5) 3 true, none, []⟩,
    ⟨(some 49), .mv (.tmp 3), none, []⟩,
    ⟨(some 50), .call 69 [(.tmp 48), (.tmp 49)], none, []⟩,
    ⟨(some 51), .not (.tmp 50), none, []⟩,
    ⟨(some 52), .mv (.tmp 51), none, []⟩,
    ⟨(some 53), .mv (.tmp 12), (some (52, true)), []⟩,
    ⟨(some 54), .not (.tmp 53), (some (52, true)), []⟩,
    ⟨(some 55), .pick (.tmp 52) (.tmp 54) (.const (.bool false)), none, []⟩] [1, 2, 3, 4, 5, 10, 12, 55]
def m_spec_GrantLease_9 : Unit → MCode := fun _ => .region [⟨(some 56), .ld (.tmp 5) 3 true, none, []⟩,
    ⟨none, .sto (.tmp 10) (.tmp 56) 3, none, []⟩,
    ⟨(some 11), .mv (.const (.bool false)), none, []⟩] [10, 11]
def m_spec_GrantLease_10 : Unit → MCode := fun _ => .seq m_spec_GrantLease_9 (fun _ => .ret)
def m_spec_GrantLease_11 : Unit → MCode := fun _ => .cond (.tmp 55) m_spec_GrantLease_10 (fun _ => .skip)
def m_spec_GrantLease_12 : Unit → MCode := fun _ => .seq m_spec_GrantLease_8 m_spec_GrantLease_11
def m_spec_GrantLease_13 : Unit → MCode := fun _ => .region [⟨(some 57), .mv (.tmp 3), none, []⟩,
    ⟨(some 58), .mv (.tmp 4), none, []⟩,
    ⟨(some 59), .bin .add (.tmp 57) (.tmp 58), none, []⟩,
    ⟨(some 13), .mv (.tmp 59), none, []⟩] [1, 2, 5, 10, 12, 13]
def m_spec_GrantLease_14 : Unit → MCode := fun _ => .region [⟨(some 60), .mv (.tmp 12), none, []⟩] [1, 2, 5, 10, 13, 60]
def m_spec_GrantLease_15 : Unit → MCode := fun _ => .region [⟨(some 61), .mv (.tmp 13), none, []⟩,
    ⟨(some 62), .fa (.tmp 5) 2, none, []⟩,
    ⟨(some 63), .ld (.tmp 62) 1 false, none, []⟩,
    ⟨(some 64), .mx true (.tmp 61) (.tmp 63), none, []⟩,
    ⟨(some 13), .mv (.tmp 64), none, []⟩] [1, 2, 10, 13]
def m_spec_GrantLease_16 : Unit → MCode := fun _ => .cond (.tmp 60) m_spec_GrantLease_15 (fun _ => .skip)
def m_spec_GrantLease_17 : Unit → MCode := fun _ => .seq m_spec_GrantLease_14 m_spec_GrantLease_16
def m_spec_GrantLease_18 : Unit → MCode := fun _ => .region [⟨(some 65), .mv (.tmp 1), none, []⟩,
    ⟨(some 66), .mv (.tmp 2), none, []⟩,
    ⟨(some 67), .mv (.tmp 13), none, []⟩,
    ⟨(some 68), .bld [.int .i64 0, .int .i64 0, .int .i64 0] [(0, 1, (.tmp 65)), (1, 1, (.tmp 66)), (2, 1, (.tmp 67))], none, []⟩,
    ⟨none, .sto (.tmp 10) (.tmp 68) 3, none, []⟩,
    ⟨(some 11), .mv (.const (.bool true)), none, []⟩] [10, 11]
def m_spec_GrantLease_19 : Unit → MCode := fun _ => .seq m_spec_GrantLease_18 (fun _ => .ret)
def m_spec_GrantLease_20 : Unit → MCode := fun _ => .seq m_spec_GrantLease_17 m_spec_GrantLease_19
def m_spec_GrantLease_21 : Unit → MCode := fun _ => .seq m_spec_GrantLease_13 m_spec_GrantLease_20
def m_spec_GrantLease_22 : Unit → MCode := fun _ => .seq m_spec_GrantLease_12 m_spec_GrantLease_21
def m_spec_GrantLease_23 : Unit → MCode := fun _ => .seq m_spec_GrantLease_7 m_spec_GrantLease_22
def m_spec_GrantLease_24 : Unit → MCode := fun _ => .seq m_spec_GrantLease_2 m_spec_GrantLease_23
def m_spec_GrantLease_25 : Unit → MCode := fun _ => .seq m_spec_GrantLease_1 m_spec_GrantLease_24
def m_spec_GrantLease : MCode := m_spec_GrantLease_25 ()
def h_spec_GrantLease : Hints := [(0, [1, 2, 3, 4, 5, 10], []), (1, [1, 2, 3, 4, 5, 10, 12], []), (2, [1, 2, 3, 4, 5, 10, 12, 46], []), (3, [10, 11], []), (4, [1, 2, 3, 4, 5, 10, 12, 55], []), (5, [10, 11], []), (6, [1, 2, 5, 10, 12, 13], []), (7, [1, 2, 5, 10, 13, 60], []), (8, [1, 2, 10, 13], []), (9, [10, 11], [])]
def r_spec_GrantLease : List RV := [.c 10 3 true, .t 11]
abbrev n_spec_GrantLease : Nat := 15
theorem k_spec_GrantLease : Known Pr mu n_spec_GrantLease m_spec_GrantLease r_spec_GrantLease Go.Proofs.Try.f15.ntmps := .of h_spec_GrantLease hm Go.Proofs.Try.func15 (by kernel_rfl) (by kernel_rfl) (by kernel_rfl) (by kernel_rfl)
def m_laws_toLease_1 : Unit → MCode := fun _ => .region [⟨(some 1), .box (.tmp 0), none, []⟩,
    ⟨(some 2), .alloc [.int .i64 0, .int .i64 0, .int .i64 0], none, []⟩] [1, 2]
def m_laws_toLease_2 : Unit → MCode := fun _ => .region [⟨(some 3), .alloc [.int .i64 0, .int .i64 0, .int .i64 0], none, []⟩] [1, 2, 3]
def m_laws_toLease_3 : Unit → MCode := fun _ => .region [⟨(some 4), .fa (.tmp 1) 0, none, []⟩,
    ⟨(some 5), .ld (.tmp 4) 1 false, none, []⟩,
    ⟨(some 6), .fa (.tmp 3) 0, none, []⟩,
    ⟨none, .sto (.tmp 6) (.tmp 5) 1, none, []⟩] [1, 2, 3]
def m_laws_toLease_4 : Unit → MCode := fun _ => .region [⟨(some 7), .fa (.tmp 1) 1, none, []⟩,
    ⟨(some 8), .ld (.tmp 7) 1 false, none, []⟩,
    ⟨(some 9), .fa (.tmp 3) 1, none, []⟩,
    ⟨none, .sto (.tmp 9) (.tmp 8) 1, none, []⟩] [1, 2, 3]
def m_laws_toLease_5 : Unit → MCode := fun _ => .region [⟨(some 10), .fa (.tmp 1) 2, none, []⟩,
    ⟨(some 11), .ld (.tmp 10) 1 false, none, []⟩,
    ⟨(some 12), .fa (.tmp 3) 2, none, []⟩,
    ⟨none, .sto (.tmp 12) (.tmp 11) 1, none, []⟩] [2, 3]
def m_laws_toLease_6 : Unit → MCode := fun _ => .region [⟨(some 13), .ld (.tmp 3) 3 true, none, []⟩,
    ⟨none, .sto (.tmp 2) (.tmp 13) 3, none, []⟩] [2]
def m_laws_toLease_7 : Unit → MCode := fun _ => .seq m_laws_toLease_6 (fun _ => .ret)
def m_laws_toLease_8 : Unit → MCode := fun _ => .seq m_laws_toLease_5 m_laws_toLease_7
def m_laws_toLease_9 : Unit → MCode := fun _ => .seq m_laws_toLease_4 m_laws_toLease_8
def m_laws_toLease_10 : Unit → MCode := fun _ => .seq m_laws_toLease_3 m_laws_toLease_9
def m_laws_toLease_11 : Unit → MCode := fun _ => .seq m_laws_toLease_2 m_laws_toLease_10
def m_laws_toLease_12 : Unit → MCode := fun _ => .seq m_laws_toLease_1 m_laws_toLease_11
def m_laws_toLease : MCode := m_laws_toLease_12 ()
def h_laws_toLease : Hints := [(0, [1, 2], []), (1, [1, 2, 3], []), (2, [1, 2, 3], []), (3, [1, 2, 3], []), (4, [2, 3], []), (5, [2], [])]
def r_laws_toLease : List RV := [.c 2 3 true]
abbrev n_laws_toLease : Nat := 16
theorem k_laws_toLease : Known Pr mu n_laws_toLease m_laws_toLease r_laws_toLease Go.Proofs.Try.f16.ntmps := .of h_laws_toLease hm Go.Proofs.Try.func16 (by kernel_rfl) (by kernel_rfl) (by kernel_rfl) (by kernel_rfl)
def m_impl_GrantLease_1 : Unit → MCode := fun _ => .region [⟨(some 5), .box (.tmp 0), none, []⟩,
    ⟨(some 10), .alloc [.int .i64 0, .int .i64 0, .int .i64 0], none, []⟩,
    ⟨(some 11), .mv (.const (.bool false)), none, []⟩] [1, 2, 3, 4, 5, 10]
def m_impl_GrantLease_2 : Unit → MCode := fun _ => .region [⟨(some 14), .fa (.tmp 5) 0, none, []⟩,
    ⟨(some 15), .ld (.tmp 14) 1 false, none, []⟩,
    ⟨(some 16), .mv (.tmp 1), none, []⟩,
    ⟨(some 17), .bin .eql (.tmp 15) (.tmp 16), none, []⟩,
    ⟨(some 18), .mv (.tmp 17), none, []⟩,
    ⟨(some 19), .fa (.tmp 5) 1, (some (18, true)), []⟩,
    ⟨(some 20), .ld (.tmp 19) 1 false, (some (18, true)), []⟩,
    ⟨(some 21), .mv (.tmp 2), (some (18, true)), []⟩,
    ⟨(some 22), .bin .eql (.tmp 20) (.tmp 21), (some (18, true)), []⟩,
    ⟨(some 23), .pick (.tmp 18) (.tmp 22) (.const (.bool false)), none, []⟩,
    ⟨(some 12), .mv (.tmp 23), none, []⟩] [1, 2, 3, 4, 5, 10, 12]
def m_impl_GrantLease_3 : Unit → MCode := fun _ => .region [⟨(some 24), .ld (.tmp 5) 3 true, none, []⟩,
    ⟨(some 25), .call 70 [(.tmp 24)], none, []⟩,
    ⟨(some 26), .not (.tmp 25), none, []⟩,
    ⟨(some 27), .mv (.tmp 26), none, []⟩,
    ⟨(some 28), .mv (.tmp 1), (some (27, false)), []⟩,
    ⟨(some 29), .call 71 [(.tmp 28), (.const (.int .i64 1)), (.const (.int .i64 20))], (some (27, false)), []⟩,
    ⟨(some 30), .not (.tmp 29), (some (27, false)), []⟩,
    ⟨(some 31), .pick (.tmp 27) (.const (.bool true)) (.tmp 30), none, []⟩,
    ⟨(some 32), .mv (.tmp 31), none, []⟩,
    ⟨(some 33), .mv (.tmp 2), (some (32, false)), []⟩,
    ⟨(some 34), .call 71 [(.tmp 33), (.const (.int .i64 0)), (.const (.int .i64 4))], (some (32, false)), []⟩,
    ⟨(some 35), .not (.tmp 34), (some (32, false)), []⟩,
    ⟨(some 36), .pick (.tmp 32) (.const (.bool true)) (.tmp 35), none, []⟩,
    ⟨(some 37), .mv (.tmp 36), none, []⟩,
    ⟨(some 38), .mv (.tmp 3), (some (37, false)), []⟩,
    ⟨(some 39), .call 71 [(.tmp 38), (.const (.int .i64 0)), (.const (.int .i64 999))], (some (37, false)), []⟩,
    ⟨(some 40), .not (.tmp 39), (some (37, false)), []⟩,
    ⟨(some 41), .pick (.tmp 37) (.const (.bool true)) (.tmp 40), none, []⟩,
    ⟨(some 42), .mv (.tmp 41), none, []⟩,
    ⟨(some 43), .mv (.tmp 4), (some (42, false)), []⟩,
    ⟨(some 44), .call 71 [(.tmp 43), (.const (.int .i64 1)), (.const (.int .i64 50))], (some (42, false)), []⟩,
    ⟨(some 45), .not (.tmp 44), (some (42, false)), []⟩,
    ⟨(some 46), .pick (.tmp 42) (.const (.bool true)) (.tmp 45), none, []⟩,
    ⟨(some 47), .mv (.tmp 46), none, []⟩,
    ⟨(some 48), .mv (.tmp 12), (some (47, false)), []⟩,
    ⟨(some 49), .not (.tmp 48), (some (47, false)), []⟩,
    ⟨(some 50), .mv (.tmp 49), (some (47, false)), []⟩,
    ⟨(some 51), .ld (.tmp 5) 3 true, (some (50, true)), []⟩,
    ⟨(some 52), .mv (.tmp 3), (some (50, true)), []⟩,
    ⟨(some 53), .call 72 [(.tmp 51), (.tmp 52)], (some (50, true)), []⟩,
    ⟨(some 54), .not (.tmp 53), (some (50, true)), []⟩,
    ⟨(some 55), .pick (.tmp 50) (.tmp 54) (.const (.bool false)), (some (47, false)), []⟩,
    ⟨(some 56), .pick (.tmp 47) (.const (.bool true)) (.tmp 55), none, []⟩] [1, 2, 3, 4, 5, 10, 12, 56]
def m_impl_GrantLease_4 : Unit → MCode := fun _ => .region [⟨(some 57), .ld (.tmp 5) 3 true, none, []⟩,
    ⟨none, .sto (.tmp 10) (.tmp 57) 3, none, []⟩,
    ⟨(some 11), .mv (.const (.bool false)), none, []⟩] [10, 11]
def m_impl_GrantLease_5 : Unit → MCode := fun _ => .seq m_impl_GrantLease_4 (fun _ => .ret)
def m_impl_GrantLease_6 : Unit → MCode := fun _ => .cond (.tmp 56) m_impl_GrantLease_5 (fun _ => .skip)
def m_impl_GrantLease_7 : Unit → MCode := fun _ => .seq m_impl_GrantLease_3 m_impl_GrantLease_6
def m_impl_GrantLease_8 : Unit → MCode := fun _ => .region [⟨(some 58), .mv (.tmp 3), none, []⟩,
    ⟨(some 59), .mv (.tmp 4), none, []⟩,
    ⟨(some 60), .bin .add (.tmp 58) (.tmp 59), none, []⟩,
    ⟨(some 13), .mv (.tmp 60), none, []⟩] [1, 2, 5, 10, 12, 13]
def m_impl_GrantLease_9 : Unit → MCode := fun _ => .region [⟨(some 61), .mv (.tmp 12), none, []⟩] [1, 2, 5, 10, 13, 61]
def m_impl_GrantLease_10 : Unit → MCode := fun _ => .region [⟨(some 62), .mv (.tmp 13), none, []⟩,
    ⟨(some 63), .fa (.tmp 5) 2, none, []⟩,
    ⟨(some 64), .ld (.tmp 63) 1 false, none, []⟩,
    ⟨(some 65), .mx true (.tmp 62) (.tmp 64), none, []⟩,
    ⟨(some 13), .mv (.tmp 65), none, []⟩] [1, 2, 10, 13]
def m_impl_GrantLease_11 : Unit → MCode := fun _ => .cond (.tmp 61) m_impl_GrantLease_10 (fun _ => .skip)
def m_impl_GrantLease_12 : Unit → MCode := fun _ => .seq m_impl_GrantLease_9 m_impl_GrantLease_11
def m_impl_GrantLease_13 : Unit → MCode := fun _ => .region [⟨(some 66), .mv (.tmp 1), none, []⟩,
    ⟨(some 67), .mv (.tmp 2), none, []⟩,
    ⟨(some 68), .mv (.tmp 13), none, []⟩,
    ⟨(some 69), .bld [.int .i64 0, .int .i64 0, .int .i64 0] [(0, 1, (.tmp 66)), (1, 1, (.tmp 67)), (2, 1, (.tmp 68))], none, []⟩,
    ⟨none, .sto (.tmp 10) (.tmp 69) 3, none, []⟩,
    ⟨(some 11), .mv (.const (.bool true)), none, []⟩] [10, 11]
def m_impl_GrantLease_14 : Unit → MCode := fun _ => .seq m_impl_GrantLease_13 (fun _ => .ret)
def m_impl_GrantLease_15 : Unit → MCode := fun _ => .seq m_impl_GrantLease_12 m_impl_GrantLease_14
def m_impl_GrantLease_16 : Unit → MCode := fun _ => .seq m_impl_GrantLease_8 m_impl_GrantLease_15
def m_impl_GrantLease_17 : Unit → MCode := fun _ => .seq m_impl_GrantLease_7 m_impl_GrantLease_16
def m_impl_GrantLease_18 : Unit → MCode := fun _ => .seq m_impl_GrantLease_2 m_impl_GrantLease_17
def m_impl_GrantLease_19 : Unit → MCode := fun _ => .seq m_impl_GrantLease_1 m_impl_GrantLease_18
def m_impl_GrantLease : MCode := m_impl_GrantLease_19 ()
def h_impl_GrantLease : Hints := [(0, [1, 2, 3, 4, 5, 10], []), (1, [1, 2, 3, 4, 5, 10, 12], []), (2, [1, 2, 3, 4, 5, 10, 12, 56], []), (3, [10, 11], []), (4, [1, 2, 5, 10, 12, 13], []), (5, [1, 2, 5, 10, 13, 61], []), (6, [1, 2, 10, 13], []), (7, [10, 11], [])]
def r_impl_GrantLease : List RV := [.c 10 3 true, .t 11]
abbrev n_impl_GrantLease : Nat := 17
theorem k_impl_GrantLease : Known Pr mu n_impl_GrantLease m_impl_GrantLease r_impl_GrantLease Go.Proofs.Try.f17.ntmps := .of h_impl_GrantLease hm Go.Proofs.Try.func17 (by kernel_rfl) (by kernel_rfl) (by kernel_rfl) (by kernel_rfl)
def m_laws_eqLease_1 : Unit → MCode := fun _ => .region [⟨(some 2), .box (.tmp 0), none, []⟩,
    ⟨(some 3), .box (.tmp 1), none, []⟩,
    ⟨(some 4), .mv (.const (.bool false)), none, []⟩] [2, 3]
def m_laws_eqLease_2 : Unit → MCode := fun _ => .region [⟨(some 5), .fa (.tmp 2) 0, none, []⟩,
    ⟨(some 6), .ld (.tmp 5) 1 false, none, []⟩,
    ⟨(some 7), .fa (.tmp 3) 0, none, []⟩,
    ⟨(some 8), .ld (.tmp 7) 1 false, none, []⟩,
    ⟨(some 9), .bin .neq (.tmp 6) (.tmp 8), none, []⟩] [2, 3, 9]
def m_laws_eqLease_3 : Unit → MCode := fun _ => .region [⟨(some 4), .mv (.const (.bool false)), none, []⟩] [4]
def m_laws_eqLease_4 : Unit → MCode := fun _ => .seq m_laws_eqLease_3 (fun _ => .ret)
def m_laws_eqLease_5 : Unit → MCode := fun _ => .cond (.tmp 9) m_laws_eqLease_4 (fun _ => .skip)
def m_laws_eqLease_6 : Unit → MCode := fun _ => .seq m_laws_eqLease_2 m_laws_eqLease_5
def m_laws_eqLease_7 : Unit → MCode := fun _ => .region [⟨(some 10), .fa (.tmp 2) 1, none, []⟩,
    ⟨(some 11), .ld (.tmp 10) 1 false, none, []⟩,
    ⟨(some 12), .fa (.tmp 3) 1, none, []⟩,
    ⟨(some 13), .ld (.tmp 12) 1 false, none, []⟩,
    ⟨(some 14), .bin .neq (.tmp 11) (.tmp 13), none, []⟩] [2, 3, 14]
def m_laws_eqLease_8 : Unit → MCode := fun _ => .region [⟨(some 4), .mv (.const (.bool false)), none, []⟩] [4]
def m_laws_eqLease_9 : Unit → MCode := fun _ => .seq m_laws_eqLease_8 (fun _ => .ret)
def m_laws_eqLease_10 : Unit → MCode := fun _ => .cond (.tmp 14) m_laws_eqLease_9 (fun _ => .skip)
def m_laws_eqLease_11 : Unit → MCode := fun _ => .seq m_laws_eqLease_7 m_laws_eqLease_10
def m_laws_eqLease_12 : Unit → MCode := fun _ => .region [⟨(some 15), .fa (.tmp 2) 2, none, []⟩,
    ⟨(some 16), .ld (.tmp 15) 1 false, none, []⟩,
    ⟨(some 17), .fa (.tmp 3) 2, none, []⟩,
    ⟨(some 18), .ld (.tmp 17) 1 false, none, []⟩,
    ⟨(some 19), .bin .neq (.tmp 16) (.tmp 18), none, []⟩] [19]
def m_laws_eqLease_13 : Unit → MCode := fun _ => .region [⟨(some 4), .mv (.const (.bool false)), none, []⟩] [4]
def m_laws_eqLease_14 : Unit → MCode := fun _ => .seq m_laws_eqLease_13 (fun _ => .ret)
def m_laws_eqLease_15 : Unit → MCode := fun _ => .cond (.tmp 19) m_laws_eqLease_14 (fun _ => .skip)
def m_laws_eqLease_16 : Unit → MCode := fun _ => .seq m_laws_eqLease_12 m_laws_eqLease_15
def m_laws_eqLease_17 : Unit → MCode := fun _ => .region [⟨(some 4), .mv (.const (.bool true)), none, []⟩] [4]
def m_laws_eqLease_18 : Unit → MCode := fun _ => .seq m_laws_eqLease_17 (fun _ => .ret)
def m_laws_eqLease_19 : Unit → MCode := fun _ => .seq m_laws_eqLease_16 m_laws_eqLease_18
def m_laws_eqLease_20 : Unit → MCode := fun _ => .seq m_laws_eqLease_11 m_laws_eqLease_19
def m_laws_eqLease_21 : Unit → MCode := fun _ => .seq m_laws_eqLease_6 m_laws_eqLease_20
def m_laws_eqLease_22 : Unit → MCode := fun _ => .seq m_laws_eqLease_1 m_laws_eqLease_21
def m_laws_eqLease : MCode := m_laws_eqLease_22 ()
def h_laws_eqLease : Hints := [(0, [2, 3], []), (1, [2, 3, 9], []), (2, [4], []), (3, [2, 3, 14], []), (4, [4], []), (5, [19], []), (6, [4], []), (7, [4], [])]
def r_laws_eqLease : List RV := [.t 4]
abbrev n_laws_eqLease : Nat := 18
theorem k_laws_eqLease : Known Pr mu n_laws_eqLease m_laws_eqLease r_laws_eqLease Go.Proofs.Try.f18.ntmps := .of h_laws_eqLease hm Go.Proofs.Try.func18 (by kernel_rfl) (by kernel_rfl) (by kernel_rfl) (by kernel_rfl)
def m_spec_IsLease_1 : Unit → MCode := fun _ => .region [⟨(some 1), .box (.tmp 0), none, []⟩,
    ⟨(some 2), .mv (.const (.bool false)), none, []⟩] [1]
def m_spec_IsLease_2 : Unit → MCode := fun _ => .region [⟨(some 3), .ld (.tmp 1) 3 true, none, []⟩,
    ⟨(some 4), .bld [.int .i64 0, .int .i64 0, .int .i64 0] [], none, []⟩,
    ⟨(some 5), .aeq false [.i, .i, .i] (.tmp 3) (.tmp 4), none, []⟩] [1, 5]
def m_spec_IsLease_3 : Unit → MCode := fun _ => .region [⟨(some 2), .mv (.const (.bool true)), none, []⟩] [2]
def m_spec_IsLease_4 : Unit → MCode := fun _ => .seq m_spec_IsLease_3 (fun _ => .ret)
def m_spec_IsLease_5 : Unit → MCode := fun _ => .cond (.tmp 5) m_spec_IsLease_4 (fun _ => .skip)
def m_spec_IsLease_6 : Unit → MCode := fun _ => .seq m_spec_IsLease_2 m_spec_IsLease_5
def m_spec_IsLease_7 : Unit → MCode := fun _ => .region [⟨(some 6), .fa (.tmp 1) 0, none, []⟩,
    ⟨(some 7), .ld (.tmp 6) 1 false, none, []⟩,
    ⟨(some 8), .call 68 [(.tmp 7), (.const (.int .i64 1)), (.const (.int .i64 20))], none, []⟩,
    ⟨(some 9), .mv (.tmp 8), none, []⟩,
    ⟨(some 10), .fa (.tmp 1) 1, (some (9, true)), []⟩,
    ⟨(some 11), .ld (.tmp 10) 1 false, (some (9, true)), []⟩,
    ⟨(some 12), .call 68 [(.tmp 11), (.const (.int .i64 0)), (.const (.int .i64 4))], (some (9, true)), []⟩,
    ⟨(some 13), .pick (.tmp 9) (.tmp 12) (.const (.bool false)), none, []⟩,
    ⟨(some 14), .mv (.tmp 13), none, []⟩,
    ⟨(some 15), .fa (.tmp 1) 2, (some (14, true)), []⟩,
    ⟨(some 16), .ld (.tmp 15) 1 false, (some (14, true)), []⟩,
    ⟨(some 17), .call 68 [(.tmp 16), (.const (.int .i64 1)), (.const (.int .i64 1049))], (some (14, true)), []⟩,
    ⟨(some 18), .pick (.tmp 14) (.tmp 17) (.const (.bool false)), none, []⟩,
    ⟨(some 2), .mv (.tmp 18), none, []⟩] [2]
def m_spec_IsLease_8 : Unit → MCode := fun _ => .seq m_spec_IsLease_7 (fun _ => .ret)
def m_spec_IsLease_9 : Unit → MCode := fun _ => .seq m_spec_IsLease_6 m_spec_IsLease_8
def m_spec_IsLease_10 : Unit → MCode := fun _ => .seq m_spec_IsLease_1 m_spec_IsLease_9
def m_spec_IsLease : MCode := m_spec_IsLease_10 ()
def h_spec_IsLease : Hints := [(0, [1], []), (1, [1, 5], []), (2, [2], []), (3, [2], [])]
def r_spec_IsLease : List RV := [.t 2]
abbrev n_spec_IsLease : Nat := 67
theorem k_spec_IsLease : Known Pr mu n_spec_IsLease m_spec_IsLease r_spec_IsLease Go.Proofs.Try.f67.ntmps := .of h_spec_IsLease hm Go.Proofs.Try.func67 (by kernel_rfl) (by kernel_rfl) (by kernel_rfl) (by kernel_rfl)
def m_spec_l1In_1 : Unit → MCode := fun _ => .region [⟨(some 6), .mv (.const (.bool false)), none, []⟩] [0, 1, 2]
def m_spec_l1In_2 : Unit → MCode := fun _ => .region [⟨(some 7), .mv (.tmp 0), none, []⟩,
    ⟨(some 8), .mv (.tmp 1), none, []⟩,
    ⟨(some 9), .bin .geq (.tmp 7) (.tmp 8), none, []⟩,
    ⟨(some 10), .mv (.tmp 9), none, []⟩,
    ⟨(some 11), .mv (.tmp 0), (some (10, true)), []⟩,
    ⟨(some 12), .mv (.tmp 2), (some (10, true)), []⟩,
    ⟨(some 13), .bin .leq (.tmp 11) (.tmp 12), (some (10, true)), []⟩,
    ⟨(some 14), .pick (.tmp 10) (.tmp 13) (.const (.bool false)), none, []⟩,
    ⟨(some 6), .mv (.tmp 14), none, []⟩] [6]
def m_spec_l1In_3 : Unit → MCode := fun _ => .seq m_spec_l1In_2 (fun _ => .ret)
def m_spec_l1In_4 : Unit → MCode := fun _ => .seq m_spec_l1In_1 m_spec_l1In_3
def m_spec_l1In : MCode := m_spec_l1In_4 ()
def h_spec_l1In : Hints := [(0, [0, 1, 2], []), (1, [6], [])]
def r_spec_l1In : List RV := [.t 6]
abbrev n_spec_l1In : Nat := 68
theorem k_spec_l1In : Known Pr mu n_spec_l1In m_spec_l1In r_spec_l1In Go.Proofs.Try.f68.ntmps := .of h_spec_l1In hm Go.Proofs.Try.func68 (by kernel_rfl) (by kernel_rfl) (by kernel_rfl) (by kernel_rfl)
def m_spec_LeaseIsOver_1 : Unit → MCode := fun _ => .region [⟨(some 2), .box (.tmp 0), none, []⟩,
    ⟨(some 4), .mv (.const (.bool false)), none, []⟩] [1, 2]
def m_spec_LeaseIsOver_2 : Unit → MCode := fun _ => .region [⟨(some 5), .ld (.tmp 2) 3 true, none, []⟩,
    ⟨(some 6), .call 67 [(.tmp 5)], none, []⟩,
    ⟨(some 7), .mv (.tmp 6), none, []⟩,
    ⟨(some 8), .mv (.tmp 1), (some (7, true)), []⟩,
    ⟨(some 9), .call 68 [(.tmp 8), (.const (.int .i64 0)), (.const (.int .i64 999))], (some (7, true)), []⟩,
    ⟨(some 10), .pick (.tmp 7) (.tmp 9) (.const (.bool false)), none, []⟩,
    ⟨(some 11), .mv (.tmp 10), none, []⟩,
    ⟨(some 12), .mv (.tmp 1), (some (11, true)), []⟩,
    ⟨(some 13), .ld (.tmp 2) 3 true, (some (11, true)), []⟩,
    ⟨(some 14), .call 104 [(.tmp 13)], (some (11, true)), []⟩,
    ⟨(some 15), .bin .geq (.tmp 12) (.tmp 14), (some (11, true)), []⟩,
    ⟨(some 16), .pick (.tmp 11) (.tmp 15) (.const (.bool false)), none, []⟩,
    ⟨(some 4), .mv (.tmp 16), none, []⟩] [4]
def m_spec_LeaseIsOver_3 : Unit → MCode := fun _ => .seq m_spec_LeaseIsOver_2 (fun _ => .ret)
def m_spec_LeaseIsOver_4 : Unit → MCode := fun _ => .seq m_spec_LeaseIsOver_1 m_spec_LeaseIsOver_3
def m_spec_LeaseIsOver : MCode := m_spec_LeaseIsOver_4 ()
def h_spec_LeaseIsOver : Hints := [(0, [1, 2], []), (1, [4], [])]
def r_spec_LeaseIsOver : List RV := [.t 4]
abbrev n_spec_LeaseIsOver : Nat := 69
theorem k_spec_LeaseIsOver : Known Pr mu n_spec_LeaseIsOver m_spec_LeaseIsOver r_spec_LeaseIsOver Go.Proofs.Try.f69.ntmps := .of h_spec_LeaseIsOver hm Go.Proofs.Try.func69 (by kernel_rfl) (by kernel_rfl) (by kernel_rfl) (by kernel_rfl)
def m_impl_IsLease_1 : Unit → MCode := fun _ => .region [⟨(some 1), .box (.tmp 0), none, []⟩,
    ⟨(some 2), .mv (.const (.bool false)), none, []⟩] [1]
def m_impl_IsLease_2 : Unit → MCode := fun _ => .region [⟨(some 3), .ld (.tmp 1) 3 true, none, []⟩,
    ⟨(some 4), .bld [.int .i64 0, .int .i64 0, .int .i64 0] [], none, []⟩,
    ⟨(some 5), .aeq false [.i, .i, .i] (.tmp 3) (.tmp 4), none, []⟩,
    ⟨(some 6), .mv (.tmp 5), none, []⟩,
    ⟨(some 7), .fa (.tmp 1) 0, (some (6, false)), []⟩,
    ⟨(some 8), .ld (.tmp 7) 1 false, (some (6, false)), []⟩,
    ⟨(some 9), .call 71 [(.tmp 8), (.const (.int .i64 1)), (.const (.int .i64 20))], (some (6, false)), []⟩,
    ⟨(some 10), .mv (.tmp 9), (some (6, false)), []⟩,
    ⟨(some 11), .fa (.tmp 1) 1, (some (10, true)), []⟩,
    ⟨(some 12), .ld (.tmp 11) 1 false, (some (10, true)), []⟩,
    ⟨(some 13), .call 71 [(.tmp 12), (.const (.int .i64 0)), (.const (.int .i64 4))], (some (10, true)), []⟩,
    ⟨(some 14), .pick (.tmp 10) (.tmp 13) (.const (.bool false)), (some (6, false)), []⟩,
    ⟨(some 15), .mv (.tmp 14), (some (6, false)), []⟩,
    ⟨(some 16), .fa (.tmp 1) 2, (some (15, true)), []⟩,
    ⟨(some 17), .ld (.tmp 16) 1 false, (some (15, true)), []⟩,
    ⟨(some 18), .call 71 [(.tmp 17), (.const (.int .i64 1)), (.const (.int .i64 1049))], (some (15, true)), []⟩,
    ⟨(some 19), .pick (.tmp 15) (.tmp 18) (.const (.bool false)), (some (6, false)), []⟩,
    ⟨(some 20), .pick (.tmp 6) (.const (.bool true)) (.tmp 19), none, []⟩,
    ⟨(some 2), .mv (.tmp 20), none, []⟩] [2]
def m_impl_IsLease_3 : Unit → MCode := fun _ => .seq m_impl_IsLease_2 (fun _ => .ret)
def m_impl_IsLease_4 : Unit → MCode := fun _ => .seq m_impl_IsLease_1 m_impl_IsLease_3
def m_impl_IsLease : MCode := m_impl_IsLease_4 ()
def h_impl_IsLease : Hints := [(0, [1], []), (1, [2], [])]
def r_impl_IsLease : List RV := [.t 2]
abbrev n_impl_IsLease : Nat := 70
theorem k_impl_IsLease : Known Pr mu n_impl_IsLease m_impl_IsLease r_impl_IsLease Go.Proofs.Try.f70.ntmps := .of h_impl_IsLease hm Go.Proofs.Try.func70 (by kernel_rfl) (by kernel_rfl) (by kernel_rfl) (by kernel_rfl)
def m_impl_within_1 : Unit → MCode := fun _ => .region [⟨(some 6), .mv (.const (.bool false)), none, []⟩] [0, 1, 2]
def m_impl_within_2 : Unit → MCode := fun _ => .region [⟨(some 7), .mv (.tmp 1), none, []⟩,
    ⟨(some 8), .mv (.tmp 0), none, []⟩,
    ⟨(some 9), .bin .leq (.tmp 7) (.tmp 8), none, []⟩,
    ⟨(some 10), .mv (.tmp 9), none, []⟩,
    ⟨(some 11), .mv (.tmp 0), (some (10, true)), []⟩,
    ⟨(some 12), .mv (.tmp 2), (some (10, true)), []⟩,
    ⟨(some 13), .bin .leq (.tmp 11) (.tmp 12), (some (10, true)), []⟩,
    ⟨(some 14), .pick (.tmp 10) (.tmp 13) (.const (.bool false)), none, []⟩,
    ⟨(some 6), .mv (.tmp 14), none, []⟩] [6]
def m_impl_within_3 : Unit → MCode := fun _ => .seq m_impl_within_2 (fun _ => .ret)
def m_impl_within_4 : Unit → MCode := fun _ => .seq m_impl_within_1 m_impl_within_3
def m_impl_within : MCode := m_impl_within_4 ()
def h_impl_within : Hints := [(0, [0, 1, 2], []), (1, [6], [])]
def r_impl_within : List RV := [.t 6]
abbrev n_impl_within : Nat := 71
theorem k_impl_within : Known Pr mu n_impl_within m_impl_within r_impl_within Go.Proofs.Try.f71.ntmps := .of h_impl_within hm Go.Proofs.Try.func71 (by kernel_rfl) (by kernel_rfl) (by kernel_rfl) (by kernel_rfl)
def m_impl_LeaseIsOver_1 : Unit → MCode := fun _ => .region [⟨(some 2), .box (.tmp 0), none, []⟩,
    ⟨(some 4), .mv (.const (.bool false)), none, []⟩] [1, 2]
def m_impl_LeaseIsOver_2 : Unit → MCode := fun _ => .region [⟨(some 5), .ld (.tmp 2) 3 true, none, []⟩,
    ⟨(some 6), .call 70 [(.tmp 5)], none, []⟩,
    ⟨(some 7), .mv (.tmp 6), none, []⟩,
    ⟨(some 8), .mv (.tmp 1), (some (7, true)), []⟩,
    ⟨(some 9), .call 71 [(.tmp 8), (.const (.int .i64 0)), (.const (.int .i64 999))], (some (7, true)), []⟩,
    ⟨(some 10), .pick (.tmp 7) (.tmp 9) (.const (.bool false)), none, []⟩,
    ⟨(some 11), .mv (.tmp 10), none, []⟩,
    ⟨(some 12), .mv (.tmp 1), (some (11, true)), []⟩,
    ⟨(some 13), .ld (.tmp 2) 3 true, (some (11, true)), []⟩,
    ⟨(some 14), .call 105 [(.tmp 13)], (some (11, true)), []⟩,
    ⟨(some 15), .bin .geq (.tmp 12) (.tmp 14), (some (11, true)), []⟩,
    ⟨(some 16), .pick (.tmp 11) (.tmp 15) (.const (.bool false)), none, []⟩,
    ⟨(some 4), .mv (.tmp 16), none, []⟩] [4]
def m_impl_LeaseIsOver_3 : Unit → MCode := fun _ => .seq m_impl_LeaseIsOver_2 (fun _ => .ret)
def m_impl_LeaseIsOver_4 : Unit → MCode := fun _ => .seq m_impl_LeaseIsOver_1 m_impl_LeaseIsOver_3
def m_impl_LeaseIsOver : MCode := m_impl_LeaseIsOver_4 ()
def h_impl_LeaseIsOver : Hints := [(0, [1, 2], []), (1, [4], [])]
def r_impl_LeaseIsOver : List RV := [.t 4]
abbrev n_impl_LeaseIsOver : Nat := 72
theorem k_impl_LeaseIsOver : Known Pr mu n_impl_LeaseIsOver m_impl_LeaseIsOver r_impl_LeaseIsOver Go.Proofs.Try.f72.ntmps := .of h_impl_LeaseIsOver hm Go.Proofs.Try.func72 (by kernel_rfl) (by kernel_rfl) (by kernel_rfl) (by kernel_rfl)
def m_spec_SafeTime_1 : Unit → MCode := fun _ => .region [⟨(some 1), .box (.tmp 0), none, []⟩,
    ⟨(some 2), .mv (.const (.int .i64 0)), none, []⟩] [1]
def m_spec_SafeTime_2 : Unit → MCode := fun _ => .region [⟨(some 3), .ld (.tmp 1) 3 true, none, []⟩,
    ⟨(some 4), .call 67 [(.tmp 3)], none, []⟩,
    ⟨(some 5), .not (.tmp 4), none, []⟩,
    ⟨(some 6), .mv (.tmp 5), none, []⟩,
    ⟨(some 7), .fa (.tmp 1) 2, (some (6, false)), []⟩,
    ⟨(some 8), .ld (.tmp 7) 1 false, (some (6, false)), []⟩,
    ⟨(some 9), .bin .eql (.tmp 8) (.const (.int .i64 0)), (some (6, false)), []⟩,
    ⟨(some 10), .pick (.tmp 6) (.const (.bool true)) (.tmp 9), none, []⟩] [1, 10]
def m_spec_SafeTime_3 : Unit → MCode := fun _ => .region [⟨(some 2), .mv (.const (.int .i64 0)), none, []⟩] [2]
def m_spec_SafeTime_4 : Unit → MCode := fun _ => .seq m_spec_SafeTime_3 (fun _ => .ret)
def m_spec_SafeTime_5 : Unit → MCode := fun _ => .cond (.tmp 10) m_spec_SafeTime_4 (fun _ => .skip)
def m_spec_SafeTime_6 : Unit → MCode := fun _ => .seq m_spec_SafeTime_2 m_spec_SafeTime_5
def m_spec_SafeTime_7 : Unit → MCode := fun _ => .region [⟨(some 11), .fa (.tmp 1) 2, none, []⟩,
    ⟨(some 12), .ld (.tmp 11) 1 false, none, []⟩,
    ⟨(some 13), .bin .add (.tmp 12) (.const (.int .i64 3)), none, []⟩,
    ⟨(some 2), .mv (.tmp 13), none, []⟩] [2]
def m_spec_SafeTime_8 : Unit → MCode := fun _ => .seq m_spec_SafeTime_7 (fun _ => .ret)
def m_spec_SafeTime_9 : Unit → MCode := fun _ => .seq m_spec_SafeTime_6 m_spec_SafeTime_8
def m_spec_SafeTime_10 : Unit → MCode := fun _ => .seq m_spec_SafeTime_1 m_spec_SafeTime_9
def m_spec_SafeTime : MCode := m_spec_SafeTime_10 ()
def h_spec_SafeTime : Hints := [(0, [1], []), (1, [1, 10], []), (2, [2], []), (3, [2], [])]
def r_spec_SafeTime : List RV := [.t 2]
abbrev n_spec_SafeTime : Nat := 104
theorem k_spec_SafeTime : Known Pr mu n_spec_SafeTime m_spec_SafeTime r_spec_SafeTime Go.Proofs.Try.f104.ntmps := .of h_spec_SafeTime hm Go.Proofs.Try.func104 (by kernel_rfl) (by kernel_rfl) (by kernel_rfl) (by kernel_rfl)
def m_impl_SafeTime_1 : Unit → MCode := fun _ => .region [⟨(some 1), .box (.tmp 0), none, []⟩,
    ⟨(some 2), .mv (.const (.int .i64 0)), none, []⟩] [1]
def m_impl_SafeTime_2 : Unit → MCode := fun _ => .region [⟨(some 3), .ld (.tmp 1) 3 true, none, []⟩,
    ⟨(some 4), .bld [.int .i64 0, .int .i64 0, .int .i64 0] [], none, []⟩,
    ⟨(some 5), .aeq false [.i, .i, .i] (.tmp 3) (.tmp 4), none, []⟩,
    ⟨(some 6), .mv (.tmp 5), none, []⟩,
    ⟨(some 7), .ld (.tmp 1) 3 true, (some (6, false)), []⟩,
    ⟨(some 8), .call 70 [(.tmp 7)], (some (6, false)), []⟩,
    ⟨(some 9), .not (.tmp 8), (some (6, false)), []⟩,
    ⟨(some 10), .pick (.tmp 6) (.const (.bool true)) (.tmp 9), none, []⟩] [1, 10]
def m_impl_SafeTime_3 : Unit → MCode := fun _ => .region [⟨(some 2), .mv (.const (.int .i64 0)), none, []⟩] [2]
def m_impl_SafeTime_4 : Unit → MCode := fun _ => .seq m_impl_SafeTime_3 (fun _ => .ret)
def m_impl_SafeTime_5 : Unit → MCode := fun _ => .cond (.tmp 10) m_impl_SafeTime_4 (fun _ => .skip)
def m_impl_SafeTime_6 : Unit → MCode := fun _ => .seq m_impl_SafeTime_2 m_impl_SafeTime_5
def m_impl_SafeTime_7 : Unit → MCode := fun _ => .region [⟨(some 11), .fa (.tmp 1) 2, none, []⟩,
    ⟨(some 12), .ld (.tmp 11) 1 false, none, []⟩,
    ⟨(some 13), .bin .add (.tmp 12) (.const (.int .i64 3)), none, []⟩,
    ⟨(some 2), .mv (.tmp 13), none, []⟩] [2]
def m_impl_SafeTime_8 : Unit → MCode := fun _ => .seq m_impl_SafeTime_7 (fun _ => .ret)
def m_impl_SafeTime_9 : Unit → MCode := fun _ => .seq m_impl_SafeTime_6 m_impl_SafeTime_8
def m_impl_SafeTime_10 : Unit → MCode := fun _ => .seq m_impl_SafeTime_1 m_impl_SafeTime_9
def m_impl_SafeTime : MCode := m_impl_SafeTime_10 ()
def h_impl_SafeTime : Hints := [(0, [1], []), (1, [1, 10], []), (2, [2], []), (3, [2], [])]
def r_impl_SafeTime : List RV := [.t 2]
abbrev n_impl_SafeTime : Nat := 105
theorem k_impl_SafeTime : Known Pr mu n_impl_SafeTime m_impl_SafeTime r_impl_SafeTime Go.Proofs.Try.f105.ntmps := .of h_impl_SafeTime hm Go.Proofs.Try.func105 (by kernel_rfl) (by kernel_rfl) (by kernel_rfl) (by kernel_rfl)
end Go.V.T
