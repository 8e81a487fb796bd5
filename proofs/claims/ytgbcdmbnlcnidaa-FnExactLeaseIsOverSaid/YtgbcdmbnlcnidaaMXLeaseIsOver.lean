/- The short code of the functions that FnExactLeaseIsOver reaches, held against the program. Conditions: none. -/
import Derived.Test.YtgbcdmbnlcnidaaV4
import Derived.Test.YtgbcdmbnlcnidaaProg
namespace Go.V.T
open Go Go.V
noncomputable abbrev Pr := Go.Proofs.Try.prog
def mu : Nat → Bool := fun _ => false
theorem hm : Pr.follows .mixedOrders = true := by kernel_rfl
def m_laws_FnExactLeaseIsOver_1 : Unit → MCode := fun _ => .region [⟨(some 2), .box (.tmp 0), none, []⟩,
    ⟨(some 4), .mv (.const (.bool false)), none, []⟩] [1, 2]
def m_laws_FnExactLeaseIsOver_2 : Unit → MCode := fun _ => .region [⟨(some 7), .ld (.tmp 2) 3 true, none, []⟩,
    ⟨(some 8), .call 12 [(.tmp 7)], none, []⟩,
    ⟨(some 9), .mv (.tmp 1), none, []⟩,
    ⟨(some 10), .call 18 [(.tmp 8), (.tmp 9)], none, []⟩,
    ⟨(some 5), .mv (.tmp 10), none, []⟩] [1, 2, 5]
def m_laws_FnExactLeaseIsOver_3 : Unit → MCode := fun _ => .region [⟨(some 11), .ld (.tmp 2) 3 true, none, []⟩,
    ⟨(some 12), .call 12 [(.tmp 11)], none, []⟩,
    ⟨(some 13), .mv (.tmp 1), none, []⟩,
    ⟨(some 14), .call 19 [(.tmp 12), (.tmp 13)], none, []⟩,
    ⟨(some 6), .mv (.tmp 14), none, []⟩] [5, 6]
def m_laws_FnExactLeaseIsOver_4 : Unit → MCode := fun _ => .region [⟨(some 15), .mv (.tmp 6), none, []⟩,
    ⟨(some 16), .mv (.tmp 5), none, []⟩,
    ⟨(some 17), .bbin .neq (.tmp 15) (.tmp 16), none, []⟩] [17]
def m_laws_FnExactLeaseIsOver_5 : Unit → MCode := fun _ => .region [⟨(some 4), .mv (.const (.bool false)), none, []⟩] [4]
def m_laws_FnExactLeaseIsOver_6 : Unit → MCode := fun _ => .seq m_laws_FnExactLeaseIsOver_5 (fun _ => .ret)
def m_laws_FnExactLeaseIsOver_7 : Unit → MCode := fun _ => .cond (.tmp 17) m_laws_FnExactLeaseIsOver_6 (fun _ => .skip)
def m_laws_FnExactLeaseIsOver_8 : Unit → MCode := fun _ => .seq m_laws_FnExactLeaseIsOver_4 m_laws_FnExactLeaseIsOver_7
def m_laws_FnExactLeaseIsOver_9 : Unit → MCode := fun _ => .region [⟨(some 4), .mv (.const (.bool true)), none, []⟩] [4]
def m_laws_FnExactLeaseIsOver_10 : Unit → MCode := fun _ => .seq m_laws_FnExactLeaseIsOver_9 (fun _ => .ret)
def m_laws_FnExactLeaseIsOver_11 : Unit → MCode := fun _ => .seq m_laws_FnExactLeaseIsOver_8 m_laws_FnExactLeaseIsOver_10
def m_laws_FnExactLeaseIsOver_12 : Unit → MCode := fun _ => .seq m_laws_FnExactLeaseIsOver_3 m_laws_FnExactLeaseIsOver_11
def m_laws_FnExactLeaseIsOver_13 : Unit → MCode := fun _ => .seq m_laws_FnExactLeaseIsOver_2 m_laws_FnExactLeaseIsOver_12
def m_laws_FnExactLeaseIsOver_14 : Unit → MCode := fun _ => .seq m_laws_FnExactLeaseIsOver_1 m_laws_FnExactLeaseIsOver_13
def m_laws_FnExactLeaseIsOver : MCode := m_laws_FnExactLeaseIsOver_14 ()
def h_laws_FnExactLeaseIsOver : Hints := [(0, [1, 2], []), (1, [1, 2, 5], []), (2, [5, 6], []), (3, [17], []), (4, [4], []), (5, [4], [])]
def r_laws_FnExactLeaseIsOver : List RV := [.t 4]
abbrev n_laws_FnExactLeaseIsOver : Nat := 7
theorem k_laws_FnExactLeaseIsOver : Known Pr mu n_laws_FnExactLeaseIsOver m_laws_FnExactLeaseIsOver r_laws_FnExactLeaseIsOver Go.Proofs.Try.f7.ntmps := .of h_laws_FnExactLeaseIsOver hm Go.Proofs.Try.func7 (by kernel_rfl) (by kernel_rfl) (by kernel_rfl) (by kernel_rfl)
def m_spec_IsLease_1 : Unit → MCode := fun _ => .region [⟨(some 1), .box (.tmp 0), none, []⟩,
    ⟨(some 2), .mv (.const (.bool false)), none, []⟩] [1]
def m_spec_IsLease_2 : Unit → MCode := fun _ => .region [⟨(some 3), .ld (.tmp 1) 3 true, none, []⟩,
    ⟨(some 4), .bld [.int .i64 0, .int .i64 0, .int .i64 0] [], none, []⟩,
    ⟨(some 5), .aeq false [.i, .i, .i] (.tmp 3) (.tmp 4), none, []⟩] [1, 5]
def m_spec_IsLease_3 : Unit → MCode := fun _ => .region [⟨(some 2), .mv (.const (.bool true)), none, []⟩] [2]
def m_spec_IsLease_4 : Unit → MCode := fun _ => .seq m_spec_IsLease_3 (fun _ => .ret)
def m_spec_IsLease_5 : Unit → MCode := fun _ => .cond (.tmp 5) m_spec_IsLease_4 (fun _ => .skip)
def m_spec_IsLease_6 : Unit → MCode := fun _ => .seq m_spec_IsLease_2 m_spec_IsLease_5
def m_spec_IsLease_7 : Unit → MCode := fun _ => .region [⟨(some 6), .fa (.tmp 1) 0, none, []⟩,
    ⟨(some 7), .ld (.tmp 6) 1 false, none, []⟩,
    ⟨(some 8), .call 25 [(.tmp 7), (.const (.int .i64 1)), (.const (.int .i64 20))], none, []⟩,
    ⟨(some 9), .mv (.tmp 8), none, []⟩,
    ⟨(some 10), .fa (.tmp 1) 1, (some (9, true)), []⟩,
    ⟨(some 11), .ld (.tmp 10) 1 false, (some (9, true)), []⟩,
    ⟨(some 12), .call 25 [(.tmp 11), (.const (.int .i64 0)), (.const (.int .i64 4))], (some (9, true)), []⟩,
    ⟨(some 13), .pick (.tmp 9) (.tmp 12) (.const (.bool false)), none, []⟩,
    ⟨(some 14), .mv (.tmp 13), none, []⟩,
    ⟨(some 15), .fa (.tmp 1) 2, (some (14, true)), []⟩,
    ⟨(some 16), .ld (.tmp 15) 1 false, (some (14, true)), []⟩,
    ⟨(some 17), .call 25 [(.tmp 16), (.const (.int .i64 1)), (.const (.int .i64 1049))], (some (14, true)), []⟩,
    ⟨(some 18), .pick (.tmp 14) (.tmp 17) (.const (.bool false)), none, []⟩,
    ⟨(some 2), .mv (.tmp 18), none, []⟩] [2]
def m_spec_IsLease_8 : Unit → MCode := fun _ => .seq m_spec_IsLease_7 (fun _ => .ret)
def m_spec_IsLease_9 : Unit → MCode := fun _ => .seq m_spec_IsLease_6 m_spec_IsLease_8
def m_spec_IsLease_10 : Unit → MCode := fun _ => .seq m_spec_IsLease_1 m_spec_IsLease_9
def m_spec_IsLease : MCode := m_spec_IsLease_10 ()
def h_spec_IsLease : Hints := [(0, [1], []), (1, [1, 5], []), (2, [2], []), (3, [2], [])]
def r_spec_IsLease : List RV := [.t 2]
abbrev n_spec_IsLease : Nat := 11
theorem k_spec_IsLease : Known Pr mu n_spec_IsLease m_spec_IsLease r_spec_IsLease Go.Proofs.Try.f11.ntmps := .of h_spec_IsLease hm Go.Proofs.Try.func11 (by kernel_rfl) (by kernel_rfl) (by kernel_rfl) (by kernel_rfl)
def m_laws_toLease_1 : Unit → MCode := fun _ => .region [⟨(some 1), .box (.tmp 0), none, []⟩,
    ⟨(some 2), .alloc [.int .i64 0, .int .i64 0, .int .i64 0], none, []⟩] [1, 2]
def m_laws_toLease_2 : Unit → MCode := fun _ => .region [⟨(some 3), .alloc [.int .i64 0, .int .i64 0, .int .i64 0], none, []⟩] [1, 2, 3]
def m_laws_toLease_3 : Unit → MCode := fun _ => .region [⟨(some 4), .fa (.tmp 1) 0, none, []⟩,
    ⟨(some 5), .ld (.tmp 4) 1 false, none, []⟩,
    ⟨(some 6), .fa (.tmp 3) 0, none, []⟩,
    ⟨none, .sto (.tmp 6) (.tmp 5) 1, none, []⟩] [1, 2, 3]
def m_laws_toLease_4 : Unit → MCode := fun _ => .region [⟨(some 7), .fa (.tmp 1) 1, none, []⟩,
    ⟨(some 8), .ld (.tmp 7) 1 false, none, []⟩,
    ⟨(some 9), .fa (.tmp 3) 1, none, []⟩,
    ⟨none, .sto (.tmp 9) (.tmp 8) 1, none, []⟩] [1, 2, 3]
def m_laws_toLease_5 : Unit → MCode := fun _ => .region [⟨(some 10), .fa (.tmp 1) 2, none, []⟩,
    ⟨(some 11), .ld (.tmp 10) 1 false, none, []⟩,
    ⟨(some 12), .fa (.tmp 3) 2, none, []⟩,
    ⟨none, .sto (.tmp 12) (.tmp 11) 1, none, []⟩] [2, 3]
def m_laws_toLease_6 : Unit → MCode := fun _ => .region [⟨(some 13), .ld (.tmp 3) 3 true, none, []⟩,
    ⟨none, .sto (.tmp 2) (.tmp 13) 3, none, []⟩] [2]
def m_laws_toLease_7 : Unit → MCode := fun _ => .seq m_laws_toLease_6 (fun _ => .ret)
def m_laws_toLease_8 : Unit → MCode := fun _ => .seq m_laws_toLease_5 m_laws_toLease_7
def m_laws_toLease_9 : Unit → MCode := fun _ => .seq m_laws_toLease_4 m_laws_toLease_8
def m_laws_toLease_10 : Unit → MCode := fun _ => .seq m_laws_toLease_3 m_laws_toLease_9
def m_laws_toLease_11 : Unit → MCode := fun _ => .seq m_laws_toLease_2 m_laws_toLease_10
def m_laws_toLease_12 : Unit → MCode := fun _ => .seq m_laws_toLease_1 m_laws_toLease_11
def m_laws_toLease : MCode := m_laws_toLease_12 ()
def h_laws_toLease : Hints := [(0, [1, 2], []), (1, [1, 2, 3], []), (2, [1, 2, 3], []), (3, [1, 2, 3], []), (4, [2, 3], []), (5, [2], [])]
def r_laws_toLease : List RV := [.c 2 3 true]
abbrev n_laws_toLease : Nat := 12
theorem k_laws_toLease : Known Pr mu n_laws_toLease m_laws_toLease r_laws_toLease Go.Proofs.Try.f12.ntmps := .of h_laws_toLease hm Go.Proofs.Try.func12 (by kernel_rfl) (by kernel_rfl) (by kernel_rfl) (by kernel_rfl)
def m_impl_IsLease_1 : Unit → MCode := fun _ => .region [⟨(some 1), .box (.tmp 0), none, []⟩,
    ⟨(some 2), .mv (.const (.bool false)), none, []⟩] [1]
def m_impl_IsLease_2 : Unit → MCode := fun _ => .region [⟨(some 3), .ld (.tmp 1) 3 true, none, []⟩,
    ⟨(some 4), .bld [.int .i64 0, .int .i64 0, .int .i64 0] [], none, []⟩,
    ⟨(some 5), .aeq false [.i, .i, .i] (.tmp 3) (.tmp 4), none, []⟩,
    ⟨(some 6), .mv (.tmp 5), none, []⟩,
    ⟨(some 7), .fa (.tmp 1) 0, (some (6, false)), []⟩,
    ⟨(some 8), .ld (.tmp 7) 1 false, (some (6, false)), []⟩,
    ⟨(some 9), .call 26 [(.tmp 8), (.const (.int .i64 1)), (.const (.int .i64 20))], (some (6, false)), []⟩,
    ⟨(some 10), .mv (.tmp 9), (some (6, false)), []⟩,
    ⟨(some 11), .fa (.tmp 1) 1, (some (10, true)), []⟩,
    ⟨(some 12), .ld (.tmp 11) 1 false, (some (10, true)), []⟩,
    ⟨(some 13), .call 26 [(.tmp 12), (.const (.int .i64 0)), (.const (.int .i64 4))], (some (10, true)), []⟩,
    ⟨(some 14), .pick (.tmp 10) (.tmp 13) (.const (.bool false)), (some (6, false)), []⟩,
    ⟨(some 15), .mv (.tmp 14), (some (6, false)), []⟩,
    ⟨(some 16), .fa (.tmp 1) 2, (some (15, true)), []⟩,
    ⟨(some 17), .ld (.tmp 16) 1 false, (some (15, true)), []⟩,
    ⟨(some 18), .call 26 [(.tmp 17), (.const (.int .i64 1)), (.const (.int .i64 1049))], (some (15, true)), []⟩,
    ⟨(some 19), .pick (.tmp 15) (.tmp 18) (.const (.bool false)), (some (6, false)), []⟩,
    ⟨(some 20), .pick (.tmp 6) (.const (.bool true)) (.tmp 19), none, []⟩,
    ⟨(some 2), .mv (.tmp 20), none, []⟩] [2]
def m_impl_IsLease_3 : Unit → MCode := fun _ => .seq m_impl_IsLease_2 (fun _ => .ret)
def m_impl_IsLease_4 : Unit → MCode := fun _ => .seq m_impl_IsLease_1 m_impl_IsLease_3
def m_impl_IsLease : MCode := m_impl_IsLease_4 ()
def h_impl_IsLease : Hints := [(0, [1], []), (1, [2], [])]
def r_impl_IsLease : List RV := [.t 2]
abbrev n_impl_IsLease : Nat := 13
theorem k_impl_IsLease : Known Pr mu n_impl_IsLease m_impl_IsLease r_impl_IsLease Go.Proofs.Try.f13.ntmps := .of h_impl_IsLease hm Go.Proofs.Try.func13 (by kernel_rfl) (by kernel_rfl) (by kernel_rfl) (by kernel_rfl)
def m_spec_SafeTime_1 : Unit → MCode := fun _ => .region [⟨(some 1), .box (.tmp 0), none, []⟩,
    ⟨(some 2), .mv (.const (.int .i64 0)), none, []⟩] [1]
def m_spec_SafeTime_2 : Unit → MCode := fun _ => .region [⟨(some 3), .ld (.tmp 1) 3 true, none, []⟩,
    ⟨(some 4), .call 11 [(.tmp 3)], none, []⟩,
    ⟨(some 5), .not (.tmp 4), none, []⟩,
    ⟨(some 6), .mv (.tmp 5), none, []⟩,
    ⟨(some 7), .fa (.tmp 1) 2, (some (6, false)), []⟩,
    ⟨(some 8), .ld (.tmp 7) 1 false, (some (6, false)), []⟩,
    ⟨(some 9), .bin .eql (.tmp 8) (.const (.int .i64 0)), (some (6, false)), []⟩,
    ⟨(some 10), .pick (.tmp 6) (.const (.bool true)) (.tmp 9), none, []⟩] [1, 10]
def m_spec_SafeTime_3 : Unit → MCode := fun _ => .region [⟨(some 2), .mv (.const (.int .i64 0)), none, []⟩] [2]
def m_spec_SafeTime_4 : Unit → MCode := fun _ => .seq m_spec_SafeTime_3 (fun _ => .ret)
def m_spec_SafeTime_5 : Unit → MCode := fun _ => .cond (.tmp 10) m_spec_SafeTime_4 (fun _ => .skip)
def m_spec_SafeTime_6 : Unit → MCode := fun _ => .seq m_spec_SafeTime_2 m_spec_SafeTime_5
def m_spec_SafeTime_7 : Unit → MCode := fun _ => .region [⟨(some 11), .fa (.tmp 1) 2, none, []⟩,
    ⟨(some 12), .ld (.tmp 11) 1 false, none, []⟩,
    ⟨(some 13), .bin .add (.tmp 12) (.const (.int .i64 3)), none, []⟩,
    ⟨(some 2), .mv (.tmp 13), none, []⟩] [2]
def m_spec_SafeTime_8 : Unit → MCode := fun _ => .seq m_spec_SafeTime_7 (fun _ => .ret)
def m_spec_SafeTime_9 : Unit → MCode := fun _ => .seq m_spec_SafeTime_6 m_spec_SafeTime_8
def m_spec_SafeTime_10 : Unit → MCode := fun _ => .seq m_spec_SafeTime_1 m_spec_SafeTime_9
def m_spec_SafeTime : MCode := m_spec_SafeTime_10 ()
def h_spec_SafeTime : Hints := [(0, [1], []), (1, [1, 10], []), (2, [2], []), (3, [2], [])]
def r_spec_SafeTime : List RV := [.t 2]
abbrev n_spec_SafeTime : Nat := 16
theorem k_spec_SafeTime : Known Pr mu n_spec_SafeTime m_spec_SafeTime r_spec_SafeTime Go.Proofs.Try.f16.ntmps := .of h_spec_SafeTime hm Go.Proofs.Try.func16 (by kernel_rfl) (by kernel_rfl) (by kernel_rfl) (by kernel_rfl)
def m_impl_SafeTime_1 : Unit → MCode := fun _ => .region [⟨(some 1), .box (.tmp 0), none, []⟩,
    ⟨(some 2), .mv (.const (.int .i64 0)), none, []⟩] [1]
def m_impl_SafeTime_2 : Unit → MCode := fun _ => .region [⟨(some 3), .ld (.tmp 1) 3 true, none, []⟩,
    ⟨(some 4), .bld [.int .i64 0, .int .i64 0, .int .i64 0] [], none, []⟩,
    ⟨(some 5), .aeq false [.i, .i, .i] (.tmp 3) (.tmp 4), none, []⟩,
    ⟨(some 6), .mv (.tmp 5), none, []⟩,
    ⟨(some 7), .ld (.tmp 1) 3 true, (some (6, false)), []⟩,
    ⟨(some 8), .call 13 [(.tmp 7)], (some (6, false)), []⟩,
    ⟨(some 9), .not (.tmp 8), (some (6, false)), []⟩,
    ⟨(some 10), .pick (.tmp 6) (.const (.bool true)) (.tmp 9), none, []⟩] [1, 10]
def m_impl_SafeTime_3 : Unit → MCode := fun _ => .region [⟨(some 2), .mv (.const (.int .i64 0)), none, []⟩] [2]
def m_impl_SafeTime_4 : Unit → MCode := fun _ => .seq m_impl_SafeTime_3 (fun _ => .ret)
def m_impl_SafeTime_5 : Unit → MCode := fun _ => .cond (.tmp 10) m_impl_SafeTime_4 (fun _ => .skip)
def m_impl_SafeTime_6 : Unit → MCode := fun _ => .seq m_impl_SafeTime_2 m_impl_SafeTime_5
def m_impl_SafeTime_7 : Unit → MCode := fun _ => .region [⟨(some 11), .fa (.tmp 1) 2, none, []⟩,
    ⟨(some 12), .ld (.tmp 11) 1 false, none, []⟩,
    ⟨(some 13), .bin .add (.tmp 12) (.const (.int .i64 3)), none, []⟩,
    ⟨(some 2), .mv (.tmp 13), none, []⟩] [2]
def m_impl_SafeTime_8 : Unit → MCode := fun _ => .seq m_impl_SafeTime_7 (fun _ => .ret)
def m_impl_SafeTime_9 : Unit → MCode := fun _ => .seq m_impl_SafeTime_6 m_impl_SafeTime_8
def m_impl_SafeTime_10 : Unit → MCode := fun _ => .seq m_impl_SafeTime_1 m_impl_SafeTime_9
def m_impl_SafeTime : MCode := m_impl_SafeTime_10 ()
def h_impl_SafeTime : Hints := [(0, [1], []), (1, [1, 10], []), (2, [2], []), (3, [2], [])]
def r_impl_SafeTime : List RV := [.t 2]
abbrev n_impl_SafeTime : Nat := 17
theorem k_impl_SafeTime : Known Pr mu n_impl_SafeTime m_impl_SafeTime r_impl_SafeTime Go.Proofs.Try.f17.ntmps := .of h_impl_SafeTime hm Go.Proofs.Try.func17 (by kernel_rfl) (by kernel_rfl) (by kernel_rfl) (by kernel_rfl)
def m_spec_LeaseIsOver_1 : Unit → MCode := fun _ => .region [⟨(some 2), .box (.tmp 0), none, []⟩,
    ⟨(some 4), .mv (.const (.bool false)), none, []⟩] [1, 2]
def m_spec_LeaseIsOver_2 : Unit → MCode := fun _ => .region [⟨(some 5), .ld (.tmp 2) 3 true, none, []⟩,
    ⟨(some 6), .call 11 [(.tmp 5)], none, []⟩,
    ⟨(some 7), .mv (.tmp 6), none, []⟩,
    ⟨(some 8), .mv (.tmp 1), (some (7, true)), []⟩,
    ⟨(some 9), .call 25 [(.tmp 8), (.const (.int .i64 0)), (.const (.int .i64 999))], (some (7, true)), []⟩,
    ⟨(some 10), .pick (.tmp 7) (.tmp 9) (.const (.bool false)), none, []⟩,
    ⟨(some 11), .mv (.tmp 10), none, []⟩,
    ⟨(some 12), .mv (.tmp 1), (some (11, true)), []⟩,
    ⟨(some 13), .ld (.tmp 2) 3 true, (some (11, true)), []⟩,
    ⟨(some 14), .call 16 [(.tmp 13)], (some (11, true)), []⟩,
    ⟨(some 15), .bin .geq (.tmp 12) (.tmp 14), (some (11, true)), []⟩,
    ⟨(some 16), .pick (.tmp 11) (.tmp 15) (.const (.bool false)), none, []⟩,
    ⟨(some 4), .mv (.tmp 16), none, []⟩] [4]
def m_spec_LeaseIsOver_3 : Unit → MCode := fun _ => .seq m_spec_LeaseIsOver_2 (fun _ => .ret)
def m_spec_LeaseIsOver_4 : Unit → MCode := fun _ => .seq m_spec_LeaseIsOver_1 m_spec_LeaseIsOver_3
def m_spec_LeaseIsOver : MCode := m_spec_LeaseIsOver_4 ()
def h_spec_LeaseIsOver : Hints := [(0, [1, 2], []), (1, [4], [])]
def r_spec_LeaseIsOver : List RV := [.t 4]
abbrev n_spec_LeaseIsOver : Nat := 18
theorem k_spec_LeaseIsOver : Known Pr mu n_spec_LeaseIsOver m_spec_LeaseIsOver r_spec_LeaseIsOver Go.Proofs.Try.f18.ntmps := .of h_spec_LeaseIsOver hm Go.Proofs.Try.func18 (by kernel_rfl) (by kernel_rfl) (by kernel_rfl) (by kernel_rfl)
def m_impl_LeaseIsOver_1 : Unit → MCode := fun _ => .region [⟨(some 2), .box (.tmp 0), none, []⟩,
    ⟨(some 4), .mv (.const (.bool false)), none, []⟩] [1, 2]
def m_impl_LeaseIsOver_2 : Unit → MCode := fun _ => .region [⟨(some 5), .ld (.tmp 2) 3 true, none, []⟩,
    ⟨(some 6), .call 13 [(.tmp 5)], none, []⟩,
    ⟨(some 7), .mv (.tmp 6), none, []⟩,
    ⟨(some 8), .mv (.tmp 1), (some (7, true)), []⟩,
    ⟨(some 9), .call 26 [(.tmp 8), (.const (.int .i64 0)), (.const (.int .i64 999))], (some (7, true)), []⟩,
    ⟨(some 10), .pick (.tmp 7) (.tmp 9) (.const (.bool false)), none, []⟩,
    ⟨(some 11), .mv (.tmp 10), none, []⟩,
    ⟨(some 12), .mv (.tmp 1), (some (11, true)), []⟩,
    ⟨(some 13), .ld (.tmp 2) 3 true, (some (11, true)), []⟩,
    ⟨(some 14), .call 17 [(.tmp 13)], (some (11, true)), []⟩,
    ⟨(some 15), .bin .geq (.tmp 12) (.tmp 14), (some (11, true)), []⟩,
    ⟨(some 16), .pick (.tmp 11) (.tmp 15) (.const (.bool false)), none, []⟩,
    ⟨(some 4), .mv (.tmp 16), none, []⟩] [4]
def m_impl_LeaseIsOver_3 : Unit → MCode := fun _ => .seq m_impl_LeaseIsOver_2 (fun _ => .ret)
def m_impl_LeaseIsOver_4 : Unit → MCode := fun _ => .seq m_impl_LeaseIsOver_1 m_impl_LeaseIsOver_3
def m_impl_LeaseIsOver : MCode := m_impl_LeaseIsOver_4 ()
def h_impl_LeaseIsOver : Hints := [(0, [1, 2], []), (1, [4], [])]
def r_impl_LeaseIsOver : List RV := [.t 4]
abbrev n_impl_LeaseIsOver : Nat := 19
theorem k_impl_LeaseIsOver : Known Pr mu n_impl_LeaseIsOver m_impl_LeaseIsOver r_impl_LeaseIsOver Go.Proofs.Try.f19.ntmps := .of h_impl_LeaseIsOver hm Go.Proofs.Try.func19 (by kernel_rfl) (by kernel_rfl) (by kernel_rfl) (by kernel_rfl)
def m_spec_l1In_1 : Unit → MCode := fun _ => .region [⟨(some 6), .mv (.const (.bool false)), none, []⟩] [0, 1, 2]
def m_spec_l1In_2 : Unit → MCode := fun _ => .region [⟨(some 7), .mv (.tmp 0), none, []⟩,
    ⟨(some 8), .mv (.tmp 1), none, []⟩,
    ⟨(some 9), .bin .geq (.tmp 7) (.tmp 8), none, []⟩,
    ⟨(some 10), .mv (.tmp 9), none, []⟩,
    ⟨(some 11), .mv (.tmp 0), (some (10, true)), []⟩,
    ⟨(some 12), .mv (.tmp 2), (some (10, true)), []⟩,
    ⟨(some 13), .bin .leq (.tmp 11) (.tmp 12), (some (10, true)), []⟩,
    ⟨(some 14), .pick (.tmp 10) (.tmp 13) (.const (.bool false)), none, []⟩,
    ⟨(some 6), .mv (.tmp 14), none, []⟩] [6]
def m_spec_l1In_3 : Unit → MCode := fun _ => .seq m_spec_l1In_2 (fun _ => .ret)
def m_spec_l1In_4 : Unit → MCode := fun _ => .seq m_spec_l1In_1 m_spec_l1In_3
def m_spec_l1In : MCode := m_spec_l1In_4 ()
def h_spec_l1In : Hints := [(0, [0, 1, 2], []), (1, [6], [])]
def r_spec_l1In : List RV := [.t 6]
abbrev n_spec_l1In : Nat := 25
theorem k_spec_l1In : Known Pr mu n_spec_l1In m_spec_l1In r_spec_l1In Go.Proofs.Try.f25.ntmps := .of h_spec_l1In hm Go.Proofs.Try.func25 (by kernel_rfl) (by kernel_rfl) (by kernel_rfl) (by kernel_rfl)
def m_impl_within_1 : Unit → MCode := fun _ => .region [⟨(some 6), .mv (.const (.bool false)), none, []⟩] [0, 1, 2]
def m_impl_within_2 : Unit → MCode := fun _ => .region [⟨(some 7), .mv (.tmp 1), none, []⟩,
    ⟨(some 8), .mv (.tmp 0), none, []⟩,
    ⟨(some 9), .bin .leq (.tmp 7) (.tmp 8), none, []⟩,
    ⟨(some 10), .mv (.tmp 9), none, []⟩,
    ⟨(some 11), .mv (.tmp 0), (some (10, true)), []⟩,
    ⟨(some 12), .mv (.tmp 2), (some (10, true)), []⟩,
    ⟨(some 13), .bin .leq (.tmp 11) (.tmp 12), (some (10, true)), []⟩,
    ⟨(some 14), .pick (.tmp 10) (.tmp 13) (.const (.bool false)), none, []⟩,
    ⟨(some 6), .mv (.tmp 14), none, []⟩] [6]
def m_impl_within_3 : Unit → MCode := fun _ => .seq m_impl_within_2 (fun _ => .ret)
def m_impl_within_4 : Unit → MCode := fun _ => .seq m_impl_within_1 m_impl_within_3
def m_impl_within : MCode := m_impl_within_4 ()
def h_impl_within : Hints := [(0, [0, 1, 2], []), (1, [6], [])]
def r_impl_within : List RV := [.t 6]
abbrev n_impl_within : Nat := 26
theorem k_impl_within : Known Pr mu n_impl_within m_impl_within r_impl_within Go.Proofs.Try.f26.ntmps := .of h_impl_within hm Go.Proofs.Try.func26 (by kernel_rfl) (by kernel_rfl) (by kernel_rfl) (by kernel_rfl)
end Go.V.T
