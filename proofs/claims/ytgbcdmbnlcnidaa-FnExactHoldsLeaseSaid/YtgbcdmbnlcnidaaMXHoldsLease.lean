/- The short code of the functions that FnExactHoldsLease reaches, held against the program. Conditions: none. -/
import Derived.Test.YtgbcdmbnlcnidaaV4
import Derived.Test.YtgbcdmbnlcnidaaProg
namespace Go.V.T
open Go Go.V
noncomputable abbrev Pr := Go.Proofs.Try.prog
def mu : Nat → Bool := fun _ => false
theorem hm : Pr.follows .mixedOrders = true := by kernel_rfl
def m_laws_FnExactHoldsLease_1 : Unit → MCode := fun _ => .region [⟨(some 4), .box (.tmp 0), none, []⟩,
    ⟨(some 8), .mv (.const (.bool false)), none, []⟩] [1, 2, 3, 4]
def m_laws_FnExactHoldsLease_2 : Unit → MCode := fun _ => .region [⟨(some 11), .ld (.tmp 4) 3 true, none, []⟩,
    ⟨(some 12), .call 12 [(.tmp 11)], none, []⟩,
    ⟨(some 13), .mv (.tmp 1), none, []⟩,
    ⟨(some 14), .mv (.tmp 2), none, []⟩,
    ⟨(some 15), .mv (.tmp 3), none, []⟩,
    ⟨(some 16), .call 14 [(.tmp 12), (.tmp 13), (.tmp 14), (.tmp 15)], none, []⟩,
    ⟨(some 9), .mv (.tmp 16), none, []⟩] [1, 2, 3, 4, 9]
def m_laws_FnExactHoldsLease_3 : Unit → MCode := fun _ => .region [⟨(some 17), .ld (.tmp 4) 3 true, none, []⟩,
    ⟨(some 18), .call 12 [(.tmp 17)], none, []⟩,
    ⟨(some 19), .mv (.tmp 1), none, []⟩,
    ⟨(some 20), .mv (.tmp 2), none, []⟩,
    ⟨(some 21), .mv (.tmp 3), none, []⟩,
    ⟨(some 22), .call 15 [(.tmp 18), (.tmp 19), (.tmp 20), (.tmp 21)], none, []⟩,
    ⟨(some 10), .mv (.tmp 22), none, []⟩] [9, 10]
def m_laws_FnExactHoldsLease_4 : Unit → MCode := fun _ => .region [⟨(some 23), .mv (.tmp 10), none, []⟩,
    ⟨(some 24), .mv (.tmp 9), none, []⟩,
    ⟨(some 25), .bbin .neq (.tmp 23) (.tmp 24), none, []⟩] [25]
def m_laws_FnExactHoldsLease_5 : Unit → MCode := fun _ => .region [⟨(some 8), .mv (.const (.bool false)), none, []⟩] [8]
def m_laws_FnExactHoldsLease_6 : Unit → MCode := fun _ => .seq m_laws_FnExactHoldsLease_5 (fun _ => .ret)
def m_laws_FnExactHoldsLease_7 : Unit → MCode := fun _ => .cond (.tmp 25) m_laws_FnExactHoldsLease_6 (fun _ => .skip)
def m_laws_FnExactHoldsLease_8 : Unit → MCode := fun _ => .seq m_laws_FnExactHoldsLease_4 m_laws_FnExactHoldsLease_7
def m_laws_FnExactHoldsLease_9 : Unit → MCode := fun _ => .region [⟨(some 8), .mv (.const (.bool true)), none, []⟩] [8]
def m_laws_FnExactHoldsLease_10 : Unit → MCode := fun _ => .seq m_laws_FnExactHoldsLease_9 (fun _ => .ret)
def m_laws_FnExactHoldsLease_11 : Unit → MCode := fun _ => .seq m_laws_FnExactHoldsLease_8 m_laws_FnExactHoldsLease_10
def m_laws_FnExactHoldsLease_12 : Unit → MCode := fun _ => .seq m_laws_FnExactHoldsLease_3 m_laws_FnExactHoldsLease_11
def m_laws_FnExactHoldsLease_13 : Unit → MCode := fun _ => .seq m_laws_FnExactHoldsLease_2 m_laws_FnExactHoldsLease_12
def m_laws_FnExactHoldsLease_14 : Unit → MCode := fun _ => .seq m_laws_FnExactHoldsLease_1 m_laws_FnExactHoldsLease_13
def m_laws_FnExactHoldsLease : MCode := m_laws_FnExactHoldsLease_14 ()
def h_laws_FnExactHoldsLease : Hints := [(0, [1, 2, 3, 4], []), (1, [1, 2, 3, 4, 9], []), (2, [9, 10], []), (3, [25], []), (4, [8], []), (5, [8], [])]
def r_laws_FnExactHoldsLease : List RV := [.t 8]
abbrev n_laws_FnExactHoldsLease : Nat := 5
theorem k_laws_FnExactHoldsLease : Known Pr mu n_laws_FnExactHoldsLease m_laws_FnExactHoldsLease r_laws_FnExactHoldsLease Go.Proofs.Try.f5.ntmps := .of h_laws_FnExactHoldsLease hm Go.Proofs.Try.func5 (by kernel_rfl) (by kernel_rfl) (by kernel_rfl) (by kernel_rfl)
def m_spec_IsLease_1 : Unit → MCode := fun _ => .region [⟨(some 1), .box (.tmp 0), none, []⟩,
    ⟨(some 2), .mv (.const (.bool false)), none, []⟩] [1]
def m_spec_IsLease_2 : Unit → MCode := fun _ => .region [⟨(some 3), .ld (.tmp 1) 3 true, none, []⟩,
    ⟨(some 4), .bld [.int .i64 0, .int .i64 0, .int .i64 0] [], none, []⟩,
    ⟨(some 5), .aeq false [.i, .i, .i] (.tmp 3) (.tmp 4), none, []⟩] [1, 5]
def m_spec_IsLease_3 : Unit → MCode := fun _ => .region [⟨(some 2), .mv (.const (.bool true)), none, []⟩] [2]
def m_spec_IsLease_4 : Unit → MCode := fun _ => .seq m_spec_IsLease_3 (fun _ => .ret)
def m_spec_IsLease_5 : Unit → MCode := fun _ => .cond (.tmp 5) m_spec_IsLease_4 (fun _ => .skip)
def m_spec_IsLease_6 : Unit → MCode := fun _ => .seq m_spec_IsLease_2 m_spec_IsLease_5
def m_spec_IsLease_7 : Unit → MCode := fun _ => .region [⟨(some 6), .fa (.tmp 1) 0, none, []⟩,
    ⟨(some 7), .ld (.tmp 6) 1 false, none, []⟩,
    ⟨(some 8), .call 25 [(.tmp 7), (.const (.int .i64 1)), (.const (.int .i64 20))], none, []⟩,
    ⟨(some 9), .mv (.tmp 8), none, []⟩,
    ⟨(some 10), .fa (.tmp 1) 1, (some (9, true)), []⟩,
    ⟨(some 11), .ld (.tmp 10) 1 false, (some (9, true)), []⟩,
    ⟨(some 12), .call 25 [(.tmp 11), (.const (.int .i64 0)), (.const (.int .i64 4))], (some (9, true)), []⟩,
    ⟨(some 13), .pick (.tmp 9) (.tmp 12) (.const (.bool false)), none, []⟩,
    ⟨(some 14), .mv (.tmp 13), none, []⟩,
    ⟨(some 15), .fa (.tmp 1) 2, (some (14, true)), []⟩,
    ⟨(some 16), .ld (.tmp 15) 1 false, (some (14, true)), []⟩,
    ⟨(some 17), .call 25 [(.tmp 16), (.const (.int .i64 1)), (.const (.int .i64 1049))], (some (14, true)), []⟩,
    ⟨(some 18), .pick (.tmp 14) (.tmp 17) (.const (.bool false)), none, []⟩,
    ⟨(some 2), .mv (.tmp 18), none, []⟩] [2]
def m_spec_IsLease_8 : Unit → MCode := fun _ => .seq m_spec_IsLease_7 (fun _ => .ret)
def m_spec_IsLease_9 : Unit → MCode := fun _ => .seq m_spec_IsLease_6 m_spec_IsLease_8
def m_spec_IsLease_10 : Unit → MCode := fun _ => .seq m_spec_IsLease_1 m_spec_IsLease_9
def m_spec_IsLease : MCode := m_spec_IsLease_10 ()
def h_spec_IsLease : Hints := [(0, [1], []), (1, [1, 5], []), (2, [2], []), (3, [2], [])]
def r_spec_IsLease : List RV := [.t 2]
abbrev n_spec_IsLease : Nat := 11
theorem k_spec_IsLease : Known Pr mu n_spec_IsLease m_spec_IsLease r_spec_IsLease Go.Proofs.Try.f11.ntmps := .of h_spec_IsLease hm Go.Proofs.Try.func11 (by kernel_rfl) (by kernel_rfl) (by kernel_rfl) (by kernel_rfl)
def m_laws_toLease_1 : Unit → MCode := fun _ => .region [⟨(some 1), .box (.tmp 0), none, []⟩,
    ⟨(some 2), .alloc [.int .i64 0, .int .i64 0, .int .i64 0], none, []⟩] [1, 2]
def m_laws_toLease_2 : Unit → MCode := fun _ => .region [⟨(some 3), .alloc [.int .i64 0, .int .i64 0, .int .i64 0], none, []⟩] [1, 2, 3]
def m_laws_toLease_3 : Unit → MCode := fun _ => .region [⟨(some 4), .fa (.tmp 1) 0, none, []⟩,
    ⟨(some 5), .ld (.tmp 4) 1 false, none, []⟩,
    ⟨(some 6), .fa (.tmp 3) 0, none, []⟩,
    ⟨none, .sto (.tmp 6) (.tmp 5) 1, none, []⟩] [1, 2, 3]
def m_laws_toLease_4 : Unit → MCode := fun _ => .region [⟨(some 7), .fa (.tmp 1) 1, none, []⟩,
    ⟨(some 8), .ld (.tmp 7) 1 false, none, []⟩,
    ⟨(some 9), .fa (.tmp 3) 1, none, []⟩,
    ⟨none, .sto (.tmp 9) (.tmp 8) 1, none, []⟩] [1, 2, 3]
def m_laws_toLease_5 : Unit → MCode := fun _ => .region [⟨(some 10), .fa (.tmp 1) 2, none, []⟩,
    ⟨(some 11), .ld (.tmp 10) 1 false, none, []⟩,
    ⟨(some 12), .fa (.tmp 3) 2, none, []⟩,
    ⟨none, .sto (.tmp 12) (.tmp 11) 1, none, []⟩] [2, 3]
def m_laws_toLease_6 : Unit → MCode := fun _ => .region [⟨(some 13), .ld (.tmp 3) 3 true, none, []⟩,
    ⟨none, .sto (.tmp 2) (.tmp 13) 3, none, []⟩] [2]
def m_laws_toLease_7 : Unit → MCode := fun _ => .seq m_laws_toLease_6 (fun _ => .ret)
def m_laws_toLease_8 : Unit → MCode := fun _ => .seq m_laws_toLease_5 m_laws_toLease_7
def m_laws_toLease_9 : Unit → MCode := fun _ => .seq m_laws_toLease_4 m_laws_toLease_8
def m_laws_toLease_10 : Unit → MCode := fun _ => .seq m_laws_toLease_3 m_laws_toLease_9
def m_laws_toLease_11 : Unit → MCode := fun _ => .seq m_laws_toLease_2 m_laws_toLease_10
def m_laws_toLease_12 : Unit → MCode := fun _ => .seq m_laws_toLease_1 m_laws_toLease_11
def m_laws_toLease : MCode := m_laws_toLease_12 ()
def h_laws_toLease : Hints := [(0, [1, 2], []), (1, [1, 2, 3], []), (2, [1, 2, 3], []), (3, [1, 2, 3], []), (4, [2, 3], []), (5, [2], [])]
def r_laws_toLease : List RV := [.c 2 3 true]
abbrev n_laws_toLease : Nat := 12
theorem k_laws_toLease : Known Pr mu n_laws_toLease m_laws_toLease r_laws_toLease Go.Proofs.Try.f12.ntmps := .of h_laws_toLease hm Go.Proofs.Try.func12 (by kernel_rfl) (by kernel_rfl) (by kernel_rfl) (by kernel_rfl)
def m_impl_IsLease_1 : Unit → MCode := fun _ => .region [⟨(some 1), .box (.tmp 0), none, []⟩,
    ⟨(some 2), .mv (.const (.bool false)), none, []⟩] [1]
def m_impl_IsLease_2 : Unit → MCode := fun _ => .region [⟨(some 3), .ld (.tmp 1) 3 true, none, []⟩,
    ⟨(some 4), .bld [.int .i64 0, .int .i64 0, .int .i64 0] [], none, []⟩,
    ⟨(some 5), .aeq false [.i, .i, .i] (.tmp 3) (.tmp 4), none, []⟩,
    ⟨(some 6), .mv (.tmp 5), none, []⟩,
    ⟨(some 7), .fa (.tmp 1) 0, (some (6, false)), []⟩,
    ⟨(some 8), .ld (.tmp 7) 1 false, (some (6, false)), []⟩,
    ⟨(some 9), .call 26 [(.tmp 8), (.const (.int .i64 1)), (.const (.int .i64 20))], (some (6, false)), []⟩,
    ⟨(some 10), .mv (.tmp 9), (some (6, false)), []⟩,
    ⟨(some 11), .fa (.tmp 1) 1, (some (10, true)), []⟩,
    ⟨(some 12), .ld (.tmp 11) 1 false, (some (10, true)), []⟩,
    ⟨(some 13), .call 26 [(.tmp 12), (.const (.int .i64 0)), (.const (.int .i64 4))], (some (10, true)), []⟩,
    ⟨(some 14), .pick (.tmp 10) (.tmp 13) (.const (.bool false)), (some (6, false)), []⟩,
    ⟨(some 15), .mv (.tmp 14), (some (6, false)), []⟩,
    ⟨(some 16), .fa (.tmp 1) 2, (some (15, true)), []⟩,
    ⟨(some 17), .ld (.tmp 16) 1 false, (some (15, true)), []⟩,
    ⟨(some 18), .call 26 [(.tmp 17), (.const (.int .i64 1)), (.const (.int .i64 1049))], (some (15, true)), []⟩,
    ⟨(some 19), .pick (.tmp 15) (.tmp 18) (.const (.bool false)), (some (6, false)), []⟩,
    ⟨(some 20), .pick (.tmp 6) (.const (.bool true)) (.tmp 19), none, []⟩,
    ⟨(some 2), .mv (.tmp 20), none, []⟩] [2]
def m_impl_IsLease_3 : Unit → MCode := fun _ => .seq m_impl_IsLease_2 (fun _ => .ret)
def m_impl_IsLease_4 : Unit → MCode := fun _ => .seq m_impl_IsLease_1 m_impl_IsLease_3
def m_impl_IsLease : MCode := m_impl_IsLease_4 ()
def h_impl_IsLease : Hints := [(0, [1], []), (1, [2], [])]
def r_impl_IsLease : List RV := [.t 2]
abbrev n_impl_IsLease : Nat := 13
theorem k_impl_IsLease : Known Pr mu n_impl_IsLease m_impl_IsLease r_impl_IsLease Go.Proofs.Try.f13.ntmps := .of h_impl_IsLease hm Go.Proofs.Try.func13 (by kernel_rfl) (by kernel_rfl) (by kernel_rfl) (by kernel_rfl)
def m_spec_HoldsLease_1 : Unit → MCode := fun _ => .region [⟨(some 4), .box (.tmp 0), none, []⟩,
    ⟨(some 8), .mv (.const (.bool false)), none, []⟩] [1, 2, 3, 4]
def m_spec_HoldsLease_2 : Unit → MCode := fun _ => .region [⟨(some 9), .ld (.tmp 4) 3 true, none, []⟩,
    ⟨(some 10), .call 11 [(.tmp 9)], none, []⟩,
    ⟨(some 11), .mv (.tmp 10), none, []⟩,
    ⟨(some 12), .mv (.tmp 3), (some (11, true)), []⟩,
    ⟨(some 13), .call 25 [(.tmp 12), (.const (.int .i64 0)), (.const (.int .i64 999))], (some (11, true)), []⟩,
    ⟨(some 14), .pick (.tmp 11) (.tmp 13) (.const (.bool false)), none, []⟩,
    ⟨(some 15), .mv (.tmp 14), none, []⟩,
    ⟨(some 16), .fa (.tmp 4) 2, (some (15, true)), []⟩,
    ⟨(some 17), .ld (.tmp 16) 1 false, (some (15, true)), []⟩,
    ⟨(some 18), .bin .gtr (.tmp 17) (.const (.int .i64 0)), (some (15, true)), []⟩,
    ⟨(some 19), .pick (.tmp 15) (.tmp 18) (.const (.bool false)), none, []⟩,
    ⟨(some 20), .mv (.tmp 19), none, []⟩,
    ⟨(some 21), .fa (.tmp 4) 0, (some (20, true)), []⟩,
    ⟨(some 22), .ld (.tmp 21) 1 false, (some (20, true)), []⟩,
    ⟨(some 23), .mv (.tmp 1), (some (20, true)), []⟩,
    ⟨(some 24), .bin .eql (.tmp 22) (.tmp 23), (some (20, true)), []⟩,
    ⟨(some 25), .pick (.tmp 20) (.tmp 24) (.const (.bool false)), none, []⟩,
    ⟨(some 26), .mv (.tmp 25), none, []⟩,
    ⟨(some 27), .fa (.tmp 4) 1, (some (26, true)), []⟩,
    ⟨(some 28), .ld (.tmp 27) 1 false, (some (26, true)), []⟩,
    ⟨(some 29), .mv (.tmp 2), (some (26, true)), []⟩,
    ⟨(some 30), .bin .eql (.tmp 28) (.tmp 29), (some (26, true)), []⟩,
    ⟨(some 31), .pick (.tmp 26) (.tmp 30) (.const (.bool false)), none, []⟩,
    ⟨(some 32), .mv (.tmp 31), none, []⟩,
    ⟨(some 33), .mv (.tmp 3), (some (32, true)), []⟩,
    ⟨(some 34), .bin .add (.tmp 33) (.const (.int .i64 3)), (some (32, true)), []⟩,
    ⟨(some 35), .fa (.tmp 4) 2, (some (32, true)), []⟩,
    ⟨(some 36), .ld (.tmp 35) 1 false, (some (32, true)), []⟩,
    ⟨(some 37), .bin .lss (.tmp 34) (.tmp 36), (some (32, true)), []⟩,
    ⟨(some 38), .pick (.tmp 32) (.tmp 37) (.const (.bool false)), none, []⟩,
    ⟨(some 8), .mv (.tmp 38), none, []⟩] [8]
def m_spec_HoldsLease_3 : Unit → MCode := fun _ => .seq m_spec_HoldsLease_2 (fun _ => .ret)
def m_spec_HoldsLease_4 : Unit → MCode := fun _ => .seq m_spec_HoldsLease_1 m_spec_HoldsLease_3
def m_spec_HoldsLease : MCode := m_spec_HoldsLease_4 ()
def h_spec_HoldsLease : Hints := [(0, [1, 2, 3, 4], []), (1, [8], [])]
def r_spec_HoldsLease : List RV := [.t 8]
abbrev n_spec_HoldsLease : Nat := 14
theorem k_spec_HoldsLease : Known Pr mu n_spec_HoldsLease m_spec_HoldsLease r_spec_HoldsLease Go.Proofs.Try.f14.ntmps := .of h_spec_HoldsLease hm Go.Proofs.Try.func14 (by kernel_rfl) (by kernel_rfl) (by kernel_rfl) (by kernel_rfl)
def m_impl_HoldsLease_1 : Unit → MCode := fun _ => .region [⟨(some 4), .box (.tmp 0), none, []⟩,
    ⟨(some 8), .mv (.const (.bool false)), none, []⟩] [1, 2, 3, 4]
def m_impl_HoldsLease_2 : Unit → MCode := fun _ => .region [⟨(some 9), .ld (.tmp 4) 3 true, none, []⟩,
    ⟨(some 10), .call 13 [(.tmp 9)], none, []⟩,
    ⟨(some 11), .mv (.tmp 10), none, []⟩,
    ⟨(some 12), .ld (.tmp 4) 3 true, (some (11, true)), []⟩,
    ⟨(some 13), .bld [.int .i64 0, .int .i64 0, .int .i64 0] [], (some (11, true)), []⟩,
    ⟨(some 14), .aeq true [.i, .i, .i] (.tmp 12) (.tmp 13), (some (11, true)), []⟩,
    ⟨(some 15), .pick (.tmp 11) (.tmp 14) (.const (.bool false)), none, []⟩,
    ⟨(some 16), .mv (.tmp 15), none, []⟩,
    ⟨(some 17), .fa (.tmp 4) 0, (some (16, true)), []⟩,
    ⟨(some 18), .ld (.tmp 17) 1 false, (some (16, true)), []⟩,
    ⟨(some 19), .mv (.tmp 1), (some (16, true)), []⟩,
    ⟨(some 20), .bin .eql (.tmp 18) (.tmp 19), (some (16, true)), []⟩,
    ⟨(some 21), .pick (.tmp 16) (.tmp 20) (.const (.bool false)), none, []⟩,
    ⟨(some 22), .mv (.tmp 21), none, []⟩,
    ⟨(some 23), .fa (.tmp 4) 1, (some (22, true)), []⟩,
    ⟨(some 24), .ld (.tmp 23) 1 false, (some (22, true)), []⟩,
    ⟨(some 25), .mv (.tmp 2), (some (22, true)), []⟩,
    ⟨(some 26), .bin .eql (.tmp 24) (.tmp 25), (some (22, true)), []⟩,
    ⟨(some 27), .pick (.tmp 22) (.tmp 26) (.const (.bool false)), none, []⟩,
    ⟨(some 28), .mv (.tmp 27), none, []⟩,
    ⟨(some 29), .mv (.tmp 3), (some (28, true)), []⟩,
    ⟨(some 30), .call 26 [(.tmp 29), (.const (.int .i64 0)), (.const (.int .i64 999))], (some (28, true)), []⟩,
    ⟨(some 31), .pick (.tmp 28) (.tmp 30) (.const (.bool false)), none, []⟩,
    ⟨(some 32), .mv (.tmp 31), none, []⟩,
    ⟨(some 33), .mv (.tmp 3), (some (32, true)), []⟩,
    ⟨(some 34), .bin .add (.tmp 33) (.const (.int .i64 3)), (some (32, true)), []⟩,
    ⟨(some 35), .fa (.tmp 4) 2, (some (32, true)), []⟩,
    ⟨(some 36), .ld (.tmp 35) 1 false, (some (32, true)), []⟩,
    ⟨(some 37), .bin .lss (.tmp 34) (.tmp 36), (some (32, true)), []⟩,
    ⟨(some 38), .pick (.tmp 32) (.tmp 37) (.const (.bool false)), none, []⟩,
    ⟨(some 8), .mv (.tmp 38), none, []⟩] [8]
def m_impl_HoldsLease_3 : Unit → MCode := fun _ => .seq m_impl_HoldsLease_2 (fun _ => .ret)
def m_impl_HoldsLease_4 : Unit → MCode := fun _ => .seq m_impl_HoldsLease_1 m_impl_HoldsLease_3
def m_impl_HoldsLease : MCode := m_impl_HoldsLease_4 ()
def h_impl_HoldsLease : Hints := [(0, [1, 2, 3, 4], []), (1, [8], [])]
def r_impl_HoldsLease : List RV := [.t 8]
abbrev n_impl_HoldsLease : Nat := 15
theorem k_impl_HoldsLease : Known Pr mu n_impl_HoldsLease m_impl_HoldsLease r_impl_HoldsLease Go.Proofs.Try.f15.ntmps := .of h_impl_HoldsLease hm Go.Proofs.Try.func15 (by kernel_rfl) (by kernel_rfl) (by kernel_rfl) (by kernel_rfl)
def m_spec_l1In_1 : Unit → MCode := fun _ => .region [⟨(some 6), .mv (.const (.bool false)), none, []⟩] [0, 1, 2]
def m_spec_l1In_2 : Unit → MCode := fun _ => .region [⟨(some 7), .mv (.tmp 0), none, []⟩,
    ⟨(some 8), .mv (.tmp 1), none, []⟩,
    ⟨(some 9), .bin .geq (.tmp 7) (.tmp 8), none, []⟩,
    ⟨(some 10), .mv (.tmp 9), none, []⟩,
    ⟨(some 11), .mv (.tmp 0), (some (10, true)), []⟩,
    ⟨(some 12), .mv (.tmp 2), (some (10, true)), []⟩,
    ⟨(some 13), .bin .leq (.tmp 11) (.tmp 12), (some (10, true)), []⟩,
    ⟨(some 14), .pick (.tmp 10) (.tmp 13) (.const (.bool false)), none, []⟩,
    ⟨(some 6), .mv (.tmp 14), none, []⟩] [6]
def m_spec_l1In_3 : Unit → MCode := fun _ => .seq m_spec_l1In_2 (fun _ => .ret)
def m_spec_l1In_4 : Unit → MCode := fun _ => .seq m_spec_l1In_1 m_spec_l1In_3
def m_spec_l1In : MCode := m_spec_l1In_4 ()
def h_spec_l1In : Hints := [(0, [0, 1, 2], []), (1, [6], [])]
def r_spec_l1In : List RV := [.t 6]
abbrev n_spec_l1In : Nat := 25
theorem k_spec_l1In : Known Pr mu n_spec_l1In m_spec_l1In r_spec_l1In Go.Proofs.Try.f25.ntmps := .of h_spec_l1In hm Go.Proofs.Try.func25 (by kernel_rfl) (by kernel_rfl) (by kernel_rfl) (by kernel_rfl)
def m_impl_within_1 : Unit → MCode := fun _ => .region [⟨(some 6), .mv (.const (.bool false)), none, []⟩] [0, 1, 2]
def m_impl_within_2 : Unit → MCode := fun _ => .region [⟨(some 7), .mv (.tmp 1), none, []⟩,
    ⟨(some 8), .mv (.tmp 0), none, []⟩,
    ⟨(some 9), .bin .leq (.tmp 7) (.tmp 8), none, []⟩,
    ⟨(some 10), .mv (.tmp 9), none, []⟩,
    ⟨(some 11), .mv (.tmp 0), (some (10, true)), []⟩,
    ⟨(some 12), .mv (.tmp 2), (some (10, true)), []⟩,
    ⟨(some 13), .bin .leq (.tmp 11) (.tmp 12), (some (10, true)), []⟩,
    ⟨(some 14), .pick (.tmp 10) (.tmp 13) (.const (.bool false)), none, []⟩,
    ⟨(some 6), .mv (.tmp 14), none, []⟩] [6]
def m_impl_within_3 : Unit → MCode := fun _ => .seq m_impl_within_2 (fun _ => .ret)
def m_impl_within_4 : Unit → MCode := fun _ => .seq m_impl_within_1 m_impl_within_3
def m_impl_within : MCode := m_impl_within_4 ()
def h_impl_within : Hints := [(0, [0, 1, 2], []), (1, [6], [])]
def r_impl_within : List RV := [.t 6]
abbrev n_impl_within : Nat := 26
theorem k_impl_within : Known Pr mu n_impl_within m_impl_within r_impl_within Go.Proofs.Try.f26.ntmps := .of h_impl_within hm Go.Proofs.Try.func26 (by kernel_rfl) (by kernel_rfl) (by kernel_rfl) (by kernel_rfl)
end Go.V.T
