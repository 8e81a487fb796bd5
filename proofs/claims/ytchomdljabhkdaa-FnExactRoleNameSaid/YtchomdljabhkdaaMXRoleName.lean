/- The short code of the functions that FnExactRoleName reaches, held against the program. Conditions: none. -/
import Derived.Test.YtchomdljabhkdaaV6
import Derived.Test.YtchomdljabhkdaaProg
namespace Go.V.T
open Go Go.V
noncomputable abbrev Pr := Go.Proofs.Try.prog
def mu : Nat → Bool := fun _ => false
def muc : Nat → Bool := fun n => Nat.beq n 3000000 || mu n
abbrev XC := Unit → MCode
def xt (n : Nat) : Operand := .tmp n
def xi (n : Int) : Operand := .const (.int .i64 n)
def xb (b : Bool) : Operand := .const (.bool b)
def xo (d : Nat) (m : MOp) : MOper := ⟨some d, m, none, []⟩
def xn (m : MOp) : MOper := ⟨none, m, none, []⟩
theorem hm : Pr.follows .mixedOrders = true := by kernel_rfl
def c3_1 : XC := fun _ => .region [] [xo 2 (.mv (xb false))] [0]
def c3_2 : XC := fun _ => .region [] [xo 5 (.mv (xt 0)),
 xo 6 (.call 4 [(xt 5)]),
 xo 3 (.mv (xt 6))] [0,3]
def c3_3 : XC := fun _ => .region [] [xo 7 (.mv (xt 0)),
 xo 8 (.call 5 [(xt 7)]),
 xo 4 (.mv (xt 8))] [3,4]
def c3_4 : XC := fun _ => .region [] [xo 9 (.mv (xt 4)),
 xo 10 (.mv (xt 3)),
 xo 11 (.bin .neq (xt 9) (xt 10))] [11]
def c3_5 : XC := fun _ => .region [] [xo 2 (.mv (xb false))] [2]
def c3_6 : XC := fun _ => .seq c3_5 (fun _ => .ret)
def c3_7 : XC := fun _ => .cond (xt 11) c3_6 (fun _ => .skip)
def c3_8 : XC := fun _ => .seq c3_4 c3_7
def c3_9 : XC := fun _ => .region [] [xo 2 (.mv (xb true))] [2]
def c3_10 : XC := fun _ => .seq c3_9 (fun _ => .ret)
def c3_11 : XC := fun _ => .seq c3_8 c3_10
def c3_12 : XC := fun _ => .seq c3_3 c3_11
def c3_13 : XC := fun _ => .seq c3_2 c3_12
def c3_14 : XC := fun _ => .seq c3_1 c3_13
def m_laws_FnExactRoleName : MCode := c3_14 ()
def h_laws_FnExactRoleName : Hints := [(0, [0], [], [], []), (1, [0,3], [], [], []), (2, [3,4], [], [], []), (3, [11], [], [], []), (4, [2], [], [], []), (5, [2], [], [], [])]
def r_laws_FnExactRoleName : List RV := [.t 2]
abbrev n_laws_FnExactRoleName : Nat := 3
theorem k_laws_FnExactRoleName : Known Pr mu n_laws_FnExactRoleName m_laws_FnExactRoleName r_laws_FnExactRoleName Go.Proofs.Try.f3.ntmps := .of h_laws_FnExactRoleName hm Go.Proofs.Try.func3
def c4_1 : XC := fun _ => .region [] [xo 2 (.mv (.const (.string ⟨#[]⟩)))] [0]
def c4_2 : XC := fun _ => .region [] [xo 3 (.mv (xt 0)),
 xo 4 (.call 6 [(xt 3), (xi 0), (xi 3)]),
 xo 5 (.not (xt 4))] [0,5]
def c4_3 : XC := fun _ => .region [] [xo 2 (.mv (.const (.string ⟨#[]⟩)))] [2]
def c4_4 : XC := fun _ => .seq c4_3 (fun _ => .ret)
def c4_5 : XC := fun _ => .cond (xt 5) c4_4 (fun _ => .skip)
def c4_6 : XC := fun _ => .seq c4_2 c4_5
def c4_7 : XC := fun _ => .region [] [xo 6 (.bsl 1 4 [.string ⟨#[]⟩] [(0, (.const (.string ⟨#[110, 111, 110, 101]⟩))), (1, (.const (.string ⟨#[112, 114, 105, 109, 97, 114, 121]⟩))), (2, (.const (.string ⟨#[98, 97, 99, 107, 117, 112]⟩))), (3, (.const (.string ⟨#[119, 105, 116, 110, 101, 115, 115]⟩)))]),
 xo 7 (.mv (xt 0)),
 xo 8 (.ia (xt 6) (xt 7) 1),
 xo 9 (.ld (xt 8) 1 false),
 xo 2 (.mv (xt 9))] [2]
def c4_8 : XC := fun _ => .seq c4_7 (fun _ => .ret)
def c4_9 : XC := fun _ => .seq c4_6 c4_8
def c4_10 : XC := fun _ => .seq c4_1 c4_9
def m_spec_RoleName : MCode := c4_10 ()
def h_spec_RoleName : Hints := [(0, [0], [], [], []), (1, [0,5], [], [], []), (2, [2], [], [], []), (3, [2], [], [], [])]
def r_spec_RoleName : List RV := [.t 2]
abbrev n_spec_RoleName : Nat := 4
theorem k_spec_RoleName : Known Pr mu n_spec_RoleName m_spec_RoleName r_spec_RoleName Go.Proofs.Try.f4.ntmps := .of h_spec_RoleName hm Go.Proofs.Try.func4
def c5_1 : XC := fun _ => .region [] [xo 2 (.mv (.const (.string ⟨#[]⟩)))] [0]
def c5_2 : XC := fun _ => .region [] [xo 4 (.bld [.string ⟨#[]⟩, .string ⟨#[]⟩, .string ⟨#[]⟩, .string ⟨#[]⟩] [(0, 1, (.const (.string ⟨#[110, 111, 110, 101]⟩))), (1, 1, (.const (.string ⟨#[112, 114, 105, 109, 97, 114, 121]⟩))), (2, 1, (.const (.string ⟨#[98, 97, 99, 107, 117, 112]⟩))), (3, 1, (.const (.string ⟨#[119, 105, 116, 110, 101, 115, 115]⟩)))]),
 xo 3 (.alloc [.string ⟨#[]⟩, .string ⟨#[]⟩, .string ⟨#[]⟩, .string ⟨#[]⟩]),
 xn (.sto (xt 3) (xt 4) 4)] [0,3]
def c5_3 : XC := fun _ => .region [] [xo 5 (.mv (xt 0)),
 xo 6 (.call 7 [(xt 5), (xi 0), (xi 3)]),
 xo 7 (.not (xt 6))] [0,3,7]
def c5_4 : XC := fun _ => .region [] [xo 2 (.mv (.const (.string ⟨#[]⟩)))] [2]
def c5_5 : XC := fun _ => .seq c5_4 (fun _ => .ret)
def c5_6 : XC := fun _ => .cond (xt 7) c5_5 (fun _ => .skip)
def c5_7 : XC := fun _ => .seq c5_3 c5_6
def c5_8 : XC := fun _ => .region [] [xo 8 (.mv (xt 0)),
 xo 9 (.iaa (xt 3) (xt 8) 4 1),
 xo 10 (.ld (xt 9) 1 false),
 xo 2 (.mv (xt 10))] [2]
def c5_9 : XC := fun _ => .seq c5_8 (fun _ => .ret)
def c5_10 : XC := fun _ => .seq c5_7 c5_9
def c5_11 : XC := fun _ => .seq c5_2 c5_10
def c5_12 : XC := fun _ => .seq c5_1 c5_11
def m_impl_RoleName : MCode := c5_12 ()
def h_impl_RoleName : Hints := [(0, [0], [], [], []), (1, [0,3], [], [], []), (2, [0,3,7], [], [], []), (3, [2], [], [], []), (4, [2], [], [], [])]
def r_impl_RoleName : List RV := [.t 2]
abbrev n_impl_RoleName : Nat := 5
theorem k_impl_RoleName : Known Pr mu n_impl_RoleName m_impl_RoleName r_impl_RoleName Go.Proofs.Try.f5.ntmps := .of h_impl_RoleName hm Go.Proofs.Try.func5
def c6_1 : XC := fun _ => .region [] [xo 6 (.mv (xb false))] [0,1,2]
def c6_2 : XC := fun _ => .region [] [xo 7 (.mv (xt 0)),
 xo 8 (.mv (xt 1)),
 xo 9 (.bin .geq (xt 7) (xt 8)),
 xo 10 (.mv (xt 9)),
 ⟨(some 11), .mv (xt 0), (some (10, true)), []⟩,
 ⟨(some 12), .mv (xt 2), (some (10, true)), []⟩,
 ⟨(some 13), .bin .leq (xt 11) (xt 12), (some (10, true)), []⟩,
 xo 14 (.pick (xt 10) (xt 13) (xb false)),
 xo 6 (.mv (xt 14))] [6]
def c6_3 : XC := fun _ => .seq c6_2 (fun _ => .ret)
def c6_4 : XC := fun _ => .seq c6_1 c6_3
def m_spec_l1In : MCode := c6_4 ()
def h_spec_l1In : Hints := [(0, [0,1,2], [], [], []), (1, [6], [], [], [])]
def r_spec_l1In : List RV := [.t 6]
abbrev n_spec_l1In : Nat := 6
theorem k_spec_l1In : Known Pr mu n_spec_l1In m_spec_l1In r_spec_l1In Go.Proofs.Try.f6.ntmps := .of h_spec_l1In hm Go.Proofs.Try.func6
def c7_1 : XC := fun _ => .region [] [xo 6 (.mv (xb false))] [0,1,2]
def c7_2 : XC := fun _ => .region [] [xo 7 (.mv (xt 1)),
 xo 8 (.mv (xt 0)),
 xo 9 (.bin .leq (xt 7) (xt 8)),
 xo 10 (.mv (xt 9)),
 ⟨(some 11), .mv (xt 0), (some (10, true)), []⟩,
 ⟨(some 12), .mv (xt 2), (some (10, true)), []⟩,
 ⟨(some 13), .bin .leq (xt 11) (xt 12), (some (10, true)), []⟩,
 xo 14 (.pick (xt 10) (xt 13) (xb false)),
 xo 6 (.mv (xt 14))] [6]
def c7_3 : XC := fun _ => .seq c7_2 (fun _ => .ret)
def c7_4 : XC := fun _ => .seq c7_1 c7_3
def m_impl_within : MCode := c7_4 ()
def h_impl_within : Hints := [(0, [0,1,2], [], [], []), (1, [6], [], [], [])]
def r_impl_within : List RV := [.t 6]
abbrev n_impl_within : Nat := 7
theorem k_impl_within : Known Pr mu n_impl_within m_impl_within r_impl_within Go.Proofs.Try.f7.ntmps := .of h_impl_within hm Go.Proofs.Try.func7
end Go.V.T
