/- The short code of the functions that FnExactFormatConfig reaches, held against the program. Conditions: none. -/
import Derived.Test.YtbfgoophleokcaaDoorV6
import Derived.Test.YtbfgoophleokcaaDoorProg
namespace Go.V.T
open Go Go.V
noncomputable abbrev Pr := Go.Proofs.Tryd.prog
def mu : Nat → Bool := fun n => Nat.beq n 38 || Nat.beq n 46 || Nat.beq n 47 || Nat.beq n 52 || Nat.beq n 59 || Nat.beq n 60 || Nat.beq n 61 || Nat.beq n 63 || Nat.beq n 64 || Nat.beq n 66 || Nat.beq n 67 || Nat.beq n 71
def muc : Nat → Bool := fun n => Nat.beq n 3000000 || mu n
abbrev XC := Unit → MCode
def xt (n : Nat) : Operand := .tmp n
def xi (n : Int) : Operand := .const (.int .i64 n)
def xb (b : Bool) : Operand := .const (.bool b)
def xo (d : Nat) (m : MOp) : MOper := ⟨some d, m, none, []⟩
def xn (m : MOp) : MOper := ⟨none, m, none, []⟩
theorem hm : Pr.follows .mixedOrders = true := by kernel_rfl
def c3_1 : XC := fun _ => .region [] [xo 1 (.box (xt 0)),
 xo 2 (.mv (xb false))] [1]
def c3_2 : XC := fun _ => .region [] [xo 3 (.mv (xi 1048576))] [1,3]
def c3_3 : XC := fun _ => .region [] [xo 7 (.ld (xt 1) 4 true),
 xo 8 (.mv (xt 3)),
 xo 9 (.call 4 [(xt 7), (xt 8)]),
 xo 3 (.mv (xt 9))] [1,3]
def c3_4 : XC := fun _ => .region [] [xo 10 (.mv (xt 3)),
 xo 11 (.bin .lss (xt 10) (xi 0))] [1,11]
def c3_5 : XC := fun _ => .region [] [xo 2 (.mv (xb true))] [2]
def c3_6 : XC := fun _ => .seq c3_5 (fun _ => .ret)
def c3_7 : XC := fun _ => .cond (xt 11) c3_6 (fun _ => .skip)
def c3_8 : XC := fun _ => .seq c3_4 c3_7
def c3_9 : XC := fun _ => .region [] [xo 12 (.ld (xt 1) 4 true),
 xo 13 (.call 6 [(xt 12)]),
 xo 14 (.call 5 [(xt 13)]),
 xo 4 (.mv (xt 14))] [1,4]
def c3_10 : XC := fun _ => .region [] [xo 15 (.ld (xt 1) 4 true),
 xo 16 (.call 6 [(xt 15)]),
 xo 5 (.alloc [.int .i64 0, .int .i64 0, .slice none 0 0, .slice none 0 0]),
 xn (.sto (xt 5) (xt 16) 4)] [1,4,5]
def c3_11 : XC := fun _ => .region [] [xo 17 (.ld (xt 5) 4 true),
 xo 18 (.call 7 [(xt 17)]),
 xo 6 (.mv (xt 18))] [1,4,5,6]
def c3_12 : XC := fun _ => .region [] [xo 19 (.mv (xt 6)),
 xo 20 (.mv (xt 4)),
 xo 21 (.bin .neq (xt 19) (xt 20))] [1,5,21]
def c3_13 : XC := fun _ => .region [] [xo 2 (.mv (xb false))] [2]
def c3_14 : XC := fun _ => .seq c3_13 (fun _ => .ret)
def c3_15 : XC := fun _ => .cond (xt 21) c3_14 (fun _ => .skip)
def c3_16 : XC := fun _ => .seq c3_12 c3_15
def c3_17 : XC := fun _ => .region [] [xo 22 (.ld (xt 5) 4 true),
 ⟨(some 23), .ld (xt 1) 4 true, none, [0]⟩,
 ⟨(some 24), .call 6 [(xt 23)], none, [0]⟩,
 xo 25 (.call 8 [(xt 22), (xt 24)]),
 xo 26 (.not (xt 25))] [26]
def c3_18 : XC := fun _ => .region [] [xo 2 (.mv (xb false))] [2]
def c3_19 : XC := fun _ => .seq c3_18 (fun _ => .ret)
def c3_20 : XC := fun _ => .cond (xt 26) c3_19 (fun _ => .skip)
def c3_21 : XC := fun _ => .seq c3_17 c3_20
def c3_22 : XC := fun _ => .region [] [xo 2 (.mv (xb true))] [2]
def c3_23 : XC := fun _ => .seq c3_22 (fun _ => .ret)
def c3_24 : XC := fun _ => .seq c3_21 c3_23
def c3_25 : XC := fun _ => .seq c3_16 c3_24
def c3_26 : XC := fun _ => .seq c3_11 c3_25
def c3_27 : XC := fun _ => .seq c3_10 c3_26
def c3_28 : XC := fun _ => .seq c3_9 c3_27
def c3_29 : XC := fun _ => .seq c3_8 c3_28
def c3_30 : XC := fun _ => .seq c3_3 c3_29
def c3_31 : XC := fun _ => .seq c3_2 c3_30
def c3_32 : XC := fun _ => .seq c3_1 c3_31
def m_laws_FnExactFormatConfig : MCode := c3_32 ()
def h_laws_FnExactFormatConfig : Hints := [(0, [1], [], [], []), (1, [1,3], [], [], []), (2, [1,3], [], [], []), (3, [1,11], [], [], []), (4, [2], [], [], []), (5, [1,4], [], [], []), (6, [1,4,5], [], [], []), (7, [1,4,5,6], [], [], []), (8, [1,5,21], [], [], []), (9, [2], [], [], []), (10, [26], [[],[0],[0]], [], []), (11, [2], [], [], []), (12, [2], [], [], [])]
def r_laws_FnExactFormatConfig : List RV := [.t 2]
abbrev n_laws_FnExactFormatConfig : Nat := 3
theorem k_laws_FnExactFormatConfig : Known Pr mu n_laws_FnExactFormatConfig m_laws_FnExactFormatConfig r_laws_FnExactFormatConfig Go.Proofs.Tryd.f3.ntmps := .of h_laws_FnExactFormatConfig hm Go.Proofs.Tryd.func3
def c4_1 : XC := fun _ => .region [] [xo 2 (.box (xt 0)),
 xo 4 (.mv (xi 0))] [1,2]
def c4_2 : XC := fun _ => .region [] [xo 5 (.fa (xt 2) 2),
 xo 6 (.ld (xt 5) 1 false),
 xo 7 (.mv (xt 1)),
 xo 8 (.call 9 [(xt 6), (xt 7)]),
 xo 1 (.mv (xt 8))] [1,2]
def c4_3 : XC := fun _ => .region [] [xo 9 (.mv (xt 1)),
 xo 10 (.bin .lss (xt 9) (xi 0))] [1,2,10]
def c4_4 : XC := fun _ => .region [] [xo 4 (.mv (xi (-1)))] [4]
def c4_5 : XC := fun _ => .seq c4_4 (fun _ => .ret)
def c4_6 : XC := fun _ => .cond (xt 10) c4_5 (fun _ => .skip)
def c4_7 : XC := fun _ => .seq c4_3 c4_6
def c4_8 : XC := fun _ => .region [] [xo 11 (.fa (xt 2) 3),
 xo 12 (.ld (xt 11) 1 false),
 xo 13 (.mv (xt 1)),
 xo 14 (.call 9 [(xt 12), (xt 13)]),
 xo 1 (.mv (xt 14))] [1]
def c4_9 : XC := fun _ => .region [] [xo 15 (.mv (xt 1)),
 xo 16 (.bin .lss (xt 15) (xi 0))] [1,16]
def c4_10 : XC := fun _ => .region [] [xo 4 (.mv (xi (-1)))] [4]
def c4_11 : XC := fun _ => .seq c4_10 (fun _ => .ret)
def c4_12 : XC := fun _ => .cond (xt 16) c4_11 (fun _ => .skip)
def c4_13 : XC := fun _ => .seq c4_9 c4_12
def c4_14 : XC := fun _ => .region [] [xo 17 (.mv (xt 1)),
 xo 4 (.mv (xt 17))] [4]
def c4_15 : XC := fun _ => .seq c4_14 (fun _ => .ret)
def c4_16 : XC := fun _ => .seq c4_13 c4_15
def c4_17 : XC := fun _ => .seq c4_8 c4_16
def c4_18 : XC := fun _ => .seq c4_7 c4_17
def c4_19 : XC := fun _ => .seq c4_2 c4_18
def c4_20 : XC := fun _ => .seq c4_1 c4_19
def m_laws_szConfig : MCode := c4_20 ()
def h_laws_szConfig : Hints := [(0, [1,2], [], [], []), (1, [1,2], [], [], []), (2, [1,2,10], [], [], []), (3, [4], [], [], []), (4, [1], [], [], []), (5, [1,16], [], [], []), (6, [4], [], [], []), (7, [4], [], [], [])]
def r_laws_szConfig : List RV := [.t 4]
abbrev n_laws_szConfig : Nat := 4
theorem k_laws_szConfig : Known Pr mu n_laws_szConfig m_laws_szConfig r_laws_szConfig Go.Proofs.Tryd.f4.ntmps := .of h_laws_szConfig hm Go.Proofs.Tryd.func4
def c5_1 : XC := fun _ => .region [] [xo 1 (.box (xt 0)),
 xo 2 (.mv (.const (.string ⟨#[]⟩)))] [1]
def c5_2 : XC := fun _ => .region [] [xo 3 (.ld (xt 1) 4 true),
 xo 4 (.call 10 [(xt 3)]),
 xo 5 (.not (xt 4))] [1,5]
def c5_3 : XC := fun _ => .region [] [xo 2 (.mv (.const (.string ⟨#[]⟩)))] [2]
def c5_4 : XC := fun _ => .seq c5_3 (fun _ => .ret)
def c5_5 : XC := fun _ => .cond (xt 5) c5_4 (fun _ => .skip)
def c5_6 : XC := fun _ => .seq c5_2 c5_5
def c5_7 : XC := fun _ => .region [] [xo 6 (.fa (xt 1) 0),
 xo 7 (.ld (xt 6) 1 false),
 xo 8 (.call 11 [(xt 7)]),
 xo 9 (.bin .add (xt 8) (.const (.string ⟨#[32]⟩))),
 ⟨(some 10), .fa (xt 1) 1, none, [0, 1, 2, 3]⟩,
 ⟨(some 11), .ld (xt 10) 1 false, none, [0, 1, 2, 3]⟩,
 ⟨(some 12), .call 11 [(xt 11)], none, [3]⟩,
 xo 13 (.bin .add (xt 9) (xt 12)),
 xo 14 (.bin .add (xt 13) (.const (.string ⟨#[32]⟩))),
 ⟨(some 15), .fa (xt 1) 2, none, [0, 1, 2, 3, 4, 5, 6, 7, 8]⟩,
 ⟨(some 16), .ld (xt 15) 1 false, none, [0, 1, 2, 3, 4, 5, 6, 7, 8]⟩,
 ⟨(some 17), .call 12 [(xt 16)], none, [3, 7, 8]⟩,
 xo 18 (.bin .add (xt 14) (xt 17)),
 xo 19 (.bin .add (xt 18) (.const (.string ⟨#[32]⟩))),
 ⟨(some 20), .fa (xt 1) 3, none, [0, 1, 2, 3, 4, 5, 6, 7, 8, 9, 10, 11, 12, 13]⟩,
 ⟨(some 21), .ld (xt 20) 1 false, none, [0, 1, 2, 3, 4, 5, 6, 7, 8, 9, 10, 11, 12, 13]⟩,
 ⟨(some 22), .call 12 [(xt 21)], none, [3, 7, 8, 12, 13]⟩,
 xo 23 (.bin .add (xt 19) (xt 22)),
 xo 2 (.mv (xt 23))] [2]
def c5_8 : XC := fun _ => .seq c5_7 (fun _ => .ret)
def c5_9 : XC := fun _ => .seq c5_6 c5_8
def c5_10 : XC := fun _ => .seq c5_1 c5_9
def m_spec_FormatConfig : MCode := c5_10 ()
def h_spec_FormatConfig : Hints := [(0, [1], [], [], []), (1, [1,5], [], [], []), (2, [2], [], [], []), (3, [2], [[],[],[],[],[0,1,2,3],[0,1,2,3],[3],[],[],[0,1,2,3,4,5,6,7,8],[0,1,2,3,4,5,6,7,8],[3,7,8],[],[],[0,1,2,3,4,5,6,7,8,9,10,11,12,13],[0,1,2,3,4,5,6,7,8,9,10,11,12,13],[3,7,8,12,13]], [], [])]
def r_spec_FormatConfig : List RV := [.t 2]
abbrev n_spec_FormatConfig : Nat := 5
theorem k_spec_FormatConfig : Known Pr mu n_spec_FormatConfig m_spec_FormatConfig r_spec_FormatConfig Go.Proofs.Tryd.f5.ntmps := .of h_spec_FormatConfig hm Go.Proofs.Tryd.func5
def c6_1 : XC := fun _ => .region [] [xo 1 (.box (xt 0)),
 xo 2 (.alloc [.int .i64 0, .int .i64 0, .slice none 0 0, .slice none 0 0])] [1,2]
def c6_2 : XC := fun _ => .region [] [xo 3 (.alloc [.int .i64 0, .int .i64 0, .slice none 0 0, .slice none 0 0])] [1,2,3]
def c6_3 : XC := fun _ => .region [] [xo 4 (.fa (xt 1) 0),
 xo 5 (.ld (xt 4) 1 false),
 xo 6 (.fa (xt 3) 0),
 xn (.sto (xt 6) (xt 5) 1)] [1,2,3]
def c6_4 : XC := fun _ => .region [] [xo 7 (.fa (xt 1) 1),
 xo 8 (.ld (xt 7) 1 false),
 xo 9 (.fa (xt 3) 1),
 xn (.sto (xt 9) (xt 8) 1)] [1,2,3]
def c6_5 : XC := fun _ => .region [] [xo 10 (.fa (xt 1) 2),
 xo 11 (.ld (xt 10) 1 false),
 xo 12 (.call 13 [(xt 11)]),
 xo 13 (.fa (xt 3) 2),
 xn (.sto (xt 13) (xt 12) 1)] [1,2,3]
def c6_6 : XC := fun _ => .region [] [xo 14 (.fa (xt 1) 3),
 xo 15 (.ld (xt 14) 1 false),
 xo 16 (.call 13 [(xt 15)]),
 xo 17 (.fa (xt 3) 3),
 xn (.sto (xt 17) (xt 16) 1)] [2,3]
def c6_7 : XC := fun _ => .region [] [xo 18 (.ld (xt 3) 4 true),
 xn (.sto (xt 2) (xt 18) 4)] [2]
def c6_8 : XC := fun _ => .seq c6_7 (fun _ => .ret)
def c6_9 : XC := fun _ => .seq c6_6 c6_8
def c6_10 : XC := fun _ => .seq c6_5 c6_9
def c6_11 : XC := fun _ => .seq c6_4 c6_10
def c6_12 : XC := fun _ => .seq c6_3 c6_11
def c6_13 : XC := fun _ => .seq c6_2 c6_12
def c6_14 : XC := fun _ => .seq c6_1 c6_13
def m_laws_toConfig : MCode := c6_14 ()
def h_laws_toConfig : Hints := [(0, [1,2], [], [], []), (1, [1,2,3], [], [], []), (2, [1,2,3], [], [], []), (3, [1,2,3], [], [], []), (4, [1,2,3], [], [], []), (5, [2,3], [], [], []), (6, [2], [], [], [])]
def r_laws_toConfig : List RV := [.c 2 4 true]
abbrev n_laws_toConfig : Nat := 6
theorem k_laws_toConfig : Known Pr mu n_laws_toConfig m_laws_toConfig r_laws_toConfig Go.Proofs.Tryd.f6.ntmps := .of h_laws_toConfig hm Go.Proofs.Tryd.func6
def c7_1 : XC := fun _ => .region [] [xo 1 (.box (xt 0)),
 xo 2 (.mv (.const (.string ⟨#[]⟩)))] [1]
def c7_2 : XC := fun _ => .region [] [xo 3 (.ld (xt 1) 4 true),
 xo 4 (.call 14 [(xt 3)]),
 xo 5 (.not (xt 4))] [1,5]
def c7_3 : XC := fun _ => .region [] [xo 2 (.mv (.const (.string ⟨#[]⟩)))] [2]
def c7_4 : XC := fun _ => .seq c7_3 (fun _ => .ret)
def c7_5 : XC := fun _ => .cond (xt 5) c7_4 (fun _ => .skip)
def c7_6 : XC := fun _ => .seq c7_2 c7_5
def c7_7 : XC := fun _ => .region [] [xo 6 (.fa (xt 1) 0),
 xo 7 (.ld (xt 6) 1 false),
 xo 8 (.call 16 [(xt 7)]),
 ⟨(some 9), .fa (xt 1) 1, none, [0, 1, 2]⟩,
 ⟨(some 10), .ld (xt 9) 1 false, none, [0, 1, 2]⟩,
 xo 11 (.call 16 [(xt 10)]),
 ⟨(some 12), .fa (xt 1) 2, none, [0, 1, 2, 3, 4, 5]⟩,
 ⟨(some 13), .ld (xt 12) 1 false, none, [0, 1, 2, 3, 4, 5]⟩,
 xo 14 (.call 17 [(xt 13)]),
 ⟨(some 15), .fa (xt 1) 3, none, [0, 1, 2, 3, 4, 5, 6, 7, 8]⟩,
 ⟨(some 16), .ld (xt 15) 1 false, none, [0, 1, 2, 3, 4, 5, 6, 7, 8]⟩,
 xo 17 (.call 17 [(xt 16)]),
 xo 18 (.bsl 1 4 [.string ⟨#[]⟩] [(0, (xt 8)), (1, (xt 11)), (2, (xt 14)), (3, (xt 17))]),
 xo 19 (.call 15 [(xt 18), (.const (.string ⟨#[32]⟩))]),
 xo 2 (.mv (xt 19))] [2]
def c7_8 : XC := fun _ => .seq c7_7 (fun _ => .ret)
def c7_9 : XC := fun _ => .seq c7_6 c7_8
def c7_10 : XC := fun _ => .seq c7_1 c7_9
def m_impl_FormatConfig : MCode := c7_10 ()
def h_impl_FormatConfig : Hints := [(0, [1], [], [], []), (1, [1,5], [], [], []), (2, [2], [], [], []), (3, [2], [[],[],[],[0,1,2],[0,1,2],[],[0,1,2,3,4,5],[0,1,2,3,4,5],[],[0,1,2,3,4,5,6,7,8],[0,1,2,3,4,5,6,7,8]], [], [])]
def r_impl_FormatConfig : List RV := [.t 2]
abbrev n_impl_FormatConfig : Nat := 7
theorem k_impl_FormatConfig : Known Pr mu n_impl_FormatConfig m_impl_FormatConfig r_impl_FormatConfig Go.Proofs.Tryd.f7.ntmps := .of h_impl_FormatConfig hm Go.Proofs.Tryd.func7
def c8_1 : XC := fun _ => .region [] [xo 2 (.box (xt 0)),
 xo 3 (.box (xt 1)),
 xo 4 (.mv (xb false))] [2,3]
def c8_2 : XC := fun _ => .region [] [xo 5 (.fa (xt 2) 0),
 xo 6 (.ld (xt 5) 1 false),
 xo 7 (.fa (xt 3) 0),
 xo 8 (.ld (xt 7) 1 false),
 xo 9 (.bin .neq (xt 6) (xt 8))] [2,3,9]
def c8_3 : XC := fun _ => .region [] [xo 4 (.mv (xb false))] [4]
def c8_4 : XC := fun _ => .seq c8_3 (fun _ => .ret)
def c8_5 : XC := fun _ => .cond (xt 9) c8_4 (fun _ => .skip)
def c8_6 : XC := fun _ => .seq c8_2 c8_5
def c8_7 : XC := fun _ => .region [] [xo 10 (.fa (xt 2) 1),
 xo 11 (.ld (xt 10) 1 false),
 xo 12 (.fa (xt 3) 1),
 xo 13 (.ld (xt 12) 1 false),
 xo 14 (.bin .neq (xt 11) (xt 13))] [2,3,14]
def c8_8 : XC := fun _ => .region [] [xo 4 (.mv (xb false))] [4]
def c8_9 : XC := fun _ => .seq c8_8 (fun _ => .ret)
def c8_10 : XC := fun _ => .cond (xt 14) c8_9 (fun _ => .skip)
def c8_11 : XC := fun _ => .seq c8_7 c8_10
def c8_12 : XC := fun _ => .region [] [xo 15 (.fa (xt 2) 2),
 xo 16 (.ld (xt 15) 1 false),
 xo 17 (.fa (xt 3) 2),
 xo 18 (.ld (xt 17) 1 false),
 xo 19 (.call 18 [(xt 16), (xt 18)]),
 xo 20 (.not (xt 19))] [2,3,20]
def c8_13 : XC := fun _ => .region [] [xo 4 (.mv (xb false))] [4]
def c8_14 : XC := fun _ => .seq c8_13 (fun _ => .ret)
def c8_15 : XC := fun _ => .cond (xt 20) c8_14 (fun _ => .skip)
def c8_16 : XC := fun _ => .seq c8_12 c8_15
def c8_17 : XC := fun _ => .region [] [xo 21 (.fa (xt 2) 3),
 xo 22 (.ld (xt 21) 1 false),
 xo 23 (.fa (xt 3) 3),
 xo 24 (.ld (xt 23) 1 false),
 xo 25 (.call 18 [(xt 22), (xt 24)]),
 xo 26 (.not (xt 25))] [26]
def c8_18 : XC := fun _ => .region [] [xo 4 (.mv (xb false))] [4]
def c8_19 : XC := fun _ => .seq c8_18 (fun _ => .ret)
def c8_20 : XC := fun _ => .cond (xt 26) c8_19 (fun _ => .skip)
def c8_21 : XC := fun _ => .seq c8_17 c8_20
def c8_22 : XC := fun _ => .region [] [xo 4 (.mv (xb true))] [4]
def c8_23 : XC := fun _ => .seq c8_22 (fun _ => .ret)
def c8_24 : XC := fun _ => .seq c8_21 c8_23
def c8_25 : XC := fun _ => .seq c8_16 c8_24
def c8_26 : XC := fun _ => .seq c8_11 c8_25
def c8_27 : XC := fun _ => .seq c8_6 c8_26
def c8_28 : XC := fun _ => .seq c8_1 c8_27
def m_laws_eqConfig : MCode := c8_28 ()
def h_laws_eqConfig : Hints := [(0, [2,3], [], [], []), (1, [2,3,9], [], [], []), (2, [4], [], [], []), (3, [2,3,14], [], [], []), (4, [4], [], [], []), (5, [2,3,20], [], [], []), (6, [4], [], [], []), (7, [26], [], [], []), (8, [4], [], [], []), (9, [4], [], [], [])]
def r_laws_eqConfig : List RV := [.t 4]
abbrev n_laws_eqConfig : Nat := 8
theorem k_laws_eqConfig : Known Pr mu n_laws_eqConfig m_laws_eqConfig r_laws_eqConfig Go.Proofs.Tryd.f8.ntmps := .of h_laws_eqConfig hm Go.Proofs.Tryd.func8
def c9_1 : XC := fun _ => .region [] [xo 4 (.mv (xi 0))] [0,1]
def c9_2 : XC := fun _ => .region [] [xo 5 (.mv (xt 1)),
 xo 6 (.mv (xt 0)),
 xo 7 (.len false (xt 6)),
 xo 8 (.bin .sub (xt 5) (xt 7)),
 xo 1 (.mv (xt 8))] [1]
def c9_3 : XC := fun _ => .region [] [xo 9 (.mv (xt 1)),
 xo 10 (.bin .lss (xt 9) (xi 0))] [1,10]
def c9_4 : XC := fun _ => .region [] [xo 4 (.mv (xi (-1)))] [4]
def c9_5 : XC := fun _ => .seq c9_4 (fun _ => .ret)
def c9_6 : XC := fun _ => .cond (xt 10) c9_5 (fun _ => .skip)
def c9_7 : XC := fun _ => .seq c9_3 c9_6
def c9_8 : XC := fun _ => .region [] [xo 11 (.mv (xt 1)),
 xo 4 (.mv (xt 11))] [4]
def c9_9 : XC := fun _ => .seq c9_8 (fun _ => .ret)
def c9_10 : XC := fun _ => .seq c9_7 c9_9
def c9_11 : XC := fun _ => .seq c9_2 c9_10
def c9_12 : XC := fun _ => .seq c9_1 c9_11
def m_laws_szIntS : MCode := c9_12 ()
def h_laws_szIntS : Hints := [(0, [0,1], [], [], []), (1, [1], [], [], []), (2, [1,10], [], [], []), (3, [4], [], [], []), (4, [4], [], [], [])]
def r_laws_szIntS : List RV := [.t 4]
abbrev n_laws_szIntS : Nat := 9
theorem k_laws_szIntS : Known Pr mu n_laws_szIntS m_laws_szIntS r_laws_szIntS Go.Proofs.Tryd.f9.ntmps := .of h_laws_szIntS hm Go.Proofs.Tryd.func9
def c10_1 : XC := fun _ => .region [] [xo 1 (.box (xt 0)),
 xo 2 (.mv (xb false))] [1]
def c10_2 : XC := fun _ => .region [] [xo 3 (.fa (xt 1) 0),
 xo 4 (.ld (xt 3) 1 false),
 xo 5 (.call 19 [(xt 4), (xi 1), (xi 20)]),
 xo 6 (.mv (xt 5)),
 ⟨(some 7), .fa (xt 1) 2, (some (6, true)), []⟩,
 ⟨(some 8), .ld (xt 7) 1 false, (some (6, true)), []⟩,
 ⟨(some 9), .call 20 [(xt 8)], (some (6, true)), []⟩,
 xo 10 (.pick (xt 6) (xt 9) (xb false)),
 xo 11 (.mv (xt 10)),
 ⟨(some 12), .fa (xt 1) 3, (some (11, true)), []⟩,
 ⟨(some 13), .ld (xt 12) 1 false, (some (11, true)), []⟩,
 ⟨(some 14), .call 20 [(xt 13)], (some (11, true)), []⟩,
 xo 15 (.pick (xt 11) (xt 14) (xb false)),
 xo 16 (.mv (xt 15)),
 ⟨(some 17), .fa (xt 1) 2, (some (16, true)), []⟩,
 ⟨(some 18), .ld (xt 17) 1 false, (some (16, true)), []⟩,
 ⟨(some 19), .fa (xt 1) 1, (some (16, true)), []⟩,
 ⟨(some 20), .ld (xt 19) 1 false, (some (16, true)), []⟩,
 ⟨(some 21), .call 21 [(xt 18), (xt 20)], (some (16, true)), []⟩,
 xo 22 (.pick (xt 16) (xt 21) (xb false)),
 xo 23 (.mv (xt 22)),
 ⟨(some 24), .fa (xt 1) 2, (some (23, true)), []⟩,
 ⟨(some 25), .ld (xt 24) 1 false, (some (23, true)), []⟩,
 ⟨(some 26), .fa (xt 1) 3, (some (23, true)), []⟩,
 ⟨(some 27), .ld (xt 26) 1 false, (some (23, true)), []⟩,
 ⟨(some 28), .call 22 [(xt 25), (xt 27)], (some (23, true)), []⟩,
 ⟨(some 29), .len false (xt 28), (some (23, true)), []⟩,
 ⟨(some 30), .bin .eql (xt 29) (xi 0), (some (23, true)), []⟩,
 xo 31 (.pick (xt 23) (xt 30) (xb false)),
 xo 2 (.mv (xt 31))] [2]
def c10_3 : XC := fun _ => .seq c10_2 (fun _ => .ret)
def c10_4 : XC := fun _ => .seq c10_1 c10_3
def m_spec_IsValidConfig : MCode := c10_4 ()
def h_spec_IsValidConfig : Hints := [(0, [1], [], [], []), (1, [2], [], [], [])]
def r_spec_IsValidConfig : List RV := [.t 2]
abbrev n_spec_IsValidConfig : Nat := 10
theorem k_spec_IsValidConfig : Known Pr mu n_spec_IsValidConfig m_spec_IsValidConfig r_spec_IsValidConfig Go.Proofs.Tryd.f10.ntmps := .of h_spec_IsValidConfig hm Go.Proofs.Tryd.func10
def c11_1 : XC := fun _ => .region [] [xo 2 (.mv (.const (.string ⟨#[]⟩)))] [0]
def c11_2 : XC := fun _ => .region [] [xo 6 (.mv (xt 0)),
 xo 7 (.bin .eql (xt 6) (xi 0))] [0,7]
def c11_3 : XC := fun _ => .region [] [xo 2 (.mv (.const (.string ⟨#[48]⟩)))] [2]
def c11_4 : XC := fun _ => .seq c11_3 (fun _ => .ret)
def c11_5 : XC := fun _ => .cond (xt 7) c11_4 (fun _ => .skip)
def c11_6 : XC := fun _ => .seq c11_2 c11_5
def c11_7 : XC := fun _ => .region [] [xo 3 (.mv (.const (.string ⟨#[]⟩)))] [0,3]
def c11_8 : XC := fun _ => .region [] [xo 8 (.mv (xt 0)),
 xo 9 (.bin .lss (xt 8) (xi 0)),
 xo 4 (.mv (xt 9))] [0,3,4]
def c11_9 : XC := fun _ => .region [] [xo 10 (.mv (xt 0)),
 xo 11 (.bin .neq (xt 10) (xi 0))] [0,3,4,11]
def c11_10 : XC := fun _ => .cond (xt 11) (fun _ => .skip) (fun _ => .exit 0)
def c11_11 : XC := fun _ => .seq c11_9 c11_10
def c11_12 : XC := fun _ => .region [] [xo 12 (.mv (xt 0)),
 xo 13 (.bin .rem (xt 12) (xi 10)),
 xo 5 (.mv (xt 13))] [0,3,4,5]
def c11_13 : XC := fun _ => .region [] [xo 14 (.mv (xt 5)),
 xo 15 (.bin .lss (xt 14) (xi 0))] [0,3,4,5,15]
def c11_14 : XC := fun _ => .region [] [xo 16 (.mv (xt 5)),
 xo 17 (.no),
 xo 5 (.mv (xt 17))] [0,3,4,5]
def c11_15 : XC := fun _ => .cond (xt 15) c11_14 (fun _ => .skip)
def c11_16 : XC := fun _ => .seq c11_13 c11_15
def c11_17 : XC := fun _ => .region [] [xo 18 (.mv (xt 5)),
 xo 19 (.bin .add (xi 48) (xt 18)),
 xo 20 (.conv .u8 (xt 19)),
 xo 21 (.bsl 1 1 [.int .u8 0] [(0, (xt 20))]),
 xo 22 (.cst (xt 21)),
 xo 23 (.mv (xt 3)),
 xo 24 (.bin .add (xt 22) (xt 23)),
 xo 3 (.mv (xt 24))] [0,3,4]
def c11_18 : XC := fun _ => .region [] [xo 25 (.mv (xt 0)),
 xo 26 (.bin .quo (xt 25) (xi 10)),
 xo 0 (.mv (xt 26))] [0,3,4]
def c11_19 : XC := fun _ => .seq c11_17 c11_18
def c11_20 : XC := fun _ => .seq c11_16 c11_19
def c11_21 : XC := fun _ => .seq c11_12 c11_20
def c11_22 : XC := fun _ => .block 1 c11_21
def c11_23 : XC := fun _ => .seq c11_11 c11_22
def c11_24 : XC := fun _ => .loop c11_23
def c11_25 : XC := fun _ => .block 0 c11_24
def c11_26 : XC := fun _ => .region [] [xo 27 (.mv (xt 4))] [3,27]
def c11_27 : XC := fun _ => .region [] [xo 28 (.mv (xt 3)),
 xo 29 (.bin .add (.const (.string ⟨#[45]⟩)) (xt 28)),
 xo 2 (.mv (xt 29))] [2]
def c11_28 : XC := fun _ => .seq c11_27 (fun _ => .ret)
def c11_29 : XC := fun _ => .cond (xt 27) c11_28 (fun _ => .skip)
def c11_30 : XC := fun _ => .seq c11_26 c11_29
def c11_31 : XC := fun _ => .region [] [xo 30 (.mv (xt 3)),
 xo 2 (.mv (xt 30))] [2]
def c11_32 : XC := fun _ => .seq c11_31 (fun _ => .ret)
def c11_33 : XC := fun _ => .seq c11_30 c11_32
def c11_34 : XC := fun _ => .seq c11_25 c11_33
def c11_35 : XC := fun _ => .seq c11_8 c11_34
def c11_36 : XC := fun _ => .seq c11_7 c11_35
def c11_37 : XC := fun _ => .seq c11_6 c11_36
def c11_38 : XC := fun _ => .seq c11_1 c11_37
def m_spec_FormatInt : MCode := c11_38 ()
def h_spec_FormatInt : Hints := [(0, [0], [], [], []), (1, [0,7], [], [], []), (2, [2], [], [], []), (3, [0,3], [], [], []), (4, [0,3,4], [], [], []), (5, [0,3,4,11], [], [], []), (6, [0,3,4,5], [], [], []), (7, [0,3,4,5,15], [], [], []), (8, [0,3,4,5], [], [], []), (9, [0,3,4], [], [], []), (10, [0,3,4], [], [], []), (11, [3,27], [], [], []), (12, [2], [], [], []), (13, [2], [], [], [])]
def r_spec_FormatInt : List RV := [.t 2]
abbrev n_spec_FormatInt : Nat := 11
theorem k_spec_FormatInt : Known Pr mu n_spec_FormatInt m_spec_FormatInt r_spec_FormatInt Go.Proofs.Tryd.f11.ntmps := .of h_spec_FormatInt hm Go.Proofs.Tryd.func11
def c12_1 : XC := fun _ => .region [] [xo 2 (.mv (.const (.string ⟨#[]⟩)))] [0]
def c12_2 : XC := fun _ => .region [] [xo 5 (.mv (xt 0)),
 xo 6 (.call 20 [(xt 5)]),
 xo 7 (.not (xt 6))] [0,7]
def c12_3 : XC := fun _ => .region [] [xo 2 (.mv (.const (.string ⟨#[]⟩)))] [2]
def c12_4 : XC := fun _ => .seq c12_3 (fun _ => .ret)
def c12_5 : XC := fun _ => .cond (xt 7) c12_4 (fun _ => .skip)
def c12_6 : XC := fun _ => .seq c12_2 c12_5
def c12_7 : XC := fun _ => .region [] [xo 8 (.mv (xt 0)),
 xo 9 (.len false (xt 8)),
 xo 10 (.bin .eql (xt 9) (xi 0))] [0,10]
def c12_8 : XC := fun _ => .region [] [xo 2 (.mv (.const (.string ⟨#[110, 111, 110, 101]⟩)))] [2]
def c12_9 : XC := fun _ => .seq c12_8 (fun _ => .ret)
def c12_10 : XC := fun _ => .cond (xt 10) c12_9 (fun _ => .skip)
def c12_11 : XC := fun _ => .seq c12_7 c12_10
def c12_12 : XC := fun _ => .region [] [xo 3 (.mv (.const (.string ⟨#[]⟩)))] [0,3]
def c12_13 : XC := fun _ => .region [] [xo 4 (.mv (xi 0))] [0,3,4]
def c12_14 : XC := fun _ => .region [] [xo 11 (.mv (xt 4)),
 xo 12 (.mv (xt 0)),
 xo 13 (.len false (xt 12)),
 xo 14 (.bin .lss (xt 11) (xt 13))] [0,3,4,14]
def c12_15 : XC := fun _ => .cond (xt 14) (fun _ => .skip) (fun _ => .exit 0)
def c12_16 : XC := fun _ => .seq c12_14 c12_15
def c12_17 : XC := fun _ => .region [] [xo 17 (.mv (xt 3)),
 xo 18 (.mv (xt 0)),
 xo 19 (.mv (xt 4)),
 xo 20 (.ia (xt 18) (xt 19) 1),
 xo 21 (.ld (xt 20) 1 false),
 xo 22 (.call 11 [(xt 21)]),
 xo 23 (.bin .add (xt 17) (xt 22)),
 xo 3 (.mv (xt 23))] [0,3,4]
def c12_18 : XC := fun _ => .block 1 c12_17
def c12_19 : XC := fun _ => .region [] [xo 15 (.mv (xt 4)),
 xo 16 (.bin .add (xt 15) (xi 1)),
 xo 4 (.mv (xt 16))] [0,3,4]
def c12_20 : XC := fun _ => .seq c12_18 c12_19
def c12_21 : XC := fun _ => .seq c12_16 c12_20
def c12_22 : XC := fun _ => .loop c12_21
def c12_23 : XC := fun _ => .block 0 c12_22
def c12_24 : XC := fun _ => .seq c12_13 c12_23
def c12_25 : XC := fun _ => .region [] [xo 24 (.mv (xt 3)),
 xo 2 (.mv (xt 24))] [2]
def c12_26 : XC := fun _ => .seq c12_25 (fun _ => .ret)
def c12_27 : XC := fun _ => .seq c12_24 c12_26
def c12_28 : XC := fun _ => .seq c12_12 c12_27
def c12_29 : XC := fun _ => .seq c12_11 c12_28
def c12_30 : XC := fun _ => .seq c12_6 c12_29
def c12_31 : XC := fun _ => .seq c12_1 c12_30
def m_spec_FormatServers : MCode := c12_31 ()
def h_spec_FormatServers : Hints := [(0, [0], [], [], []), (1, [0,7], [], [], []), (2, [2], [], [], []), (3, [0,10], [], [], []), (4, [2], [], [], []), (5, [0,3], [], [], []), (6, [0,3,4], [], [], []), (7, [0,3,4,14], [], [], []), (9, [0,3,4], [], [], []), (8, [0,3,4], [], [], []), (10, [2], [], [], [])]
def r_spec_FormatServers : List RV := [.t 2]
abbrev n_spec_FormatServers : Nat := 12
theorem k_spec_FormatServers : Known Pr mu n_spec_FormatServers m_spec_FormatServers r_spec_FormatServers Go.Proofs.Tryd.f12.ntmps := .of h_spec_FormatServers hm Go.Proofs.Tryd.func12
def c13_1 : XC := fun _ => .region [] [xo 2 (.mv (.const (.slice none 0 0)))] [0]
def c13_2 : XC := fun _ => .region [] [xo 5 (.mv (xt 0)),
 xo 6 (.len false (xt 5)),
 xo 7 (.mks 1 8 [.int .i64 0] (xt 6) (xt 6)),
 xo 3 (.mv (xt 7))] [0,3]
def c13_3 : XC := fun _ => .region [] [xo 4 (.mv (xi 0))] [0,3,4]
def c13_4 : XC := fun _ => .region [] [xo 8 (.mv (xt 4)),
 xo 9 (.mv (xt 0)),
 xo 10 (.len false (xt 9)),
 xo 11 (.bin .lss (xt 8) (xt 10))] [0,3,4,11]
def c13_5 : XC := fun _ => .cond (xt 11) (fun _ => .skip) (fun _ => .exit 0)
def c13_6 : XC := fun _ => .seq c13_4 c13_5
def c13_7 : XC := fun _ => .region [] [xo 14 (.mv (xt 3)),
 xo 15 (.mv (xt 4)),
 xo 16 (.mv (xt 0)),
 xo 17 (.mv (xt 4)),
 xo 18 (.ia (xt 16) (xt 17) 1),
 xo 19 (.ld (xt 18) 1 false),
 xo 20 (.ia (xt 14) (xt 15) 1),
 xn (.sto (xt 20) (xt 19) 1)] [0,3,4]
def c13_8 : XC := fun _ => .block 1 c13_7
def c13_9 : XC := fun _ => .region [] [xo 12 (.mv (xt 4)),
 xo 13 (.bin .add (xt 12) (xi 1)),
 xo 4 (.mv (xt 13))] [0,3,4]
def c13_10 : XC := fun _ => .seq c13_8 c13_9
def c13_11 : XC := fun _ => .seq c13_6 c13_10
def c13_12 : XC := fun _ => .loop c13_11
def c13_13 : XC := fun _ => .block 0 c13_12
def c13_14 : XC := fun _ => .seq c13_3 c13_13
def c13_15 : XC := fun _ => .region [] [xo 21 (.mv (xt 3)),
 xo 2 (.mv (xt 21))] [2]
def c13_16 : XC := fun _ => .seq c13_15 (fun _ => .ret)
def c13_17 : XC := fun _ => .seq c13_14 c13_16
def c13_18 : XC := fun _ => .seq c13_2 c13_17
def c13_19 : XC := fun _ => .seq c13_1 c13_18
def m_laws_toIntS : MCode := c13_19 ()
def h_laws_toIntS : Hints := [(0, [0], [], [], []), (1, [0,3], [], [], []), (2, [0,3,4], [], [], []), (3, [0,3,4,11], [], [], []), (5, [0,3,4], [], [], []), (4, [0,3,4], [], [], []), (6, [2], [], [], [])]
def r_laws_toIntS : List RV := [.t 2]
abbrev n_laws_toIntS : Nat := 13
theorem k_laws_toIntS : Known Pr mu n_laws_toIntS m_laws_toIntS r_laws_toIntS Go.Proofs.Tryd.f13.ntmps := .of h_laws_toIntS hm Go.Proofs.Tryd.func13
def c14_1 : XC := fun _ => .region [] [xo 1 (.box (xt 0)),
 xo 2 (.mv (xb false))] [1]
def c14_2 : XC := fun _ => .region [] [xo 3 (.fa (xt 1) 0),
 xo 4 (.ld (xt 3) 1 false),
 xo 5 (.call 23 [(xt 4), (xi 1), (xi 20)]),
 xo 6 (.mv (xt 5)),
 ⟨(some 7), .fa (xt 1) 2, (some (6, true)), []⟩,
 ⟨(some 8), .ld (xt 7) 1 false, (some (6, true)), []⟩,
 ⟨(some 9), .call 24 [(xt 8)], (some (6, true)), []⟩,
 xo 10 (.pick (xt 6) (xt 9) (xb false)),
 xo 11 (.mv (xt 10)),
 ⟨(some 12), .fa (xt 1) 3, (some (11, true)), []⟩,
 ⟨(some 13), .ld (xt 12) 1 false, (some (11, true)), []⟩,
 ⟨(some 14), .call 24 [(xt 13)], (some (11, true)), []⟩,
 xo 15 (.pick (xt 11) (xt 14) (xb false)),
 xo 16 (.mv (xt 15)),
 ⟨(some 17), .fa (xt 1) 2, (some (16, true)), []⟩,
 ⟨(some 18), .ld (xt 17) 1 false, (some (16, true)), []⟩,
 ⟨(some 19), .fa (xt 1) 1, (some (16, true)), []⟩,
 ⟨(some 20), .ld (xt 19) 1 false, (some (16, true)), []⟩,
 ⟨(some 21), .call 25 [(xt 18), (xt 20)], (some (16, true)), []⟩,
 xo 22 (.pick (xt 16) (xt 21) (xb false)),
 xo 23 (.mv (xt 22)),
 ⟨(some 24), .fa (xt 1) 2, (some (23, true)), []⟩,
 ⟨(some 25), .ld (xt 24) 1 false, (some (23, true)), []⟩,
 ⟨(some 26), .fa (xt 1) 3, (some (23, true)), []⟩,
 ⟨(some 27), .ld (xt 26) 1 false, (some (23, true)), []⟩,
 ⟨(some 28), .call 26 [(xt 25), (xt 27)], (some (23, true)), []⟩,
 ⟨(some 29), .len false (xt 28), (some (23, true)), []⟩,
 ⟨(some 30), .bin .eql (xt 29) (xi 0), (some (23, true)), []⟩,
 xo 31 (.pick (xt 23) (xt 30) (xb false)),
 xo 2 (.mv (xt 31))] [2]
def c14_3 : XC := fun _ => .seq c14_2 (fun _ => .ret)
def c14_4 : XC := fun _ => .seq c14_1 c14_3
def m_impl_IsValidConfig : MCode := c14_4 ()
def h_impl_IsValidConfig : Hints := [(0, [1], [], [], []), (1, [2], [], [], [])]
def r_impl_IsValidConfig : List RV := [.t 2]
abbrev n_impl_IsValidConfig : Nat := 14
theorem k_impl_IsValidConfig : Known Pr mu n_impl_IsValidConfig m_impl_IsValidConfig r_impl_IsValidConfig Go.Proofs.Tryd.f14.ntmps := .of h_impl_IsValidConfig hm Go.Proofs.Tryd.func14
def c16_1 : XC := fun _ => .region [] [xo 2 (.mv (.const (.string ⟨#[]⟩)))] [0]
def c16_2 : XC := fun _ => .region [] [xo 3 (.mv (xt 0)),
 xo 4 (.call 30 [(xt 3)]),
 xo 2 (.mv (xt 4))] [2]
def c16_3 : XC := fun _ => .seq c16_2 (fun _ => .ret)
def c16_4 : XC := fun _ => .seq c16_1 c16_3
def m_impl_FormatInt : MCode := c16_4 ()
def h_impl_FormatInt : Hints := [(0, [0], [], [], []), (1, [2], [], [], [])]
def r_impl_FormatInt : List RV := [.t 2]
abbrev n_impl_FormatInt : Nat := 16
theorem k_impl_FormatInt : Known Pr mu n_impl_FormatInt m_impl_FormatInt r_impl_FormatInt Go.Proofs.Tryd.f16.ntmps := .of h_impl_FormatInt hm Go.Proofs.Tryd.func16
def c17_1 : XC := fun _ => .region [] [xo 2 (.mv (.const (.string ⟨#[]⟩)))] [0]
def c17_2 : XC := fun _ => .region [] [xo 7 (.mv (xt 0)),
 xo 8 (.call 24 [(xt 7)]),
 xo 9 (.not (xt 8)),
 xo 6 (.mv (xt 9))] [0,6]
def c17_3 : XC := fun _ => .region [] [xo 2 (.mv (.const (.string ⟨#[]⟩)))] [2]
def c17_4 : XC := fun _ => .seq c17_3 (fun _ => .ret)
def c17_5 : XC := fun _ => .region [] [xo 11 (.mv (xt 0)),
 xo 12 (.len false (xt 11)),
 xo 13 (.bin .eql (xt 12) (xi 0)),
 xo 10 (.mv (xt 13))] [0,10]
def c17_6 : XC := fun _ => .region [] [xo 2 (.mv (.const (.string ⟨#[110, 111, 110, 101]⟩)))] [2]
def c17_7 : XC := fun _ => .seq c17_6 (fun _ => .ret)
def c17_8 : XC := fun _ => .cond (xt 10) c17_7 (fun _ => .skip)
def c17_9 : XC := fun _ => .seq c17_5 c17_8
def c17_10 : XC := fun _ => .cond (xt 6) c17_4 c17_9
def c17_11 : XC := fun _ => .seq c17_2 c17_10
def c17_12 : XC := fun _ => .block 0 c17_11
def c17_13 : XC := fun _ => .region [] [xo 3 (.mv (.const (.string ⟨#[]⟩)))] [0,3]
def c17_14 : XC := fun _ => .region [] [xo 14 (.mv (xt 0)),
 xo 15 (.len false (xt 14)),
 xo 16 (.mv (xi 0))] [3,14,15,16]
def c17_15 : XC := fun _ => .region [] [xo 17 (.bin .lss (xt 16) (xt 15))] [3,14,15,16,17]
def c17_16 : XC := fun _ => .cond (xt 17) (fun _ => .skip) (fun _ => .exit 1)
def c17_17 : XC := fun _ => .region [] [xo 18 (.ia (xt 14) (xt 16) 1),
 xo 19 (.ld (xt 18) 1 false),
 xo 5 (.mv (xt 19))] [3,5,14,15,16]
def c17_18 : XC := fun _ => .region [] [xo 20 (.mv (xt 3)),
 xo 21 (.mv (xt 5)),
 xo 22 (.call 16 [(xt 21)]),
 xo 23 (.bin .add (xt 20) (xt 22)),
 xo 3 (.mv (xt 23))] [3,14,15,16]
def c17_19 : XC := fun _ => .seq c17_17 c17_18
def c17_20 : XC := fun _ => .block 2 c17_19
def c17_21 : XC := fun _ => .region [] [xo 24 (.bin .add (xt 16) (xi 1)),
 xo 16 (.mv (xt 24))] [3,14,15,16]
def c17_22 : XC := fun _ => .seq c17_20 c17_21
def c17_23 : XC := fun _ => .seq c17_16 c17_22
def c17_24 : XC := fun _ => .seq c17_15 c17_23
def c17_25 : XC := fun _ => .loop c17_24
def c17_26 : XC := fun _ => .block 1 c17_25
def c17_27 : XC := fun _ => .seq c17_14 c17_26
def c17_28 : XC := fun _ => .region [] [xo 25 (.mv (xt 3)),
 xo 2 (.mv (xt 25))] [2]
def c17_29 : XC := fun _ => .seq c17_28 (fun _ => .ret)
def c17_30 : XC := fun _ => .seq c17_27 c17_29
def c17_31 : XC := fun _ => .seq c17_13 c17_30
def c17_32 : XC := fun _ => .seq c17_12 c17_31
def c17_33 : XC := fun _ => .seq c17_1 c17_32
def m_impl_FormatServers : MCode := c17_33 ()
def h_impl_FormatServers : Hints := [(0, [0], [], [], []), (1, [0,6], [], [], []), (2, [2], [], [], []), (3, [0,10], [], [], []), (4, [2], [], [], []), (5, [0,3], [], [], []), (6, [3,14,15,16], [], [], []), (7, [3,14,15,16,17], [], [], []), (8, [3,5,14,15,16], [], [], []), (9, [3,14,15,16], [], [], []), (10, [3,14,15,16], [], [], []), (11, [2], [], [], [])]
def r_impl_FormatServers : List RV := [.t 2]
abbrev n_impl_FormatServers : Nat := 17
theorem k_impl_FormatServers : Known Pr mu n_impl_FormatServers m_impl_FormatServers r_impl_FormatServers Go.Proofs.Tryd.f17.ntmps := .of h_impl_FormatServers hm Go.Proofs.Tryd.func17
def c18_1 : XC := fun _ => .region [] [xo 4 (.mv (xb false))] [0,1]
def c18_2 : XC := fun _ => .region [] [xo 6 (.mv (xt 0)),
 xo 7 (.len false (xt 6)),
 xo 8 (.mv (xt 1)),
 xo 9 (.len false (xt 8)),
 xo 10 (.bin .neq (xt 7) (xt 9))] [0,1,10]
def c18_3 : XC := fun _ => .region [] [xo 4 (.mv (xb false))] [4]
def c18_4 : XC := fun _ => .seq c18_3 (fun _ => .ret)
def c18_5 : XC := fun _ => .cond (xt 10) c18_4 (fun _ => .skip)
def c18_6 : XC := fun _ => .seq c18_2 c18_5
def c18_7 : XC := fun _ => .region [] [xo 5 (.mv (xi 0))] [0,1,5]
def c18_8 : XC := fun _ => .region [] [xo 11 (.mv (xt 5)),
 xo 12 (.mv (xt 0)),
 xo 13 (.len false (xt 12)),
 xo 14 (.bin .lss (xt 11) (xt 13))] [0,1,5,14]
def c18_9 : XC := fun _ => .cond (xt 14) (fun _ => .skip) (fun _ => .exit 0)
def c18_10 : XC := fun _ => .seq c18_8 c18_9
def c18_11 : XC := fun _ => .region [] [xo 17 (.mv (xt 0)),
 xo 18 (.mv (xt 5)),
 xo 19 (.ia (xt 17) (xt 18) 1),
 xo 20 (.ld (xt 19) 1 false),
 xo 21 (.mv (xt 1)),
 xo 22 (.mv (xt 5)),
 ⟨(some 23), .ia (xt 21) (xt 22) 1, none, [0, 1, 2, 3]⟩,
 ⟨(some 24), .ld (xt 23) 1 false, none, [0, 1, 2, 3]⟩,
 xo 25 (.bin .neq (xt 20) (xt 24))] [0,1,5,25]
def c18_12 : XC := fun _ => .region [] [xo 4 (.mv (xb false))] [4]
def c18_13 : XC := fun _ => .seq c18_12 (fun _ => .ret)
def c18_14 : XC := fun _ => .cond (xt 25) c18_13 (fun _ => .skip)
def c18_15 : XC := fun _ => .seq c18_11 c18_14
def c18_16 : XC := fun _ => .block 1 c18_15
def c18_17 : XC := fun _ => .region [] [xo 15 (.mv (xt 5)),
 xo 16 (.bin .add (xt 15) (xi 1)),
 xo 5 (.mv (xt 16))] [0,1,5]
def c18_18 : XC := fun _ => .seq c18_16 c18_17
def c18_19 : XC := fun _ => .seq c18_10 c18_18
def c18_20 : XC := fun _ => .loop c18_19
def c18_21 : XC := fun _ => .block 0 c18_20
def c18_22 : XC := fun _ => .seq c18_7 c18_21
def c18_23 : XC := fun _ => .region [] [xo 4 (.mv (xb true))] [4]
def c18_24 : XC := fun _ => .seq c18_23 (fun _ => .ret)
def c18_25 : XC := fun _ => .seq c18_22 c18_24
def c18_26 : XC := fun _ => .seq c18_6 c18_25
def c18_27 : XC := fun _ => .seq c18_1 c18_26
def m_laws_eqIntS : MCode := c18_27 ()
def h_laws_eqIntS : Hints := [(0, [0,1], [], [], []), (1, [0,1,10], [], [], []), (2, [4], [], [], []), (3, [0,1,5], [], [], []), (4, [0,1,5,14], [], [], []), (6, [0,1,5,25], [[],[],[],[],[],[],[0,1,2,3],[0,1,2,3]], [], []), (7, [4], [], [], []), (5, [0,1,5], [], [], []), (8, [4], [], [], [])]
def r_laws_eqIntS : List RV := [.t 4]
abbrev n_laws_eqIntS : Nat := 18
theorem k_laws_eqIntS : Known Pr mu n_laws_eqIntS m_laws_eqIntS r_laws_eqIntS Go.Proofs.Tryd.f18.ntmps := .of h_laws_eqIntS hm Go.Proofs.Tryd.func18
def c19_1 : XC := fun _ => .region [] [xo 6 (.mv (xb false))] [0,1,2]
def c19_2 : XC := fun _ => .region [] [xo 7 (.mv (xt 0)),
 xo 8 (.mv (xt 1)),
 xo 9 (.bin .geq (xt 7) (xt 8)),
 xo 10 (.mv (xt 9)),
 ⟨(some 11), .mv (xt 0), (some (10, true)), []⟩,
 ⟨(some 12), .mv (xt 2), (some (10, true)), []⟩,
 ⟨(some 13), .bin .leq (xt 11) (xt 12), (some (10, true)), []⟩,
 xo 14 (.pick (xt 10) (xt 13) (xb false)),
 xo 6 (.mv (xt 14))] [6]
def c19_3 : XC := fun _ => .seq c19_2 (fun _ => .ret)
def c19_4 : XC := fun _ => .seq c19_1 c19_3
def m_spec_l1In : MCode := c19_4 ()
def h_spec_l1In : Hints := [(0, [0,1,2], [], [], []), (1, [6], [], [], [])]
def r_spec_l1In : List RV := [.t 6]
abbrev n_spec_l1In : Nat := 19
theorem k_spec_l1In : Known Pr mu n_spec_l1In m_spec_l1In r_spec_l1In Go.Proofs.Tryd.f19.ntmps := .of h_spec_l1In hm Go.Proofs.Tryd.func19
def c20_1 : XC := fun _ => .region [] [xo 2 (.mv (xb false))] [0]
def c20_2 : XC := fun _ => .region [] [xo 3 (.mv (xi 0))] [0,3]
def c20_3 : XC := fun _ => .region [] [xo 4 (.mv (xt 3)),
 xo 5 (.mv (xt 0)),
 xo 6 (.len false (xt 5)),
 xo 7 (.bin .lss (xt 4) (xt 6))] [0,3,7]
def c20_4 : XC := fun _ => .cond (xt 7) (fun _ => .skip) (fun _ => .exit 0)
def c20_5 : XC := fun _ => .seq c20_3 c20_4
def c20_6 : XC := fun _ => .region [] [xo 10 (.mv (xt 0)),
 xo 11 (.mv (xt 3)),
 xo 12 (.ia (xt 10) (xt 11) 1),
 xo 13 (.ld (xt 12) 1 false),
 xo 14 (.call 19 [(xt 13), (xi 0), (xi 4)]),
 xo 15 (.not (xt 14)),
 xo 16 (.mv (xt 15)),
 ⟨(some 17), .mv (xt 3), (some (16, false)), []⟩,
 ⟨(some 18), .bin .gtr (xt 17) (xi 0), (some (16, false)), []⟩,
 ⟨(some 19), .mv (xt 18), (some (16, false)), []⟩,
 ⟨(some 20), .mv (xt 0), (some (19, true)), []⟩,
 ⟨(some 21), .mv (xt 3), (some (19, true)), []⟩,
 ⟨(some 22), .bin .sub (xt 21) (xi 1), (some (19, true)), []⟩,
 ⟨(some 23), .ia (xt 20) (xt 22) 1, (some (19, true)), []⟩,
 ⟨(some 24), .ld (xt 23) 1 false, (some (19, true)), []⟩,
 ⟨(some 25), .mv (xt 0), (some (19, true)), []⟩,
 ⟨(some 26), .mv (xt 3), (some (19, true)), []⟩,
 ⟨(some 27), .ia (xt 25) (xt 26) 1, (some (19, true)), [10, 11, 12, 13, 14]⟩,
 ⟨(some 28), .ld (xt 27) 1 false, (some (19, true)), [10, 11, 12, 13, 14]⟩,
 ⟨(some 29), .bin .geq (xt 24) (xt 28), (some (19, true)), []⟩,
 ⟨(some 30), .pick (xt 19) (xt 29) (xb false), (some (16, false)), []⟩,
 xo 31 (.pick (xt 16) (xb true) (xt 30))] [0,3,31]
def c20_7 : XC := fun _ => .region [] [xo 2 (.mv (xb false))] [2]
def c20_8 : XC := fun _ => .seq c20_7 (fun _ => .ret)
def c20_9 : XC := fun _ => .cond (xt 31) c20_8 (fun _ => .skip)
def c20_10 : XC := fun _ => .seq c20_6 c20_9
def c20_11 : XC := fun _ => .block 1 c20_10
def c20_12 : XC := fun _ => .region [] [xo 8 (.mv (xt 3)),
 xo 9 (.bin .add (xt 8) (xi 1)),
 xo 3 (.mv (xt 9))] [0,3]
def c20_13 : XC := fun _ => .seq c20_11 c20_12
def c20_14 : XC := fun _ => .seq c20_5 c20_13
def c20_15 : XC := fun _ => .loop c20_14
def c20_16 : XC := fun _ => .block 0 c20_15
def c20_17 : XC := fun _ => .seq c20_2 c20_16
def c20_18 : XC := fun _ => .region [] [xo 2 (.mv (xb true))] [2]
def c20_19 : XC := fun _ => .seq c20_18 (fun _ => .ret)
def c20_20 : XC := fun _ => .seq c20_17 c20_19
def c20_21 : XC := fun _ => .seq c20_1 c20_20
def m_spec_AreServers : MCode := c20_21 ()
def h_spec_AreServers : Hints := [(0, [0], [], [], []), (1, [0,3], [], [], []), (2, [0,3,7], [], [], []), (4, [0,3,31], [[],[],[],[],[],[],[],[],[],[],[],[],[],[],[],[],[],[10,11,12,13,14],[10,11,12,13,14]], [], []), (5, [2], [], [], []), (3, [0,3], [], [], []), (6, [2], [], [], [])]
def r_spec_AreServers : List RV := [.t 2]
abbrev n_spec_AreServers : Nat := 20
theorem k_spec_AreServers : Known Pr mu n_spec_AreServers m_spec_AreServers r_spec_AreServers Go.Proofs.Tryd.f20.ntmps := .of h_spec_AreServers hm Go.Proofs.Tryd.func20
def c21_1 : XC := fun _ => .region [] [xo 4 (.mv (xb false))] [0,1]
def c21_2 : XC := fun _ => .region [] [xo 5 (.mv (xi 0))] [0,1,5]
def c21_3 : XC := fun _ => .region [] [xo 6 (.mv (xt 5)),
 xo 7 (.mv (xt 0)),
 xo 8 (.len false (xt 7)),
 xo 9 (.bin .lss (xt 6) (xt 8))] [0,1,5,9]
def c21_4 : XC := fun _ => .cond (xt 9) (fun _ => .skip) (fun _ => .exit 0)
def c21_5 : XC := fun _ => .seq c21_3 c21_4
def c21_6 : XC := fun _ => .region [] [xo 12 (.mv (xt 0)),
 xo 13 (.mv (xt 5)),
 xo 14 (.ia (xt 12) (xt 13) 1),
 xo 15 (.ld (xt 14) 1 false),
 xo 16 (.mv (xt 1)),
 xo 17 (.bin .eql (xt 15) (xt 16))] [0,1,5,17]
def c21_7 : XC := fun _ => .region [] [xo 4 (.mv (xb true))] [4]
def c21_8 : XC := fun _ => .seq c21_7 (fun _ => .ret)
def c21_9 : XC := fun _ => .cond (xt 17) c21_8 (fun _ => .skip)
def c21_10 : XC := fun _ => .seq c21_6 c21_9
def c21_11 : XC := fun _ => .block 1 c21_10
def c21_12 : XC := fun _ => .region [] [xo 10 (.mv (xt 5)),
 xo 11 (.bin .add (xt 10) (xi 1)),
 xo 5 (.mv (xt 11))] [0,1,5]
def c21_13 : XC := fun _ => .seq c21_11 c21_12
def c21_14 : XC := fun _ => .seq c21_5 c21_13
def c21_15 : XC := fun _ => .loop c21_14
def c21_16 : XC := fun _ => .block 0 c21_15
def c21_17 : XC := fun _ => .seq c21_2 c21_16
def c21_18 : XC := fun _ => .region [] [xo 4 (.mv (xb false))] [4]
def c21_19 : XC := fun _ => .seq c21_18 (fun _ => .ret)
def c21_20 : XC := fun _ => .seq c21_17 c21_19
def c21_21 : XC := fun _ => .seq c21_1 c21_20
def m_spec_HasServer : MCode := c21_21 ()
def h_spec_HasServer : Hints := [(0, [0,1], [], [], []), (1, [0,1,5], [], [], []), (2, [0,1,5,9], [], [], []), (4, [0,1,5,17], [], [], []), (5, [4], [], [], []), (3, [0,1,5], [], [], []), (6, [4], [], [], [])]
def r_spec_HasServer : List RV := [.t 4]
abbrev n_spec_HasServer : Nat := 21
theorem k_spec_HasServer : Known Pr mu n_spec_HasServer m_spec_HasServer r_spec_HasServer Go.Proofs.Tryd.f21.ntmps := .of h_spec_HasServer hm Go.Proofs.Tryd.func21
def c22_1 : XC := fun _ => .region [] [xo 4 (.mv (.const (.slice none 0 0)))] [0,1]
def c22_2 : XC := fun _ => .region [] [xo 7 (.bsl 1 0 [.int .i64 0] []),
 xo 5 (.mv (xt 7))] [0,1,5]
def c22_3 : XC := fun _ => .region [] [xo 6 (.mv (xi 0))] [0,1,5,6]
def c22_4 : XC := fun _ => .region [] [xo 8 (.mv (xt 6)),
 xo 9 (.mv (xt 0)),
 xo 10 (.len false (xt 9)),
 xo 11 (.bin .lss (xt 8) (xt 10))] [0,1,5,6,11]
def c22_5 : XC := fun _ => .cond (xt 11) (fun _ => .skip) (fun _ => .exit 0)
def c22_6 : XC := fun _ => .seq c22_4 c22_5
def c22_7 : XC := fun _ => .region [] [xo 14 (.mv (xt 1)),
 xo 15 (.mv (xt 0)),
 xo 16 (.mv (xt 6)),
 xo 17 (.ia (xt 15) (xt 16) 1),
 xo 18 (.ld (xt 17) 1 false),
 xo 19 (.call 21 [(xt 14), (xt 18)])] [0,1,5,6,19]
def c22_8 : XC := fun _ => .region [] [xo 20 (.mv (xt 5)),
 xo 21 (.mv (xt 0)),
 xo 22 (.mv (xt 6)),
 xo 23 (.ia (xt 21) (xt 22) 1),
 xo 24 (.ld (xt 23) 1 false),
 xo 25 (.call 31 [(xt 20), (xt 24)]),
 xo 5 (.mv (xt 25))] [0,1,5,6]
def c22_9 : XC := fun _ => .cond (xt 19) c22_8 (fun _ => .skip)
def c22_10 : XC := fun _ => .seq c22_7 c22_9
def c22_11 : XC := fun _ => .block 1 c22_10
def c22_12 : XC := fun _ => .region [] [xo 12 (.mv (xt 6)),
 xo 13 (.bin .add (xt 12) (xi 1)),
 xo 6 (.mv (xt 13))] [0,1,5,6]
def c22_13 : XC := fun _ => .seq c22_11 c22_12
def c22_14 : XC := fun _ => .seq c22_6 c22_13
def c22_15 : XC := fun _ => .loop c22_14
def c22_16 : XC := fun _ => .block 0 c22_15
def c22_17 : XC := fun _ => .seq c22_3 c22_16
def c22_18 : XC := fun _ => .region [] [xo 26 (.mv (xt 5)),
 xo 4 (.mv (xt 26))] [4]
def c22_19 : XC := fun _ => .seq c22_18 (fun _ => .ret)
def c22_20 : XC := fun _ => .seq c22_17 c22_19
def c22_21 : XC := fun _ => .seq c22_2 c22_20
def c22_22 : XC := fun _ => .seq c22_1 c22_21
def m_spec_CommonServers : MCode := c22_22 ()
def h_spec_CommonServers : Hints := [(0, [0,1], [], [], []), (1, [0,1,5], [], [], []), (2, [0,1,5,6], [], [], []), (3, [0,1,5,6,11], [], [], []), (5, [0,1,5,6,19], [], [], []), (6, [0,1,5,6], [], [], []), (4, [0,1,5,6], [], [], []), (7, [4], [], [], [])]
def r_spec_CommonServers : List RV := [.t 4]
abbrev n_spec_CommonServers : Nat := 22
theorem k_spec_CommonServers : Known Pr mu n_spec_CommonServers m_spec_CommonServers r_spec_CommonServers Go.Proofs.Tryd.f22.ntmps := .of h_spec_CommonServers hm Go.Proofs.Tryd.func22
def c23_1 : XC := fun _ => .region [] [xo 6 (.mv (xb false))] [0,1,2]
def c23_2 : XC := fun _ => .region [] [xo 7 (.mv (xt 1)),
 xo 8 (.mv (xt 0)),
 xo 9 (.bin .leq (xt 7) (xt 8)),
 xo 10 (.mv (xt 9)),
 ⟨(some 11), .mv (xt 0), (some (10, true)), []⟩,
 ⟨(some 12), .mv (xt 2), (some (10, true)), []⟩,
 ⟨(some 13), .bin .leq (xt 11) (xt 12), (some (10, true)), []⟩,
 xo 14 (.pick (xt 10) (xt 13) (xb false)),
 xo 6 (.mv (xt 14))] [6]
def c23_3 : XC := fun _ => .seq c23_2 (fun _ => .ret)
def c23_4 : XC := fun _ => .seq c23_1 c23_3
def m_impl_within : MCode := c23_4 ()
def h_impl_within : Hints := [(0, [0,1,2], [], [], []), (1, [6], [], [], [])]
def r_impl_within : List RV := [.t 6]
abbrev n_impl_within : Nat := 23
theorem k_impl_within : Known Pr mu n_impl_within m_impl_within r_impl_within Go.Proofs.Tryd.f23.ntmps := .of h_impl_within hm Go.Proofs.Tryd.func23
def c24_1 : XC := fun _ => .region [] [xo 2 (.mv (xb false))] [0]
def c24_2 : XC := fun _ => .region [] [xo 5 (.mv (xt 0)),
 xo 6 (.len false (xt 5)),
 xo 7 (.mv (xi 0))] [0,5,6,7]
def c24_3 : XC := fun _ => .region [] [xo 8 (.bin .lss (xt 7) (xt 6))] [0,5,6,7,8]
def c24_4 : XC := fun _ => .cond (xt 8) (fun _ => .skip) (fun _ => .exit 0)
def c24_5 : XC := fun _ => .region [] [xo 9 (.mv (xt 7)),
 xo 10 (.ia (xt 5) (xt 7) 1),
 xo 11 (.ld (xt 10) 1 false),
 xo 3 (.mv (xt 9)),
 xo 4 (.mv (xt 11))] [0,3,4,5,6,7]
def c24_6 : XC := fun _ => .region [] [xo 12 (.mv (xt 4)),
 xo 13 (.call 23 [(xt 12), (xi 0), (xi 4)]),
 xo 14 (.not (xt 13)),
 xo 15 (.mv (xt 14)),
 ⟨(some 16), .mv (xt 3), (some (15, false)), []⟩,
 ⟨(some 17), .bin .gtr (xt 16) (xi 0), (some (15, false)), []⟩,
 ⟨(some 18), .mv (xt 17), (some (15, false)), []⟩,
 ⟨(some 19), .mv (xt 4), (some (18, true)), []⟩,
 ⟨(some 20), .mv (xt 0), (some (18, true)), []⟩,
 ⟨(some 21), .mv (xt 3), (some (18, true)), []⟩,
 ⟨(some 22), .bin .sub (xt 21) (xi 1), (some (18, true)), []⟩,
 ⟨(some 23), .ia (xt 20) (xt 22) 1, (some (18, true)), []⟩,
 ⟨(some 24), .ld (xt 23) 1 false, (some (18, true)), []⟩,
 ⟨(some 25), .bin .leq (xt 19) (xt 24), (some (18, true)), []⟩,
 ⟨(some 26), .pick (xt 18) (xt 25) (xb false), (some (15, false)), []⟩,
 xo 27 (.pick (xt 15) (xb true) (xt 26))] [0,5,6,7,27]
def c24_7 : XC := fun _ => .region [] [xo 2 (.mv (xb false))] [2]
def c24_8 : XC := fun _ => .seq c24_7 (fun _ => .ret)
def c24_9 : XC := fun _ => .cond (xt 27) c24_8 (fun _ => .skip)
def c24_10 : XC := fun _ => .seq c24_6 c24_9
def c24_11 : XC := fun _ => .seq c24_5 c24_10
def c24_12 : XC := fun _ => .block 1 c24_11
def c24_13 : XC := fun _ => .region [] [xo 28 (.bin .add (xt 7) (xi 1)),
 xo 7 (.mv (xt 28))] [0,5,6,7]
def c24_14 : XC := fun _ => .seq c24_12 c24_13
def c24_15 : XC := fun _ => .seq c24_4 c24_14
def c24_16 : XC := fun _ => .seq c24_3 c24_15
def c24_17 : XC := fun _ => .loop c24_16
def c24_18 : XC := fun _ => .block 0 c24_17
def c24_19 : XC := fun _ => .seq c24_2 c24_18
def c24_20 : XC := fun _ => .region [] [xo 2 (.mv (xb true))] [2]
def c24_21 : XC := fun _ => .seq c24_20 (fun _ => .ret)
def c24_22 : XC := fun _ => .seq c24_19 c24_21
def c24_23 : XC := fun _ => .seq c24_1 c24_22
def m_impl_AreServers : MCode := c24_23 ()
def h_impl_AreServers : Hints := [(0, [0], [], [], []), (1, [0,5,6,7], [], [], []), (2, [0,5,6,7,8], [], [], []), (3, [0,3,4,5,6,7], [], [], []), (4, [0,5,6,7,27], [], [], []), (5, [2], [], [], []), (6, [0,5,6,7], [], [], []), (7, [2], [], [], [])]
def r_impl_AreServers : List RV := [.t 2]
abbrev n_impl_AreServers : Nat := 24
theorem k_impl_AreServers : Known Pr mu n_impl_AreServers m_impl_AreServers r_impl_AreServers Go.Proofs.Tryd.f24.ntmps := .of h_impl_AreServers hm Go.Proofs.Tryd.func24
def c25_1 : XC := fun _ => .region [] [xo 4 (.mv (xb false))] [0,1]
def c25_2 : XC := fun _ => .region [] [xo 5 (.mv (xt 0)),
 xo 6 (.mv (xt 1)),
 xo 7 (.call 32 [(xt 5), (xt 6)]),
 xo 4 (.mv (xt 7))] [4]
def c25_3 : XC := fun _ => .seq c25_2 (fun _ => .ret)
def c25_4 : XC := fun _ => .seq c25_1 c25_3
def m_impl_HasServer : MCode := c25_4 ()
def h_impl_HasServer : Hints := [(0, [0,1], [], [], []), (1, [4], [], [], [])]
def r_impl_HasServer : List RV := [.t 4]
abbrev n_impl_HasServer : Nat := 25
theorem k_impl_HasServer : Known Pr mu n_impl_HasServer m_impl_HasServer r_impl_HasServer Go.Proofs.Tryd.f25.ntmps := .of h_impl_HasServer hm Go.Proofs.Tryd.func25
def c26_1 : XC := fun _ => .region [] [xo 4 (.mv (.const (.slice none 0 0)))] [0,1]
def c26_2 : XC := fun _ => .region [] [xo 5 (.mv (xt 0)),
 xo 6 (.mv (xt 0)),
 xo 7 (.mv (xt 1)),
 xo 8 (.call 33 [(xt 6), (xt 7)]),
 xo 9 (.call 33 [(xt 5), (xt 8)]),
 xo 4 (.mv (xt 9))] [4]
def c26_3 : XC := fun _ => .seq c26_2 (fun _ => .ret)
def c26_4 : XC := fun _ => .seq c26_1 c26_3
def m_impl_CommonServers : MCode := c26_4 ()
def h_impl_CommonServers : Hints := [(0, [0,1], [], [], []), (1, [4], [], [], [])]
def r_impl_CommonServers : List RV := [.t 4]
abbrev n_impl_CommonServers : Nat := 26
theorem k_impl_CommonServers : Known Pr mu n_impl_CommonServers m_impl_CommonServers r_impl_CommonServers Go.Proofs.Tryd.f26.ntmps := .of h_impl_CommonServers hm Go.Proofs.Tryd.func26
def c30_1 : XC := fun _ => .region [] [xo 2 (.mv (.const (.string ⟨#[]⟩)))] [0]
def c30_2 : XC := fun _ => .region [] [xo 3 (.mv (xt 0)),
 xo 4 (.call 36 [(xt 3)]),
 xo 2 (.mv (xt 4))] [2]
def c30_3 : XC := fun _ => .seq c30_2 (fun _ => .ret)
def c30_4 : XC := fun _ => .seq c30_1 c30_3
def m_strconv_Itoa : MCode := c30_4 ()
def h_strconv_Itoa : Hints := [(0, [0], [], [], []), (1, [2], [], [], [])]
def r_strconv_Itoa : List RV := [.t 2]
abbrev n_strconv_Itoa : Nat := 30
theorem k_strconv_Itoa : Known Pr mu n_strconv_Itoa m_strconv_Itoa r_strconv_Itoa Go.Proofs.Tryd.f30.ntmps := .of h_strconv_Itoa hm Go.Proofs.Tryd.func30
def c31_1 : XC := fun _ => .region [] [xo 4 (.mv (.const (.slice none 0 0)))] [0,1]
def c31_2 : XC := fun _ => .region [] [xo 5 (.mv (xi 0))] [0,1,5]
def c31_3 : XC := fun _ => .region [] [xo 6 (.mv (xt 5)),
 xo 7 (.mv (xt 0)),
 xo 8 (.len false (xt 7)),
 xo 9 (.bin .lss (xt 6) (xt 8)),
 xo 10 (.mv (xt 9)),
 ⟨(some 11), .mv (xt 0), (some (10, true)), []⟩,
 ⟨(some 12), .mv (xt 5), (some (10, true)), []⟩,
 ⟨(some 13), .ia (xt 11) (xt 12) 1, (some (10, true)), []⟩,
 ⟨(some 14), .ld (xt 13) 1 false, (some (10, true)), []⟩,
 ⟨(some 15), .mv (xt 1), (some (10, true)), []⟩,
 ⟨(some 16), .bin .lss (xt 14) (xt 15), (some (10, true)), []⟩,
 xo 17 (.pick (xt 10) (xt 16) (xb false))] [0,1,5,17]
def c31_4 : XC := fun _ => .cond (xt 17) (fun _ => .skip) (fun _ => .exit 0)
def c31_5 : XC := fun _ => .seq c31_3 c31_4
def c31_6 : XC := fun _ => .region [] [xo 18 (.mv (xt 5)),
 xo 19 (.bin .add (xt 18) (xi 1)),
 xo 5 (.mv (xt 19))] [0,1,5]
def c31_7 : XC := fun _ => .block 1 c31_6
def c31_8 : XC := fun _ => .seq c31_5 c31_7
def c31_9 : XC := fun _ => .loop c31_8
def c31_10 : XC := fun _ => .block 0 c31_9
def c31_11 : XC := fun _ => .region [] [xo 20 (.mv (xt 5)),
 xo 21 (.mv (xt 0)),
 xo 22 (.len false (xt 21)),
 xo 23 (.bin .lss (xt 20) (xt 22)),
 xo 24 (.mv (xt 23)),
 ⟨(some 25), .mv (xt 0), (some (24, true)), []⟩,
 ⟨(some 26), .mv (xt 5), (some (24, true)), []⟩,
 ⟨(some 27), .ia (xt 25) (xt 26) 1, (some (24, true)), []⟩,
 ⟨(some 28), .ld (xt 27) 1 false, (some (24, true)), []⟩,
 ⟨(some 29), .mv (xt 1), (some (24, true)), []⟩,
 ⟨(some 30), .bin .eql (xt 28) (xt 29), (some (24, true)), []⟩,
 xo 31 (.pick (xt 24) (xt 30) (xb false))] [0,1,5,31]
def c31_12 : XC := fun _ => .region [] [xo 32 (.bsl 1 0 [.int .i64 0] []),
 xo 33 (.mv (xt 0)),
 xo 34 (.app (xt 32) (xt 33) 1 8),
 xo 4 (.mv (xt 34))] [4]
def c31_13 : XC := fun _ => .seq c31_12 (fun _ => .ret)
def c31_14 : XC := fun _ => .cond (xt 31) c31_13 (fun _ => .skip)
def c31_15 : XC := fun _ => .seq c31_11 c31_14
def c31_16 : XC := fun _ => .region [xo 43 (.mv (xt 0)), xo 44 (.mv (xt 5)), xo 45 (.slf (xt 43) (some (xt 44)) none 1)] [xo 35 (.bsl 1 0 [.int .i64 0] []),
 xo 36 (.mv (xt 0)),
 xo 37 (.mv (xt 5)),
 ⟨(some 38), .slc false (xt 36) none (some (xt 37)) none 1, none, [0]⟩,
 ⟨(some 39), .appn (xt 35) (xt 38) 1 8, none, [1000000]⟩,
 xo 40 (.mv (xt 1)),
 xo 41 (.bsl 1 1 [.int .i64 0] [(0, (xt 40))]),
 xo 42 (.app (xt 39) (xt 41) 1 8),
 ⟨(some 43), .mv (xt 43), none, []⟩,
 ⟨(some 44), .mv (xt 44), none, []⟩,
 ⟨(some 45), .mv (xt 45), none, []⟩,
 xo 46 (.app (xt 42) (xt 45) 1 8),
 xo 4 (.mv (xt 46))] [4]
def c31_17 : XC := fun _ => .seq c31_16 (fun _ => .ret)
def c31_18 : XC := fun _ => .seq c31_15 c31_17
def c31_19 : XC := fun _ => .seq c31_10 c31_18
def c31_20 : XC := fun _ => .seq c31_2 c31_19
def c31_21 : XC := fun _ => .seq c31_1 c31_20
def m_spec_l2Put : MCode := c31_21 ()
def h_spec_l2Put : Hints := [(0, [0,1], [], [], []), (1, [0,1,5], [], [], []), (2, [0,1,5,17], [], [], []), (3, [0,1,5], [], [], []), (4, [0,1,5,31], [], [], []), (5, [4], [], [], []), (6, [4], [[],[],[],[0],[1000000]], [8,9,10], [])]
def r_spec_l2Put : List RV := [.t 4]
abbrev n_spec_l2Put : Nat := 31
theorem k_spec_l2Put : Known Pr mu n_spec_l2Put m_spec_l2Put r_spec_l2Put Go.Proofs.Tryd.f31.ntmps := .of h_spec_l2Put hm Go.Proofs.Tryd.func31
def c32_1 : XC := fun _ => .region [] [xo 4 (.mv (xb false))] [0,1]
def c32_2 : XC := fun _ => .region [] [xo 5 (.mv (xt 0)),
 xo 6 (.mv (xt 1)),
 xo 7 (.call 37 [(xt 5), (xt 6)]),
 xo 8 (.bin .geq (xt 7) (xi 0)),
 xo 4 (.mv (xt 8))] [4]
def c32_3 : XC := fun _ => .seq c32_2 (fun _ => .ret)
def c32_4 : XC := fun _ => .seq c32_1 c32_3
def m_slices_Contains_intint : MCode := c32_4 ()
def h_slices_Contains_intint : Hints := [(0, [0,1], [], [], []), (1, [4], [], [], [])]
def r_slices_Contains_intint : List RV := [.t 4]
abbrev n_slices_Contains_intint : Nat := 32
theorem k_slices_Contains_intint : Known Pr mu n_slices_Contains_intint m_slices_Contains_intint r_slices_Contains_intint Go.Proofs.Tryd.f32.ntmps := .of h_slices_Contains_intint hm Go.Proofs.Tryd.func32
def c33_1 : XC := fun _ => .region [] [xo 3 (.box (xt 1)),
 xo 4 (.mv (.const (.slice none 0 0)))] [0,3]
def c33_2 : XC := fun _ => .region [] [xo 5 (.mv (xt 0)),
 xo 6 (.call 39 [(xt 5)]),
 xo 7 (.mkf 40 [(xt 3)]),
 xo 8 (.callm 38 [(xt 6), (xt 7)]),
 xo 4 (.mv (xt 8))] [4]
def c33_3 : XC := fun _ => .seq c33_2 (fun _ => .ret)
def c33_4 : XC := fun _ => .seq c33_1 c33_3
def m_impl_WithoutServers : MCode := c33_4 ()
def h_impl_WithoutServers : Hints := [(0, [0,3], [], [], []), (1, [4], [], [], [])]
def r_impl_WithoutServers : List RV := [.t 4]
abbrev n_impl_WithoutServers : Nat := 33
theorem k_impl_WithoutServers : Known Pr mu n_impl_WithoutServers m_impl_WithoutServers r_impl_WithoutServers Go.Proofs.Tryd.f33.ntmps := .of h_impl_WithoutServers hm Go.Proofs.Tryd.func33
def c36_1 : XC := fun _ => .region [] [xo 2 (.mv (.const (.string ⟨#[]⟩)))] [0]
def c36_2 : XC := fun _ => .region [] [xo 3 (.mv (xt 0)),
 xo 4 (.call 43 [(xt 3), (xi 10)]),
 xo 2 (.mv (xt 4))] [2]
def c36_3 : XC := fun _ => .seq c36_2 (fun _ => .ret)
def c36_4 : XC := fun _ => .seq c36_1 c36_3
def m_internal_strconv_Itoa : MCode := c36_4 ()
def h_internal_strconv_Itoa : Hints := [(0, [0], [], [], []), (1, [2], [], [], [])]
def r_internal_strconv_Itoa : List RV := [.t 2]
abbrev n_internal_strconv_Itoa : Nat := 36
theorem k_internal_strconv_Itoa : Known Pr mu n_internal_strconv_Itoa m_internal_strconv_Itoa r_internal_strconv_Itoa Go.Proofs.Tryd.f36.ntmps := .of h_internal_strconv_Itoa hm Go.Proofs.Tryd.func36
def c37_1 : XC := fun _ => .region [] [xo 4 (.mv (xi 0))] [0,1]
def c37_2 : XC := fun _ => .region [] [xo 6 (.mv (xt 0)),
 xo 7 (.len false (xt 6)),
 xo 8 (.mv (xi 0))] [0,1,7,8]
def c37_3 : XC := fun _ => .region [] [xo 9 (.bin .lss (xt 8) (xt 7))] [0,1,7,8,9]
def c37_4 : XC := fun _ => .cond (xt 9) (fun _ => .skip) (fun _ => .exit 0)
def c37_5 : XC := fun _ => .region [] [xo 10 (.mv (xt 8)),
 xo 5 (.mv (xt 10))] [0,1,5,7,8]
def c37_6 : XC := fun _ => .region [] [xo 11 (.mv (xt 1)),
 xo 12 (.mv (xt 0)),
 xo 13 (.mv (xt 5)),
 xo 14 (.ia (xt 12) (xt 13) 1),
 xo 15 (.ld (xt 14) 1 false),
 xo 16 (.bin .eql (xt 11) (xt 15))] [0,1,5,7,8,16]
def c37_7 : XC := fun _ => .region [] [xo 17 (.mv (xt 5)),
 xo 4 (.mv (xt 17))] [4]
def c37_8 : XC := fun _ => .seq c37_7 (fun _ => .ret)
def c37_9 : XC := fun _ => .cond (xt 16) c37_8 (fun _ => .skip)
def c37_10 : XC := fun _ => .seq c37_6 c37_9
def c37_11 : XC := fun _ => .seq c37_5 c37_10
def c37_12 : XC := fun _ => .block 1 c37_11
def c37_13 : XC := fun _ => .region [] [xo 18 (.bin .add (xt 8) (xi 1)),
 xo 8 (.mv (xt 18))] [0,1,7,8]
def c37_14 : XC := fun _ => .seq c37_12 c37_13
def c37_15 : XC := fun _ => .seq c37_4 c37_14
def c37_16 : XC := fun _ => .seq c37_3 c37_15
def c37_17 : XC := fun _ => .loop c37_16
def c37_18 : XC := fun _ => .block 0 c37_17
def c37_19 : XC := fun _ => .seq c37_2 c37_18
def c37_20 : XC := fun _ => .region [] [xo 4 (.mv (xi (-1)))] [4]
def c37_21 : XC := fun _ => .seq c37_20 (fun _ => .ret)
def c37_22 : XC := fun _ => .seq c37_19 c37_21
def c37_23 : XC := fun _ => .seq c37_1 c37_22
def m_slices_Index_intint : MCode := c37_23 ()
def h_slices_Index_intint : Hints := [(0, [0,1], [], [], []), (1, [0,1,7,8], [], [], []), (2, [0,1,7,8,9], [], [], []), (3, [0,1,5,7,8], [], [], []), (4, [0,1,5,7,8,16], [], [], []), (5, [4], [], [], []), (6, [0,1,7,8], [], [], []), (7, [4], [], [], [])]
def r_slices_Index_intint : List RV := [.t 4]
abbrev n_slices_Index_intint : Nat := 37
theorem k_slices_Index_intint : Known Pr mu n_slices_Index_intint m_slices_Index_intint r_slices_Index_intint Go.Proofs.Tryd.f37.ntmps := .of h_slices_Index_intint hm Go.Proofs.Tryd.func37
def c38_1 : XC := fun _ => .region [] [xo 4 (.mv (.const (.slice none 0 0)))] [0,1]
def c38_2 : XC := fun _ => .region [] [xo 8 (.mv (xt 0)),
 xo 9 (.mv (xt 1)),
 xo 10 (.call 44 [(xt 8), (xt 9)]),
 xo 5 (.mv (xt 10))] [0,1,5]
def c38_3 : XC := fun _ => .region [] [xo 11 (.mv (xt 5)),
 xo 12 (.bin .eql (xt 11) (xi (-1)))] [0,1,5,12]
def c38_4 : XC := fun _ => .region [] [xo 13 (.mv (xt 0)),
 xo 4 (.mv (xt 13))] [4]
def c38_5 : XC := fun _ => .seq c38_4 (fun _ => .ret)
def c38_6 : XC := fun _ => .cond (xt 12) c38_5 (fun _ => .skip)
def c38_7 : XC := fun _ => .seq c38_3 c38_6
def c38_8 : XC := fun _ => .region [] [xo 14 (.mv (xt 5)),
 xo 15 (.bin .add (xt 14) (xi 1)),
 xo 6 (.mv (xt 15))] [0,1,5,6]
def c38_9 : XC := fun _ => .region [] [xo 16 (.mv (xt 6)),
 xo 17 (.mv (xt 0)),
 xo 18 (.len false (xt 17)),
 xo 19 (.bin .lss (xt 16) (xt 18))] [0,1,5,6,19]
def c38_10 : XC := fun _ => .cond (xt 19) (fun _ => .skip) (fun _ => .exit 0)
def c38_11 : XC := fun _ => .seq c38_9 c38_10
def c38_12 : XC := fun _ => .region [] [xo 22 (.mv (xt 0)),
 xo 23 (.mv (xt 6)),
 xo 24 (.ia (xt 22) (xt 23) 1),
 xo 25 (.ld (xt 24) 1 false),
 xo 7 (.mv (xt 25))] [0,1,5,6,7]
def c38_13 : XC := fun _ => .region [] [xo 26 (.mv (xt 1)),
 xo 27 (.mv (xt 7)),
 xo 28 (.callv (xt 26) [(xt 27)]),
 xo 29 (.not (xt 28))] [0,1,5,6,7,29]
def c38_14 : XC := fun _ => .region [] [xo 30 (.mv (xt 0)),
 xo 31 (.mv (xt 5)),
 xo 32 (.mv (xt 7)),
 xo 33 (.ia (xt 30) (xt 31) 1),
 xn (.sto (xt 33) (xt 32) 1)] [0,1,5,6]
def c38_15 : XC := fun _ => .region [] [xo 34 (.mv (xt 5)),
 xo 35 (.bin .add (xt 34) (xi 1)),
 xo 5 (.mv (xt 35))] [0,1,5,6]
def c38_16 : XC := fun _ => .seq c38_14 c38_15
def c38_17 : XC := fun _ => .cond (xt 29) c38_16 (fun _ => .skip)
def c38_18 : XC := fun _ => .seq c38_13 c38_17
def c38_19 : XC := fun _ => .seq c38_12 c38_18
def c38_20 : XC := fun _ => .block 1 c38_19
def c38_21 : XC := fun _ => .region [] [xo 20 (.mv (xt 6)),
 xo 21 (.bin .add (xt 20) (xi 1)),
 xo 6 (.mv (xt 21))] [0,1,5,6]
def c38_22 : XC := fun _ => .seq c38_20 c38_21
def c38_23 : XC := fun _ => .seq c38_11 c38_22
def c38_24 : XC := fun _ => .loop c38_23
def c38_25 : XC := fun _ => .block 0 c38_24
def c38_26 : XC := fun _ => .seq c38_8 c38_25
def c38_27 : XC := fun _ => .region [] [xo 36 (.mv (xt 0)),
 xo 37 (.mv (xt 5)),
 xo 38 (.slc false (xt 36) (some (xt 37)) none none 1),
 xn (.clr (xt 38) 1 [.int .i64 0])] [0,5]
def c38_28 : XC := fun _ => .region [] [xo 39 (.mv (xt 0)),
 xo 40 (.mv (xt 5)),
 xo 41 (.slc false (xt 39) none (some (xt 40)) none 1),
 xo 4 (.mv (xt 41))] [4]
def c38_29 : XC := fun _ => .seq c38_28 (fun _ => .ret)
def c38_30 : XC := fun _ => .seq c38_27 c38_29
def c38_31 : XC := fun _ => .seq c38_26 c38_30
def c38_32 : XC := fun _ => .seq c38_7 c38_31
def c38_33 : XC := fun _ => .seq c38_2 c38_32
def c38_34 : XC := fun _ => .seq c38_1 c38_33
def m_slices_DeleteFunc_intint : MCode := c38_34 ()
def h_slices_DeleteFunc_intint : Hints := [(0, [0,1], [], [], []), (1, [0,1,5], [], [], []), (2, [0,1,5,12], [], [], []), (3, [4], [], [], []), (4, [0,1,5,6], [], [], []), (5, [0,1,5,6,19], [], [], []), (7, [0,1,5,6,7], [], [], []), (8, [0,1,5,6,7,29], [], [], []), (9, [0,1,5,6], [], [], []), (10, [0,1,5,6], [], [], []), (6, [0,1,5,6], [], [], []), (11, [0,5], [], [], []), (12, [4], [], [], [])]
def r_slices_DeleteFunc_intint : List RV := [.t 4]
abbrev n_slices_DeleteFunc_intint : Nat := 38
theorem k_slices_DeleteFunc_intint : Known Pr mu n_slices_DeleteFunc_intint m_slices_DeleteFunc_intint r_slices_DeleteFunc_intint Go.Proofs.Tryd.f38.ntmps := .of h_slices_DeleteFunc_intint hm Go.Proofs.Tryd.func38
def c39_1 : XC := fun _ => .region [] [xo 2 (.mv (.const (.slice none 0 0)))] [0]
def c39_2 : XC := fun _ => .region [] [xo 4 (.mv (xt 0)),
 xo 5 (.call 45 [(xt 4)]),
 xo 3 (.mv (xt 5))] [3]
def c39_3 : XC := fun _ => .region [] [xo 6 (.mv (xt 3)),
 xo 7 (.callm 46 [(xt 6)])] [3]
def c39_4 : XC := fun _ => .region [] [xo 8 (.mv (xt 3)),
 xo 9 (.callm 47 [(xt 8)]),
 xo 2 (.mv (xt 9))] [2]
def c39_5 : XC := fun _ => .seq c39_4 (fun _ => .ret)
def c39_6 : XC := fun _ => .seq c39_3 c39_5
def c39_7 : XC := fun _ => .seq c39_2 c39_6
def c39_8 : XC := fun _ => .seq c39_1 c39_7
def m_impl_ascending : MCode := c39_8 ()
def h_impl_ascending : Hints := [(0, [0], [], [], []), (1, [3], [], [], []), (2, [3], [], [], []), (3, [2], [], [], [])]
def r_impl_ascending : List RV := [.t 2]
abbrev n_impl_ascending : Nat := 39
theorem k_impl_ascending : Known Pr mu n_impl_ascending m_impl_ascending r_impl_ascending Go.Proofs.Tryd.f39.ntmps := .of h_impl_ascending hm Go.Proofs.Tryd.func39
def c40_1 : XC := fun _ => .region [] [xo 3 (.mv (xb false))] [0,1]
def c40_2 : XC := fun _ => .region [] [xo 4 (.ld (xt 1) 1 false),
 xo 5 (.mv (xt 0)),
 xo 6 (.call 25 [(xt 4), (xt 5)]),
 xo 3 (.mv (xt 6))] [3]
def c40_3 : XC := fun _ => .seq c40_2 (fun _ => .ret)
def c40_4 : XC := fun _ => .seq c40_1 c40_3
def m_impl_WithoutServers_c1 : MCode := c40_4 ()
def h_impl_WithoutServers_c1 : Hints := [(0, [0,1], [], [], []), (1, [3], [], [], [])]
def r_impl_WithoutServers_c1 : List RV := [.t 3]
abbrev n_impl_WithoutServers_c1 : Nat := 40
theorem k_impl_WithoutServers_c1 : Known Pr mu n_impl_WithoutServers_c1 m_impl_WithoutServers_c1 r_impl_WithoutServers_c1 Go.Proofs.Tryd.f40.ntmps := .of h_impl_WithoutServers_c1 hm Go.Proofs.Tryd.func40
def c43_1 : XC := fun _ => .region [] [xo 4 (.mv (.const (.string ⟨#[]⟩)))] [0,1]
def c43_2 : XC := fun _ => .region [] [xo 10 (.mv (xt 1)),
 xo 11 (.bin .eql (xt 10) (xi 10))] [0,1,11]
def c43_3 : XC := fun _ => .region [] [xo 12 (.mv (xt 0)),
 xo 13 (.bin .leq (xi 0) (xt 12)),
 xo 14 (.mv (xt 13)),
 ⟨(some 15), .mv (xt 0), (some (14, true)), []⟩,
 ⟨(some 16), .bin .lss (xt 15) (xi 100), (some (14, true)), []⟩,
 xo 17 (.pick (xt 14) (xt 16) (xb false))] [0,17]
def c43_4 : XC := fun _ => .region [] [xo 18 (.mv (xt 0)),
 xo 19 (.call 48 [(xt 18)]),
 xo 4 (.mv (xt 19))] [4]
def c43_5 : XC := fun _ => .seq c43_4 (fun _ => .ret)
def c43_6 : XC := fun _ => .cond (xt 17) c43_5 (fun _ => .skip)
def c43_7 : XC := fun _ => .seq c43_3 c43_6
def c43_8 : XC := fun _ => .region [] [xo 5 (.alloc [.int .u8 0, .int .u8 0, .int .u8 0, .int .u8 0, .int .u8 0, .int .u8 0, .int .u8 0, .int .u8 0, .int .u8 0, .int .u8 0, .int .u8 0, .int .u8 0, .int .u8 0, .int .u8 0, .int .u8 0, .int .u8 0, .int .u8 0, .int .u8 0, .int .u8 0, .int .u8 0, .int .u8 0, .int .u8 0, .int .u8 0, .int .u8 0])] [0,5]
def c43_9 : XC := fun _ => .region [] [xo 20 (.mv (xt 0)),
 xo 21 (.conv .u64 (xt 20)),
 xo 6 (.mv (xt 21))] [0,5,6]
def c43_10 : XC := fun _ => .region [] [xo 22 (.mv (xt 0)),
 xo 23 (.bin .lss (xt 22) (xi 0))] [0,5,6,23]
def c43_11 : XC := fun _ => .region [] [xo 24 (.mv (xt 6)),
 xo 25 (.no),
 xo 6 (.mv (xt 25))] [0,5,6]
def c43_12 : XC := fun _ => .cond (xt 23) c43_11 (fun _ => .skip)
def c43_13 : XC := fun _ => .seq c43_10 c43_12
def c43_14 : XC := fun _ => .region [] [xo 26 (.mv (xt 6)),
 xo 27 (.call 49 [(xt 26)]),
 xo 7 (.mv (xt 27))] [0,5,6,7]
def c43_15 : XC := fun _ => .region [] [xo 28 (.mv (xt 7)),
 xo 29 (.bin .add (xi 1) (xt 28)),
 xo 30 (.no),
 xo 31 (.mv (xt 6)),
 xo 32 (.call 50 [(xt 30), (xt 31)])] [0,5,7]
def c43_16 : XC := fun _ => .region [] [xo 33 (.mv (xt 0)),
 xo 34 (.bin .lss (xt 33) (xi 0))] [5,7,34]
def c43_17 : XC := fun _ => .region [] [xo 35 (.iaa (xt 5) (xi 0) 24 1),
 xn (.sto (xt 35) (.const (.int .u8 45)) 1)] [5,7]
def c43_18 : XC := fun _ => .region [] [xo 36 (.mv (xt 7)),
 xo 37 (.bin .add (xi 1) (xt 36)),
 xo 38 (.no),
 xo 39 (.cst (xt 38)),
 xo 4 (.mv (xt 39))] [4]
def c43_19 : XC := fun _ => .seq c43_18 (fun _ => .ret)
def c43_20 : XC := fun _ => .seq c43_17 c43_19
def c43_21 : XC := fun _ => .cond (xt 34) c43_20 (fun _ => .skip)
def c43_22 : XC := fun _ => .seq c43_16 c43_21
def c43_23 : XC := fun _ => .region [] [xo 40 (.mv (xt 7)),
 xo 41 (.bin .add (xi 1) (xt 40)),
 xo 42 (.no),
 xo 43 (.cst (xt 42)),
 xo 4 (.mv (xt 43))] [4]
def c43_24 : XC := fun _ => .seq c43_23 (fun _ => .ret)
def c43_25 : XC := fun _ => .seq c43_22 c43_24
def c43_26 : XC := fun _ => .seq c43_15 c43_25
def c43_27 : XC := fun _ => .seq c43_14 c43_26
def c43_28 : XC := fun _ => .seq c43_13 c43_27
def c43_29 : XC := fun _ => .seq c43_9 c43_28
def c43_30 : XC := fun _ => .seq c43_8 c43_29
def c43_31 : XC := fun _ => .seq c43_7 c43_30
def c43_32 : XC := fun _ => .cond (xt 11) c43_31 (fun _ => .skip)
def c43_33 : XC := fun _ => .seq c43_2 c43_32
def c43_34 : XC := fun _ => .region [] [xo 45 (.mv (xt 0)),
 xo 46 (.conv .u64 (xt 45)),
 xo 47 (.mv (xt 1)),
 xo 48 (.mv (xt 0)),
 xo 49 (.bin .lss (xt 48) (xi 0)),
 xo 50 (.call 51 [(.const (.slice none 0 0)), (xt 46), (xt 47), (xt 49), (xb false)]),
 xo 44 (.mv (xt 50)),
 xo 51 (.ext (xt 44) 0),
 xo 52 (.ext (xt 44) 1),
 xo 8 (.mv (xt 51)),
 xo 9 (.mv (xt 52))] [9]
def c43_35 : XC := fun _ => .region [] [xo 53 (.mv (xt 9)),
 xo 4 (.mv (xt 53))] [4]
def c43_36 : XC := fun _ => .seq c43_35 (fun _ => .ret)
def c43_37 : XC := fun _ => .seq c43_34 c43_36
def c43_38 : XC := fun _ => .seq c43_33 c43_37
def c43_39 : XC := fun _ => .seq c43_1 c43_38
def m_internal_strconv_FormatInt : MCode := c43_39 ()
def h_internal_strconv_FormatInt : Hints := [(0, [0,1], [], [], []), (1, [0,1,11], [], [], []), (2, [0,17], [], [], []), (3, [4], [], [], []), (4, [0,5], [], [], []), (5, [0,5,6], [], [], []), (6, [0,5,6,23], [], [], []), (7, [0,5,6], [], [], []), (8, [0,5,6,7], [], [], []), (9, [0,5,7], [], [], []), (10, [5,7,34], [], [], []), (11, [5,7], [], [], []), (12, [4], [], [], []), (13, [4], [], [], []), (14, [9], [], [], []), (15, [4], [], [], [])]
def r_internal_strconv_FormatInt : List RV := [.t 4]
abbrev n_internal_strconv_FormatInt : Nat := 43
theorem k_internal_strconv_FormatInt : Known Pr mu n_internal_strconv_FormatInt m_internal_strconv_FormatInt r_internal_strconv_FormatInt Go.Proofs.Tryd.f43.ntmps := .of h_internal_strconv_FormatInt hm Go.Proofs.Tryd.func43
def c44_1 : XC := fun _ => .region [] [xo 4 (.mv (xi 0))] [0,1]
def c44_2 : XC := fun _ => .region [] [xo 6 (.mv (xt 0)),
 xo 7 (.len false (xt 6)),
 xo 8 (.mv (xi 0))] [0,1,7,8]
def c44_3 : XC := fun _ => .region [] [xo 9 (.bin .lss (xt 8) (xt 7))] [0,1,7,8,9]
def c44_4 : XC := fun _ => .cond (xt 9) (fun _ => .skip) (fun _ => .exit 0)
def c44_5 : XC := fun _ => .region [] [xo 10 (.mv (xt 8)),
 xo 5 (.mv (xt 10))] [0,1,5,7,8]
def c44_6 : XC := fun _ => .region [] [xo 11 (.mv (xt 1)),
 xo 12 (.mv (xt 0)),
 xo 13 (.mv (xt 5)),
 xo 14 (.ia (xt 12) (xt 13) 1),
 xo 15 (.ld (xt 14) 1 false),
 xo 16 (.callv (xt 11) [(xt 15)])] [0,1,5,7,8,16]
def c44_7 : XC := fun _ => .region [] [xo 17 (.mv (xt 5)),
 xo 4 (.mv (xt 17))] [4]
def c44_8 : XC := fun _ => .seq c44_7 (fun _ => .ret)
def c44_9 : XC := fun _ => .cond (xt 16) c44_8 (fun _ => .skip)
def c44_10 : XC := fun _ => .seq c44_6 c44_9
def c44_11 : XC := fun _ => .seq c44_5 c44_10
def c44_12 : XC := fun _ => .block 1 c44_11
def c44_13 : XC := fun _ => .region [] [xo 18 (.bin .add (xt 8) (xi 1)),
 xo 8 (.mv (xt 18))] [0,1,7,8]
def c44_14 : XC := fun _ => .seq c44_12 c44_13
def c44_15 : XC := fun _ => .seq c44_4 c44_14
def c44_16 : XC := fun _ => .seq c44_3 c44_15
def c44_17 : XC := fun _ => .loop c44_16
def c44_18 : XC := fun _ => .block 0 c44_17
def c44_19 : XC := fun _ => .seq c44_2 c44_18
def c44_20 : XC := fun _ => .region [] [xo 4 (.mv (xi (-1)))] [4]
def c44_21 : XC := fun _ => .seq c44_20 (fun _ => .ret)
def c44_22 : XC := fun _ => .seq c44_19 c44_21
def c44_23 : XC := fun _ => .seq c44_1 c44_22
def m_slices_IndexFunc_intint : MCode := c44_23 ()
def h_slices_IndexFunc_intint : Hints := [(0, [0,1], [], [], []), (1, [0,1,7,8], [], [], []), (2, [0,1,7,8,9], [], [], []), (3, [0,1,5,7,8], [], [], []), (4, [0,1,5,7,8,16], [], [], []), (5, [4], [], [], []), (6, [0,1,7,8], [], [], []), (7, [4], [], [], [])]
def r_slices_IndexFunc_intint : List RV := [.t 4]
abbrev n_slices_IndexFunc_intint : Nat := 44
theorem k_slices_IndexFunc_intint : Known Pr mu n_slices_IndexFunc_intint m_slices_IndexFunc_intint r_slices_IndexFunc_intint Go.Proofs.Tryd.f44.ntmps := .of h_slices_IndexFunc_intint hm Go.Proofs.Tryd.func44
def c45_1 : XC := fun _ => .region [] [xo 2 (.mv (.const (.slice none 0 0)))] [0]
def c45_2 : XC := fun _ => .region [] [xo 3 (.mv (xt 0)),
 xo 4 (.nbin .eql (xt 3) (.const (.slice none 0 0)))] [0,4]
def c45_3 : XC := fun _ => .region [] [xo 2 (.mv (.const (.slice none 0 0)))] [2]
def c45_4 : XC := fun _ => .seq c45_3 (fun _ => .ret)
def c45_5 : XC := fun _ => .cond (xt 4) c45_4 (fun _ => .skip)
def c45_6 : XC := fun _ => .seq c45_2 c45_5
def c45_7 : XC := fun _ => .region [] [xo 5 (.bsl 1 0 [.int .i64 0] []),
 xo 6 (.mv (xt 0)),
 xo 7 (.app (xt 5) (xt 6) 1 8),
 xo 2 (.mv (xt 7))] [2]
def c45_8 : XC := fun _ => .seq c45_7 (fun _ => .ret)
def c45_9 : XC := fun _ => .seq c45_6 c45_8
def c45_10 : XC := fun _ => .seq c45_1 c45_9
def m_slices_Clone_intint : MCode := c45_10 ()
def h_slices_Clone_intint : Hints := [(0, [0], [], [], []), (1, [0,4], [], [], []), (2, [2], [], [], []), (3, [2], [], [], [])]
def r_slices_Clone_intint : List RV := [.t 2]
abbrev n_slices_Clone_intint : Nat := 45
theorem k_slices_Clone_intint : Known Pr mu n_slices_Clone_intint m_slices_Clone_intint r_slices_Clone_intint Go.Proofs.Tryd.f45.ntmps := .of h_slices_Clone_intint hm Go.Proofs.Tryd.func45
def c46_1 : XC := fun _ => .region [] [xo 3 (.mv (xt 0)),
 xo 4 (.len false (xt 3)),
 xo 2 (.mv (xt 4))] [0,2]
def c46_2 : XC := fun _ => .region [] [xo 5 (.mv (xt 0)),
 xo 6 (.mv (xt 2)),
 xo 7 (.mv (xt 2)),
 xo 8 (.conv .u64 (xt 7)),
 xo 9 (.call 53 [(xt 8)]),
 xo 10 (.callm 52 [(xt 5), (xi 0), (xt 6), (xt 9)])] []
def c46_3 : XC := fun _ => .seq c46_1 c46_2
def m_slices_Sort_intint : MCode := c46_3 ()
def h_slices_Sort_intint : Hints := [(0, [0,2], [], [], []), (1, [], [], [], [])]
def r_slices_Sort_intint : List RV := []
abbrev n_slices_Sort_intint : Nat := 46
theorem k_slices_Sort_intint : Known Pr mu n_slices_Sort_intint m_slices_Sort_intint r_slices_Sort_intint Go.Proofs.Tryd.f46.ntmps := .of h_slices_Sort_intint hm Go.Proofs.Tryd.func46
def c47_1 : XC := fun _ => .region [] [xo 2 (.mv (.const (.slice none 0 0)))] [0]
def c47_2 : XC := fun _ => .region [] [xo 6 (.mv (xt 0)),
 xo 7 (.len false (xt 6)),
 xo 8 (.bin .lss (xt 7) (xi 2))] [0,8]
def c47_3 : XC := fun _ => .region [] [xo 9 (.mv (xt 0)),
 xo 2 (.mv (xt 9))] [2]
def c47_4 : XC := fun _ => .seq c47_3 (fun _ => .ret)
def c47_5 : XC := fun _ => .cond (xt 8) c47_4 (fun _ => .skip)
def c47_6 : XC := fun _ => .seq c47_2 c47_5
def c47_7 : XC := fun _ => .region [] [xo 3 (.mv (xi 1))] [0,3]
def c47_8 : XC := fun _ => .region [] [xo 10 (.mv (xt 3)),
 xo 11 (.mv (xt 0)),
 xo 12 (.len false (xt 11)),
 xo 13 (.bin .lss (xt 10) (xt 12))] [0,3,13]
def c47_9 : XC := fun _ => .cond (xt 13) (fun _ => .skip) (fun _ => .exit 0)
def c47_10 : XC := fun _ => .seq c47_8 c47_9
def c47_11 : XC := fun _ => .region [] [xo 16 (.mv (xt 0)),
 xo 17 (.mv (xt 3)),
 xo 18 (.ia (xt 16) (xt 17) 1),
 xo 19 (.ld (xt 18) 1 false),
 xo 20 (.mv (xt 0)),
 xo 21 (.mv (xt 3)),
 xo 22 (.bin .sub (xt 21) (xi 1)),
 ⟨(some 23), .ia (xt 20) (xt 22) 1, none, [0, 1, 2, 3]⟩,
 ⟨(some 24), .ld (xt 23) 1 false, none, [0, 1, 2, 3]⟩,
 xo 25 (.bin .eql (xt 19) (xt 24))] [0,3,25]
def c47_12 : XC := fun _ => .region [] [xo 26 (.mv (xt 0)),
 xo 27 (.mv (xt 3)),
 xo 28 (.slc false (xt 26) (some (xt 27)) none none 1),
 xo 4 (.mv (xt 28))] [0,3,4]
def c47_13 : XC := fun _ => .region [] [xo 5 (.mv (xi 1))] [0,3,4,5]
def c47_14 : XC := fun _ => .region [] [xo 29 (.mv (xt 5)),
 xo 30 (.mv (xt 4)),
 xo 31 (.len false (xt 30)),
 xo 32 (.bin .lss (xt 29) (xt 31))] [0,3,4,5,32]
def c47_15 : XC := fun _ => .cond (xt 32) (fun _ => .skip) (fun _ => .exit 2)
def c47_16 : XC := fun _ => .seq c47_14 c47_15
def c47_17 : XC := fun _ => .region [] [xo 35 (.mv (xt 4)),
 xo 36 (.mv (xt 5)),
 xo 37 (.ia (xt 35) (xt 36) 1),
 xo 38 (.ld (xt 37) 1 false),
 xo 39 (.mv (xt 4)),
 xo 40 (.mv (xt 5)),
 xo 41 (.bin .sub (xt 40) (xi 1)),
 ⟨(some 42), .ia (xt 39) (xt 41) 1, none, [0, 1, 2, 3]⟩,
 ⟨(some 43), .ld (xt 42) 1 false, none, [0, 1, 2, 3]⟩,
 xo 44 (.bin .neq (xt 38) (xt 43))] [0,3,4,5,44]
def c47_18 : XC := fun _ => .region [] [xo 45 (.mv (xt 0)),
 xo 46 (.mv (xt 3)),
 xo 47 (.mv (xt 4)),
 xo 48 (.mv (xt 5)),
 xo 49 (.ia (xt 47) (xt 48) 1),
 xo 50 (.ld (xt 49) 1 false),
 xo 51 (.ia (xt 45) (xt 46) 1),
 xn (.sto (xt 51) (xt 50) 1)] [0,3,4,5]
def c47_19 : XC := fun _ => .region [] [xo 52 (.mv (xt 3)),
 xo 53 (.bin .add (xt 52) (xi 1)),
 xo 3 (.mv (xt 53))] [0,3,4,5]
def c47_20 : XC := fun _ => .seq c47_18 c47_19
def c47_21 : XC := fun _ => .cond (xt 44) c47_20 (fun _ => .skip)
def c47_22 : XC := fun _ => .seq c47_17 c47_21
def c47_23 : XC := fun _ => .block 3 c47_22
def c47_24 : XC := fun _ => .region [] [xo 33 (.mv (xt 5)),
 xo 34 (.bin .add (xt 33) (xi 1)),
 xo 5 (.mv (xt 34))] [0,3,4,5]
def c47_25 : XC := fun _ => .seq c47_23 c47_24
def c47_26 : XC := fun _ => .seq c47_16 c47_25
def c47_27 : XC := fun _ => .loop c47_26
def c47_28 : XC := fun _ => .block 2 c47_27
def c47_29 : XC := fun _ => .seq c47_13 c47_28
def c47_30 : XC := fun _ => .region [] [xo 54 (.mv (xt 0)),
 xo 55 (.mv (xt 3)),
 xo 56 (.slc false (xt 54) (some (xt 55)) none none 1),
 xn (.clr (xt 56) 1 [.int .i64 0])] [0,3]
def c47_31 : XC := fun _ => .region [] [xo 57 (.mv (xt 0)),
 xo 58 (.mv (xt 3)),
 xo 59 (.slc false (xt 57) none (some (xt 58)) none 1),
 xo 2 (.mv (xt 59))] [2]
def c47_32 : XC := fun _ => .seq c47_31 (fun _ => .ret)
def c47_33 : XC := fun _ => .seq c47_30 c47_32
def c47_34 : XC := fun _ => .seq c47_29 c47_33
def c47_35 : XC := fun _ => .seq c47_12 c47_34
def c47_36 : XC := fun _ => .cond (xt 25) c47_35 (fun _ => .skip)
def c47_37 : XC := fun _ => .seq c47_11 c47_36
def c47_38 : XC := fun _ => .block 1 c47_37
def c47_39 : XC := fun _ => .region [] [xo 14 (.mv (xt 3)),
 xo 15 (.bin .add (xt 14) (xi 1)),
 xo 3 (.mv (xt 15))] [0,3]
def c47_40 : XC := fun _ => .seq c47_38 c47_39
def c47_41 : XC := fun _ => .seq c47_10 c47_40
def c47_42 : XC := fun _ => .loop c47_41
def c47_43 : XC := fun _ => .block 0 c47_42
def c47_44 : XC := fun _ => .seq c47_7 c47_43
def c47_45 : XC := fun _ => .region [] [xo 60 (.mv (xt 0)),
 xo 2 (.mv (xt 60))] [2]
def c47_46 : XC := fun _ => .seq c47_45 (fun _ => .ret)
def c47_47 : XC := fun _ => .seq c47_44 c47_46
def c47_48 : XC := fun _ => .seq c47_6 c47_47
def c47_49 : XC := fun _ => .seq c47_1 c47_48
def m_slices_Compact_intint : MCode := c47_49 ()
def h_slices_Compact_intint : Hints := [(0, [0], [], [], []), (1, [0,8], [], [], []), (2, [2], [], [], []), (3, [0,3], [], [], []), (4, [0,3,13], [], [], []), (6, [0,3,25], [[],[],[],[],[],[],[],[0,1,2,3],[0,1,2,3]], [], []), (7, [0,3,4], [], [], []), (8, [0,3,4,5], [], [], []), (9, [0,3,4,5,32], [], [], []), (11, [0,3,4,5,44], [[],[],[],[],[],[],[],[0,1,2,3],[0,1,2,3]], [], []), (12, [0,3,4,5], [], [], []), (13, [0,3,4,5], [], [], []), (10, [0,3,4,5], [], [], []), (14, [0,3], [], [], []), (15, [2], [], [], []), (5, [0,3], [], [], []), (16, [2], [], [], [])]
def r_slices_Compact_intint : List RV := [.t 2]
abbrev n_slices_Compact_intint : Nat := 47
theorem k_slices_Compact_intint : Known Pr mu n_slices_Compact_intint m_slices_Compact_intint r_slices_Compact_intint Go.Proofs.Tryd.f47.ntmps := .of h_slices_Compact_intint hm Go.Proofs.Tryd.func47
def c48_1 : XC := fun _ => .region [] [xo 2 (.mv (.const (.string ⟨#[]⟩)))] [0]
def c48_2 : XC := fun _ => .region [] [xo 3 (.mv (xt 0)),
 xo 4 (.bin .lss (xt 3) (xi 10))] [0,4]
def c48_3 : XC := fun _ => .region [] [xo 5 (.mv (xt 0)),
 xo 6 (.mv (xt 0)),
 xo 7 (.bin .add (xt 6) (xi 1)),
 xo 8 (.slc true (.const (.string ⟨#[48, 49, 50, 51, 52, 53, 54, 55, 56, 57, 97, 98, 99, 100, 101, 102, 103, 104, 105, 106, 107, 108, 109, 110, 111, 112, 113, 114, 115, 116, 117, 118, 119, 120, 121, 122]⟩)) (some (xt 5)) (some (xt 7)) none 0),
 xo 2 (.mv (xt 8))] [2]
def c48_4 : XC := fun _ => .seq c48_3 (fun _ => .ret)
def c48_5 : XC := fun _ => .cond (xt 4) c48_4 (fun _ => .skip)
def c48_6 : XC := fun _ => .seq c48_2 c48_5
def c48_7 : XC := fun _ => .region [] [xo 9 (.mv (xt 0)),
 xo 10 (.bin .mul (xt 9) (xi 2)),
 xo 11 (.mv (xt 0)),
 xo 12 (.bin .mul (xt 11) (xi 2)),
 xo 13 (.bin .add (xt 12) (xi 2)),
 xo 14 (.slc true (.const (.string ⟨#[48, 48, 48, 49, 48, 50, 48, 51, 48, 52, 48, 53, 48, 54, 48, 55, 48, 56, 48, 57, 49, 48, 49, 49, 49, 50, 49, 51, 49, 52, 49, 53, 49, 54, 49, 55, 49, 56, 49, 57, 50, 48, 50, 49, 50, 50, 50, 51, 50, 52, 50, 53, 50, 54, 50, 55, 50, 56, 50, 57, 51, 48, 51, 49, 51, 50, 51, 51, 51, 52, 51, 53, 51, 54, 51, 55, 51, 56, 51, 57, 52, 48, 52, 49, 52, 50, 52, 51, 52, 52, 52, 53, 52, 54, 52, 55, 52, 56, 52, 57, 53, 48, 53, 49, 53, 50, 53, 51, 53, 52, 53, 53, 53, 54, 53, 55, 53, 56, 53, 57, 54, 48, 54, 49, 54, 50, 54, 51, 54, 52, 54, 53, 54, 54, 54, 55, 54, 56, 54, 57, 55, 48, 55, 49, 55, 50, 55, 51, 55, 52, 55, 53, 55, 54, 55, 55, 55, 56, 55, 57, 56, 48, 56, 49, 56, 50, 56, 51, 56, 52, 56, 53, 56, 54, 56, 55, 56, 56, 56, 57, 57, 48, 57, 49, 57, 50, 57, 51, 57, 52, 57, 53, 57, 54, 57, 55, 57, 56, 57, 57]⟩)) (some (xt 10)) (some (xt 13)) none 0),
 xo 2 (.mv (xt 14))] [2]
def c48_8 : XC := fun _ => .seq c48_7 (fun _ => .ret)
def c48_9 : XC := fun _ => .seq c48_6 c48_8
def c48_10 : XC := fun _ => .seq c48_1 c48_9
def m_internal_strconv_small : MCode := c48_10 ()
def h_internal_strconv_small : Hints := [(0, [0], [], [], []), (1, [0,4], [], [], []), (2, [2], [], [], []), (3, [2], [], [], [])]
def r_internal_strconv_small : List RV := [.t 2]
abbrev n_internal_strconv_small : Nat := 48
theorem k_internal_strconv_small : Known Pr mu n_internal_strconv_small m_internal_strconv_small r_internal_strconv_small Go.Proofs.Tryd.f48.ntmps := .of h_internal_strconv_small hm Go.Proofs.Tryd.func48
def c52_1 : XC := fun _ => .region [] [xo 8 (.mv (xb true))] [0,1,2,3,8]
def c52_2 : XC := fun _ => .region [] [xo 9 (.mv (xb true))] [0,1,2,3,8,9]
def c52_3 : XC := fun _ => .region [] [xo 19 (.mv (xt 2)),
 xo 20 (.mv (xt 1)),
 xo 21 (.bin .sub (xt 19) (xt 20)),
 xo 10 (.mv (xt 21))] [0,1,2,3,8,9,10]
def c52_4 : XC := fun _ => .region [] [xo 22 (.mv (xt 10)),
 xo 23 (.bin .leq (xt 22) (xi 12))] [0,1,2,3,8,9,10,23]
def c52_5 : XC := fun _ => .region [] [xo 24 (.mv (xt 0)),
 xo 25 (.mv (xt 1)),
 xo 26 (.mv (xt 2)),
 xo 27 (.callm 59 [(xt 24), (xt 25), (xt 26)])] []
def c52_6 : XC := fun _ => .seq c52_5 (fun _ => .ret)
def c52_7 : XC := fun _ => .cond (xt 23) c52_6 (fun _ => .skip)
def c52_8 : XC := fun _ => .seq c52_4 c52_7
def c52_9 : XC := fun _ => .region [] [xo 28 (.mv (xt 3)),
 xo 29 (.bin .eql (xt 28) (xi 0))] [0,1,2,3,8,9,10,29]
def c52_10 : XC := fun _ => .region [] [xo 30 (.mv (xt 0)),
 xo 31 (.mv (xt 1)),
 xo 32 (.mv (xt 2)),
 xo 33 (.callm 60 [(xt 30), (xt 31), (xt 32)])] []
def c52_11 : XC := fun _ => .seq c52_10 (fun _ => .ret)
def c52_12 : XC := fun _ => .cond (xt 29) c52_11 (fun _ => .skip)
def c52_13 : XC := fun _ => .seq c52_9 c52_12
def c52_14 : XC := fun _ => .region [] [xo 34 (.mv (xt 8)),
 xo 35 (.not (xt 34))] [0,1,2,3,8,9,10,35]
def c52_15 : XC := fun _ => .region [] [xo 36 (.mv (xt 0)),
 xo 37 (.mv (xt 1)),
 xo 38 (.mv (xt 2)),
 xo 39 (.callm 61 [(xt 36), (xt 37), (xt 38)])] [0,1,2,3,8,9,10]
def c52_16 : XC := fun _ => .region [] [xo 40 (.mv (xt 3)),
 xo 41 (.bin .sub (xt 40) (xi 1)),
 xo 3 (.mv (xt 41))] [0,1,2,3,8,9,10]
def c52_17 : XC := fun _ => .seq c52_15 c52_16
def c52_18 : XC := fun _ => .cond (xt 35) c52_17 (fun _ => .skip)
def c52_19 : XC := fun _ => .seq c52_14 c52_18
def c52_20 : XC := fun _ => .region [] [xo 43 (.mv (xt 0)),
 xo 44 (.mv (xt 1)),
 xo 45 (.mv (xt 2)),
 xo 46 (.call 62 [(xt 43), (xt 44), (xt 45)]),
 xo 42 (.mv (xt 46)),
 xo 47 (.ext (xt 42) 0),
 xo 48 (.ext (xt 42) 1),
 xo 11 (.mv (xt 47)),
 xo 12 (.mv (xt 48))] [0,1,2,3,8,9,10,11,12]
def c52_21 : XC := fun _ => .region [] [xo 49 (.mv (xt 12)),
 xo 50 (.bin .eql (xt 49) (xi 2))] [0,1,2,3,8,9,10,11,12,50]
def c52_22 : XC := fun _ => .region [] [xo 51 (.mv (xt 0)),
 xo 52 (.mv (xt 1)),
 xo 53 (.mv (xt 2)),
 xo 54 (.callm 63 [(xt 51), (xt 52), (xt 53)])] [0,1,2,3,8,9,10,11]
def c52_23 : XC := fun _ => .region [] [xo 55 (.mv (xt 2)),
 xo 56 (.bin .sub (xt 55) (xi 1)),
 xo 57 (.mv (xt 11)),
 xo 58 (.mv (xt 1)),
 xo 59 (.bin .sub (xt 57) (xt 58)),
 xo 60 (.bin .sub (xt 56) (xt 59)),
 xo 11 (.mv (xt 60))] [0,1,2,3,8,9,10,11]
def c52_24 : XC := fun _ => .region [] [xo 12 (.mv (xi 1))] [0,1,2,3,8,9,10,11,12]
def c52_25 : XC := fun _ => .seq c52_23 c52_24
def c52_26 : XC := fun _ => .seq c52_22 c52_25
def c52_27 : XC := fun _ => .cond (xt 50) c52_26 (fun _ => .skip)
def c52_28 : XC := fun _ => .seq c52_21 c52_27
def c52_29 : XC := fun _ => .region [] [xo 61 (.mv (xt 8)),
 xo 62 (.mv (xt 61)),
 ⟨(some 63), .mv (xt 9), (some (62, true)), []⟩,
 xo 64 (.pick (xt 62) (xt 63) (xb false)),
 xo 65 (.mv (xt 64)),
 ⟨(some 66), .mv (xt 12), (some (65, true)), []⟩,
 ⟨(some 67), .bin .eql (xt 66) (xi 1), (some (65, true)), []⟩,
 xo 68 (.pick (xt 65) (xt 67) (xb false))] [0,1,2,3,8,9,10,11,68]
def c52_30 : XC := fun _ => .region [] [xo 69 (.mv (xt 0)),
 xo 70 (.mv (xt 1)),
 xo 71 (.mv (xt 2)),
 xo 72 (.callm 64 [(xt 69), (xt 70), (xt 71)])] [0,1,2,3,8,9,10,11,72]
def c52_31 : XC := fun _ => .cond (xt 72) (fun _ => .ret) (fun _ => .skip)
def c52_32 : XC := fun _ => .seq c52_30 c52_31
def c52_33 : XC := fun _ => .cond (xt 68) c52_32 (fun _ => .skip)
def c52_34 : XC := fun _ => .seq c52_29 c52_33
def c52_35 : XC := fun _ => .region [] [xo 73 (.mv (xt 1)),
 xo 74 (.bin .gtr (xt 73) (xi 0)),
 xo 75 (.mv (xt 74)),
 ⟨(some 76), .mv (xt 0), (some (75, true)), []⟩,
 ⟨(some 77), .mv (xt 1), (some (75, true)), []⟩,
 ⟨(some 78), .bin .sub (xt 77) (xi 1), (some (75, true)), []⟩,
 ⟨(some 79), .ia (xt 76) (xt 78) 1, (some (75, true)), []⟩,
 ⟨(some 80), .ld (xt 79) 1 false, (some (75, true)), []⟩,
 ⟨(some 81), .mv (xt 0), (some (75, true)), []⟩,
 ⟨(some 82), .mv (xt 11), (some (75, true)), []⟩,
 ⟨(some 83), .ia (xt 81) (xt 82) 1, (some (75, true)), [3, 4, 5, 6, 7]⟩,
 ⟨(some 84), .ld (xt 83) 1 false, (some (75, true)), [3, 4, 5, 6, 7]⟩,
 ⟨(some 85), .call 65 [(xt 80), (xt 84)], (some (75, true)), []⟩,
 ⟨(some 86), .not (xt 85), (some (75, true)), []⟩,
 xo 87 (.pick (xt 75) (xt 86) (xb false))] [0,1,2,3,8,9,10,11,87]
def c52_36 : XC := fun _ => .region [] [xo 88 (.mv (xt 0)),
 xo 89 (.mv (xt 1)),
 xo 90 (.mv (xt 2)),
 xo 91 (.mv (xt 11)),
 xo 92 (.callm 66 [(xt 88), (xt 89), (xt 90), (xt 91)]),
 xo 13 (.mv (xt 92))] [0,2,3,8,9,13]
def c52_37 : XC := fun _ => .region [] [xo 93 (.mv (xt 13)),
 xo 1 (.mv (xt 93))] [0,1,2,3,8,9]
def c52_38 : XC := fun _ => .seq c52_37 (fun _ => .exit 1)
def c52_39 : XC := fun _ => .seq c52_36 c52_38
def c52_40 : XC := fun _ => .cond (xt 87) c52_39 (fun _ => .skip)
def c52_41 : XC := fun _ => .seq c52_35 c52_40
def c52_42 : XC := fun _ => .region [] [xo 95 (.mv (xt 0)),
 xo 96 (.mv (xt 1)),
 xo 97 (.mv (xt 2)),
 xo 98 (.mv (xt 11)),
 xo 99 (.callm 67 [(xt 95), (xt 96), (xt 97), (xt 98)]),
 xo 94 (.mv (xt 99)),
 xo 100 (.ext (xt 94) 0),
 xo 101 (.ext (xt 94) 1),
 xo 14 (.mv (xt 100)),
 xo 15 (.mv (xt 101))] [0,1,2,3,10,14,15]
def c52_43 : XC := fun _ => .region [] [xo 102 (.mv (xt 15)),
 xo 9 (.mv (xt 102))] [0,1,2,3,9,10,14]
def c52_44 : XC := fun _ => .region [] [xo 103 (.mv (xt 14)),
 xo 104 (.mv (xt 1)),
 xo 105 (.bin .sub (xt 103) (xt 104)),
 xo 106 (.mv (xt 2)),
 xo 107 (.mv (xt 14)),
 xo 108 (.bin .sub (xt 106) (xt 107)),
 xo 16 (.mv (xt 105)),
 xo 17 (.mv (xt 108))] [0,1,2,3,9,10,14,16,17]
def c52_45 : XC := fun _ => .region [] [xo 109 (.mv (xt 10)),
 xo 110 (.bin .quo (xt 109) (xi 8)),
 xo 18 (.mv (xt 110))] [0,1,2,3,9,14,16,17,18]
def c52_46 : XC := fun _ => .region [] [xo 111 (.mv (xt 16)),
 xo 112 (.mv (xt 17)),
 xo 113 (.bin .lss (xt 111) (xt 112))] [0,1,2,3,9,14,16,17,18,113]
def c52_47 : XC := fun _ => .region [] [xo 114 (.mv (xt 16)),
 xo 115 (.mv (xt 18)),
 xo 116 (.bin .geq (xt 114) (xt 115)),
 xo 8 (.mv (xt 116))] [0,1,2,3,8,9,14]
def c52_48 : XC := fun _ => .region [] [xo 117 (.mv (xt 0)),
 xo 118 (.mv (xt 1)),
 xo 119 (.mv (xt 14)),
 xo 120 (.mv (xt 3)),
 xo 121 (.callm 52 [(xt 117), (xt 118), (xt 119), (xt 120)])] [0,2,3,8,9,14]
def c52_49 : XC := fun _ => .region [] [xo 122 (.mv (xt 14)),
 xo 123 (.bin .add (xt 122) (xi 1)),
 xo 1 (.mv (xt 123))] [0,1,2,3,8,9]
def c52_50 : XC := fun _ => .seq c52_48 c52_49
def c52_51 : XC := fun _ => .seq c52_47 c52_50
def c52_52 : XC := fun _ => .region [] [xo 124 (.mv (xt 17)),
 xo 125 (.mv (xt 18)),
 xo 126 (.bin .geq (xt 124) (xt 125)),
 xo 8 (.mv (xt 126))] [0,1,2,3,8,9,14]
def c52_53 : XC := fun _ => .region [] [xo 127 (.mv (xt 0)),
 xo 128 (.mv (xt 14)),
 xo 129 (.bin .add (xt 128) (xi 1)),
 xo 130 (.mv (xt 2)),
 xo 131 (.mv (xt 3)),
 xo 132 (.callm 52 [(xt 127), (xt 129), (xt 130), (xt 131)])] [0,1,3,8,9,14]
def c52_54 : XC := fun _ => .region [] [xo 133 (.mv (xt 14)),
 xo 2 (.mv (xt 133))] [0,1,2,3,8,9]
def c52_55 : XC := fun _ => .seq c52_53 c52_54
def c52_56 : XC := fun _ => .seq c52_52 c52_55
def c52_57 : XC := fun _ => .cond (xt 113) c52_51 c52_56
def c52_58 : XC := fun _ => .seq c52_46 c52_57
def c52_59 : XC := fun _ => .seq c52_45 c52_58
def c52_60 : XC := fun _ => .seq c52_44 c52_59
def c52_61 : XC := fun _ => .seq c52_43 c52_60
def c52_62 : XC := fun _ => .seq c52_42 c52_61
def c52_63 : XC := fun _ => .seq c52_41 c52_62
def c52_64 : XC := fun _ => .seq c52_34 c52_63
def c52_65 : XC := fun _ => .seq c52_28 c52_64
def c52_66 : XC := fun _ => .seq c52_20 c52_65
def c52_67 : XC := fun _ => .seq c52_19 c52_66
def c52_68 : XC := fun _ => .seq c52_13 c52_67
def c52_69 : XC := fun _ => .seq c52_8 c52_68
def c52_70 : XC := fun _ => .seq c52_3 c52_69
def c52_71 : XC := fun _ => .block 1 c52_70
def c52_72 : XC := fun _ => .loop c52_71
def c52_73 : XC := fun _ => .block 0 c52_72
def c52_74 : XC := fun _ => .seq c52_2 c52_73
def c52_75 : XC := fun _ => .seq c52_1 c52_74
def m_slices_pdqsortOrdered_int : MCode := c52_75 ()
def h_slices_pdqsortOrdered_int : Hints := [(0, [0,1,2,3,8], [], [], []), (1, [0,1,2,3,8,9], [], [], []), (2, [0,1,2,3,8,9,10], [], [], []), (3, [0,1,2,3,8,9,10,23], [], [], []), (4, [], [], [], []), (5, [0,1,2,3,8,9,10,29], [], [], []), (6, [], [], [], []), (7, [0,1,2,3,8,9,10,35], [], [], []), (8, [0,1,2,3,8,9,10], [], [], []), (9, [0,1,2,3,8,9,10], [], [], []), (10, [0,1,2,3,8,9,10,11,12], [], [], []), (11, [0,1,2,3,8,9,10,11,12,50], [], [], []), (12, [0,1,2,3,8,9,10,11], [], [], []), (13, [0,1,2,3,8,9,10,11], [], [], []), (14, [0,1,2,3,8,9,10,11,12], [], [], []), (15, [0,1,2,3,8,9,10,11,68], [], [], []), (16, [0,1,2,3,8,9,10,11,72], [], [], []), (17, [0,1,2,3,8,9,10,11,87], [[],[],[],[],[],[],[],[],[],[],[3,4,5,6,7],[3,4,5,6,7]], [], []), (18, [0,2,3,8,9,13], [], [], []), (19, [0,1,2,3,8,9], [], [], []), (20, [0,1,2,3,10,14,15], [], [], []), (21, [0,1,2,3,9,10,14], [], [], []), (22, [0,1,2,3,9,10,14,16,17], [], [], []), (23, [0,1,2,3,9,14,16,17,18], [], [], []), (24, [0,1,2,3,9,14,16,17,18,113], [], [], []), (25, [0,1,2,3,8,9,14], [], [], []), (26, [0,2,3,8,9,14], [], [], []), (27, [0,1,2,3,8,9], [], [], []), (28, [0,1,2,3,8,9,14], [], [], []), (29, [0,1,3,8,9,14], [], [], []), (30, [0,1,2,3,8,9], [], [], [])]
def r_slices_pdqsortOrdered_int : List RV := []
abbrev n_slices_pdqsortOrdered_int : Nat := 52
theorem k_slices_pdqsortOrdered_int : Known Pr mu n_slices_pdqsortOrdered_int m_slices_pdqsortOrdered_int r_slices_pdqsortOrdered_int Go.Proofs.Tryd.f52.ntmps := .of h_slices_pdqsortOrdered_int hm Go.Proofs.Tryd.func52
def c53_1 : XC := fun _ => .region [] [xo 2 (.mv (xi 0))] [0]
def c53_2 : XC := fun _ => .region [] [xo 3 (.mv (xt 0)),
 xo 4 (.conv .u32 (xt 3)),
 xo 5 (.call 68 [(xt 4)]),
 xo 2 (.mv (xt 5))] [2]
def c53_3 : XC := fun _ => .seq c53_2 (fun _ => .ret)
def c53_4 : XC := fun _ => .cond (xb false) c53_3 (fun _ => .skip)
def c53_5 : XC := fun _ => .region [] [xo 6 (.mv (xt 0)),
 xo 7 (.call 55 [(xt 6)]),
 xo 2 (.mv (xt 7))] [2]
def c53_6 : XC := fun _ => .seq c53_5 (fun _ => .ret)
def c53_7 : XC := fun _ => .seq c53_4 c53_6
def c53_8 : XC := fun _ => .seq c53_1 c53_7
def m_math_bits_Len : MCode := c53_8 ()
def h_math_bits_Len : Hints := [(0, [0], [], [], []), (1, [2], [], [], []), (2, [2], [], [], [])]
def r_math_bits_Len : List RV := [.t 2]
abbrev n_math_bits_Len : Nat := 53
theorem k_math_bits_Len : Known Pr mu n_math_bits_Len m_math_bits_Len r_math_bits_Len Go.Proofs.Tryd.f53.ntmps := .of h_math_bits_Len hm Go.Proofs.Tryd.func53
def c55_1 : XC := fun _ => .region [] [xo 2 (.mv (xi 0))] [0,2]
def c55_2 : XC := fun _ => .region [] [xo 3 (.mv (xt 0)),
 xo 4 (.bin .geq (xt 3) (.const (.int .u64 4294967296)))] [0,2,4]
def c55_3 : XC := fun _ => .region [] [xo 5 (.mv (xt 0)),
 xo 6 (.bit .shr (xt 5) (.const (.int .u64 32))),
 xo 0 (.mv (xt 6))] [0]
def c55_4 : XC := fun _ => .region [] [xo 2 (.mv (xi 32))] [0,2]
def c55_5 : XC := fun _ => .seq c55_3 c55_4
def c55_6 : XC := fun _ => .cond (xt 4) c55_5 (fun _ => .skip)
def c55_7 : XC := fun _ => .seq c55_2 c55_6
def c55_8 : XC := fun _ => .region [] [xo 7 (.mv (xt 0)),
 xo 8 (.bin .geq (xt 7) (.const (.int .u64 65536)))] [0,2,8]
def c55_9 : XC := fun _ => .region [] [xo 9 (.mv (xt 0)),
 xo 10 (.bit .shr (xt 9) (.const (.int .u64 16))),
 xo 0 (.mv (xt 10))] [0,2]
def c55_10 : XC := fun _ => .region [] [xo 11 (.mv (xt 2)),
 xo 12 (.bin .add (xt 11) (xi 16)),
 xo 2 (.mv (xt 12))] [0,2]
def c55_11 : XC := fun _ => .seq c55_9 c55_10
def c55_12 : XC := fun _ => .cond (xt 8) c55_11 (fun _ => .skip)
def c55_13 : XC := fun _ => .seq c55_8 c55_12
def c55_14 : XC := fun _ => .region [] [xo 13 (.mv (xt 0)),
 xo 14 (.bin .geq (xt 13) (.const (.int .u64 256)))] [0,2,14]
def c55_15 : XC := fun _ => .region [] [xo 15 (.mv (xt 0)),
 xo 16 (.bit .shr (xt 15) (.const (.int .u64 8))),
 xo 0 (.mv (xt 16))] [0,2]
def c55_16 : XC := fun _ => .region [] [xo 17 (.mv (xt 2)),
 xo 18 (.bin .add (xt 17) (xi 8)),
 xo 2 (.mv (xt 18))] [0,2]
def c55_17 : XC := fun _ => .seq c55_15 c55_16
def c55_18 : XC := fun _ => .cond (xt 14) c55_17 (fun _ => .skip)
def c55_19 : XC := fun _ => .seq c55_14 c55_18
def c55_20 : XC := fun _ => .region [] [xo 19 (.mv (xt 2)),
 xo 20 (.mv (xt 0)),
 xo 21 (.conv .u8 (xt 20)),
 xo 22 (.sidx (.const (.string ⟨#[0, 1, 2, 2, 3, 3, 3, 3, 4, 4, 4, 4, 4, 4, 4, 4, 5, 5, 5, 5, 5, 5, 5, 5, 5, 5, 5, 5, 5, 5, 5, 5, 6, 6, 6, 6, 6, 6, 6, 6, 6, 6, 6, 6, 6, 6, 6, 6, 6, 6, 6, 6, 6, 6, 6, 6, 6, 6, 6, 6, 6, 6, 6, 6, 7, 7, 7, 7, 7, 7, 7, 7, 7, 7, 7, 7, 7, 7, 7, 7, 7, 7, 7, 7, 7, 7, 7, 7, 7, 7, 7, 7, 7, 7, 7, 7, 7, 7, 7, 7, 7, 7, 7, 7, 7, 7, 7, 7, 7, 7, 7, 7, 7, 7, 7, 7, 7, 7, 7, 7, 7, 7, 7, 7, 7, 7, 7, 7, 8, 8, 8, 8, 8, 8, 8, 8, 8, 8, 8, 8, 8, 8, 8, 8, 8, 8, 8, 8, 8, 8, 8, 8, 8, 8, 8, 8, 8, 8, 8, 8, 8, 8, 8, 8, 8, 8, 8, 8, 8, 8, 8, 8, 8, 8, 8, 8, 8, 8, 8, 8, 8, 8, 8, 8, 8, 8, 8, 8, 8, 8, 8, 8, 8, 8, 8, 8, 8, 8, 8, 8, 8, 8, 8, 8, 8, 8, 8, 8, 8, 8, 8, 8, 8, 8, 8, 8, 8, 8, 8, 8, 8, 8, 8, 8, 8, 8, 8, 8, 8, 8, 8, 8, 8, 8, 8, 8, 8, 8, 8, 8, 8, 8, 8, 8, 8, 8, 8, 8, 8, 8, 8, 8, 8, 8, 8, 8]⟩)) (xt 21)),
 xo 23 (.conv .i64 (xt 22)),
 xo 24 (.bin .add (xt 19) (xt 23)),
 xo 2 (.mv (xt 24))] [2]
def c55_21 : XC := fun _ => .seq c55_20 (fun _ => .ret)
def c55_22 : XC := fun _ => .seq c55_19 c55_21
def c55_23 : XC := fun _ => .seq c55_13 c55_22
def c55_24 : XC := fun _ => .seq c55_7 c55_23
def c55_25 : XC := fun _ => .seq c55_1 c55_24
def m_math_bits_Len64 : MCode := c55_25 ()
def h_math_bits_Len64 : Hints := [(0, [0,2], [], [], []), (1, [0,2,4], [], [], []), (2, [0], [], [], []), (3, [0,2], [], [], []), (4, [0,2,8], [], [], []), (5, [0,2], [], [], []), (6, [0,2], [], [], []), (7, [0,2,14], [], [], []), (8, [0,2], [], [], []), (9, [0,2], [], [], []), (10, [2], [], [], [])]
def r_math_bits_Len64 : List RV := [.t 2]
abbrev n_math_bits_Len64 : Nat := 55
theorem k_math_bits_Len64 : Known Pr mu n_math_bits_Len64 m_math_bits_Len64 r_math_bits_Len64 Go.Proofs.Tryd.f55.ntmps := .of h_math_bits_Len64 hm Go.Proofs.Tryd.func55
def c59_1 : XC := fun _ => .region [] [xo 8 (.mv (xt 1)),
 xo 9 (.bin .add (xt 8) (xi 1)),
 xo 6 (.mv (xt 9))] [0,1,2,6]
def c59_2 : XC := fun _ => .region [] [xo 10 (.mv (xt 6)),
 xo 11 (.mv (xt 2)),
 xo 12 (.bin .lss (xt 10) (xt 11))] [0,1,2,6,12]
def c59_3 : XC := fun _ => .cond (xt 12) (fun _ => .skip) (fun _ => .exit 0)
def c59_4 : XC := fun _ => .seq c59_2 c59_3
def c59_5 : XC := fun _ => .region [] [xo 15 (.mv (xt 6)),
 xo 7 (.mv (xt 15))] [0,1,2,6,7]
def c59_6 : XC := fun _ => .region [] [xo 16 (.mv (xt 7)),
 xo 17 (.mv (xt 1)),
 xo 18 (.bin .gtr (xt 16) (xt 17)),
 xo 19 (.mv (xt 18)),
 ⟨(some 20), .mv (xt 0), (some (19, true)), []⟩,
 ⟨(some 21), .mv (xt 7), (some (19, true)), []⟩,
 ⟨(some 22), .ia (xt 20) (xt 21) 1, (some (19, true)), []⟩,
 ⟨(some 23), .ld (xt 22) 1 false, (some (19, true)), []⟩,
 ⟨(some 24), .mv (xt 0), (some (19, true)), []⟩,
 ⟨(some 25), .mv (xt 7), (some (19, true)), []⟩,
 ⟨(some 26), .bin .sub (xt 25) (xi 1), (some (19, true)), []⟩,
 ⟨(some 27), .ia (xt 24) (xt 26) 1, (some (19, true)), [4, 5, 6, 7]⟩,
 ⟨(some 28), .ld (xt 27) 1 false, (some (19, true)), [4, 5, 6, 7]⟩,
 ⟨(some 29), .call 65 [(xt 23), (xt 28)], (some (19, true)), []⟩,
 xo 30 (.pick (xt 19) (xt 29) (xb false))] [0,1,2,6,7,30]
def c59_7 : XC := fun _ => .cond (xt 30) (fun _ => .skip) (fun _ => .exit 2)
def c59_8 : XC := fun _ => .seq c59_6 c59_7
def c59_9 : XC := fun _ => .region [] [xo 33 (.mv (xt 0)),
 xo 34 (.mv (xt 7)),
 xo 35 (.mv (xt 0)),
 xo 36 (.mv (xt 7)),
 xo 37 (.bin .sub (xt 36) (xi 1)),
 xo 38 (.mv (xt 0)),
 xo 39 (.mv (xt 7)),
 xo 40 (.bin .sub (xt 39) (xi 1)),
 ⟨(some 41), .ia (xt 38) (xt 40) 1, none, [0, 1, 2, 3, 4]⟩,
 ⟨(some 42), .ld (xt 41) 1 false, none, [0, 1, 2, 3, 4]⟩,
 xo 43 (.mv (xt 0)),
 xo 44 (.mv (xt 7)),
 ⟨(some 45), .ia (xt 43) (xt 44) 1, none, [0, 1, 2, 3, 4, 5, 6, 7, 8, 9]⟩,
 ⟨(some 46), .ld (xt 45) 1 false, none, [0, 1, 2, 3, 4, 5, 6, 7, 8, 9]⟩,
 ⟨(some 47), .ia (xt 33) (xt 34) 1, none, [2, 3, 4]⟩,
 xn (.sto (xt 47) (xt 42) 1),
 xo 48 (.ia (xt 35) (xt 37) 1),
 xn (.sto (xt 48) (xt 46) 1)] [0,1,2,6,7]
def c59_10 : XC := fun _ => .block 3 c59_9
def c59_11 : XC := fun _ => .region [] [xo 31 (.mv (xt 7)),
 xo 32 (.bin .sub (xt 31) (xi 1)),
 xo 7 (.mv (xt 32))] [0,1,2,6,7]
def c59_12 : XC := fun _ => .seq c59_10 c59_11
def c59_13 : XC := fun _ => .seq c59_8 c59_12
def c59_14 : XC := fun _ => .loop c59_13
def c59_15 : XC := fun _ => .block 2 c59_14
def c59_16 : XC := fun _ => .seq c59_5 c59_15
def c59_17 : XC := fun _ => .block 1 c59_16
def c59_18 : XC := fun _ => .region [] [xo 13 (.mv (xt 6)),
 xo 14 (.bin .add (xt 13) (xi 1)),
 xo 6 (.mv (xt 14))] [0,1,2,6]
def c59_19 : XC := fun _ => .seq c59_17 c59_18
def c59_20 : XC := fun _ => .seq c59_4 c59_19
def c59_21 : XC := fun _ => .loop c59_20
def c59_22 : XC := fun _ => .block 0 c59_21
def c59_23 : XC := fun _ => .seq c59_1 c59_22
def m_slices_insertionSortOrdered_int : MCode := c59_23 ()
def h_slices_insertionSortOrdered_int : Hints := [(0, [0,1,2,6], [], [], []), (1, [0,1,2,6,12], [], [], []), (3, [0,1,2,6,7], [], [], []), (4, [0,1,2,6,7,30], [[],[],[],[],[],[],[],[],[],[],[],[4,5,6,7],[4,5,6,7]], [], []), (6, [0,1,2,6,7], [[],[],[],[],[],[],[],[],[0,1,2,3,4],[0,1,2,3,4],[],[],[0,1,2,3,4,5,6,7,8,9],[0,1,2,3,4,5,6,7,8,9],[2,3,4]], [], [2,3,4]), (5, [0,1,2,6,7], [], [], []), (2, [0,1,2,6], [], [], [])]
def r_slices_insertionSortOrdered_int : List RV := []
abbrev n_slices_insertionSortOrdered_int : Nat := 59
theorem k_slices_insertionSortOrdered_int : Known Pr mu n_slices_insertionSortOrdered_int m_slices_insertionSortOrdered_int r_slices_insertionSortOrdered_int Go.Proofs.Tryd.f59.ntmps := .of h_slices_insertionSortOrdered_int hm Go.Proofs.Tryd.func59
def c65_1 : XC := fun _ => .region [] [xo 4 (.mv (xb false))] [0,1]
def c65_2 : XC := fun _ => .region [] [xo 5 (.mv (xt 0)),
 xo 6 (.call 76 [(xt 5)]),
 xo 7 (.mv (xt 6)),
 ⟨(some 8), .mv (xt 1), (some (7, true)), []⟩,
 ⟨(some 9), .call 76 [(xt 8)], (some (7, true)), []⟩,
 ⟨(some 10), .not (xt 9), (some (7, true)), []⟩,
 xo 11 (.pick (xt 7) (xt 10) (xb false)),
 xo 12 (.mv (xt 11)),
 ⟨(some 13), .mv (xt 0), (some (12, false)), []⟩,
 ⟨(some 14), .mv (xt 1), (some (12, false)), []⟩,
 ⟨(some 15), .bin .lss (xt 13) (xt 14), (some (12, false)), []⟩,
 xo 16 (.pick (xt 12) (xb true) (xt 15)),
 xo 4 (.mv (xt 16))] [4]
def c65_3 : XC := fun _ => .seq c65_2 (fun _ => .ret)
def c65_4 : XC := fun _ => .seq c65_1 c65_3
def m_cmp_Less_int : MCode := c65_4 ()
def h_cmp_Less_int : Hints := [(0, [0,1], [], [], []), (1, [4], [], [], [])]
def r_cmp_Less_int : List RV := [.t 4]
abbrev n_cmp_Less_int : Nat := 65
theorem k_cmp_Less_int : Known Pr mu n_cmp_Less_int m_cmp_Less_int r_cmp_Less_int Go.Proofs.Tryd.f65.ntmps := .of h_cmp_Less_int hm Go.Proofs.Tryd.func65
def c76_1 : XC := fun _ => .region [] [xo 2 (.mv (xb false))] [0]
def c76_2 : XC := fun _ => .region [] [xo 3 (.mv (xt 0)),
 xo 4 (.mv (xt 0)),
 xo 5 (.bin .neq (xt 3) (xt 4)),
 xo 2 (.mv (xt 5))] [2]
def c76_3 : XC := fun _ => .seq c76_2 (fun _ => .ret)
def c76_4 : XC := fun _ => .seq c76_1 c76_3
def m_cmp_isNaN_int : MCode := c76_4 ()
def h_cmp_isNaN_int : Hints := [(0, [0], [], [], []), (1, [2], [], [], [])]
def r_cmp_isNaN_int : List RV := [.t 2]
abbrev n_cmp_isNaN_int : Nat := 76
theorem k_cmp_isNaN_int : Known Pr mu n_cmp_isNaN_int m_cmp_isNaN_int r_cmp_isNaN_int Go.Proofs.Tryd.f76.ntmps := .of h_cmp_isNaN_int hm Go.Proofs.Tryd.func76
end Go.V.T
