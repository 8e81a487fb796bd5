/- The short code of the functions that FnExactCountMoves reaches, held against the program. Conditions: none. -/
import Derived.Test.YtchomdljabhkdabV6
import Derived.Test.YtchomdljabhkdabProg
namespace Go.V.T
open Go Go.V
noncomputable abbrev Pr := Go.Proofs.Try.prog
def mu : Nat → Bool := fun n => Nat.beq n 12 || Nat.beq n 18 || Nat.beq n 19 || Nat.beq n 21 || Nat.beq n 24 || Nat.beq n 25 || Nat.beq n 26 || Nat.beq n 28 || Nat.beq n 29 || Nat.beq n 31 || Nat.beq n 32 || Nat.beq n 35
def muc : Nat → Bool := fun n => Nat.beq n 3000000 || mu n
abbrev XC := Unit → MCode
def xt (n : Nat) : Operand := .tmp n
def xi (n : Int) : Operand := .const (.int .i64 n)
def xb (b : Bool) : Operand := .const (.bool b)
def xo (d : Nat) (m : MOp) : MOper := ⟨some d, m, none, []⟩
def xn (m : MOp) : MOper := ⟨none, m, none, []⟩
theorem hm : Pr.follows .mixedOrders = true := by kernel_rfl
def c3_1 : XC := fun _ => .region [] [xo 4 (.mv (xb false))] [0,1]
def c3_2 : XC := fun _ => .region [] [xo 9 (.mv (xt 0)),
 xo 10 (.len false (xt 9)),
 xo 11 (.bin .gtr (xt 10) (xi 1048576))] [0,1,11]
def c3_3 : XC := fun _ => .region [] [xo 4 (.mv (xb true))] [4]
def c3_4 : XC := fun _ => .seq c3_3 (fun _ => .ret)
def c3_5 : XC := fun _ => .cond (xt 11) c3_4 (fun _ => .skip)
def c3_6 : XC := fun _ => .seq c3_2 c3_5
def c3_7 : XC := fun _ => .region [] [xo 12 (.mv (xt 1)),
 xo 13 (.len false (xt 12)),
 xo 14 (.bin .gtr (xt 13) (xi 1048576))] [0,1,14]
def c3_8 : XC := fun _ => .region [] [xo 4 (.mv (xb true))] [4]
def c3_9 : XC := fun _ => .seq c3_8 (fun _ => .ret)
def c3_10 : XC := fun _ => .cond (xt 14) c3_9 (fun _ => .skip)
def c3_11 : XC := fun _ => .seq c3_7 c3_10
def c3_12 : XC := fun _ => .region [] [xo 15 (.mv (xt 0)),
 xo 16 (.call 5 [(xt 15)]),
 xo 17 (.mv (xt 1)),
 xo 18 (.call 5 [(xt 17)]),
 xo 19 (.call 4 [(xt 16), (xt 18)]),
 xo 5 (.mv (xt 19))] [0,1,5]
def c3_13 : XC := fun _ => .region [] [xo 20 (.mv (xt 0)),
 xo 21 (.call 5 [(xt 20)]),
 xo 6 (.mv (xt 21))] [0,1,5,6]
def c3_14 : XC := fun _ => .region [] [xo 22 (.mv (xt 1)),
 xo 23 (.call 5 [(xt 22)]),
 xo 7 (.mv (xt 23))] [0,1,5,6,7]
def c3_15 : XC := fun _ => .region [] [xo 24 (.mv (xt 6)),
 xo 25 (.mv (xt 7)),
 xo 26 (.call 6 [(xt 24), (xt 25)]),
 xo 8 (.mv (xt 26))] [0,1,5,6,7,8]
def c3_16 : XC := fun _ => .region [] [xo 27 (.mv (xt 8)),
 xo 28 (.mv (xt 5)),
 xo 29 (.bin .neq (xt 27) (xt 28))] [0,1,6,7,29]
def c3_17 : XC := fun _ => .region [] [xo 4 (.mv (xb false))] [4]
def c3_18 : XC := fun _ => .seq c3_17 (fun _ => .ret)
def c3_19 : XC := fun _ => .cond (xt 29) c3_18 (fun _ => .skip)
def c3_20 : XC := fun _ => .seq c3_16 c3_19
def c3_21 : XC := fun _ => .region [] [xo 30 (.mv (xt 6)),
 xo 31 (.mv (xt 0)),
 xo 32 (.call 5 [(xt 31)]),
 xo 33 (.call 7 [(xt 30), (xt 32)]),
 xo 34 (.not (xt 33))] [1,7,34]
def c3_22 : XC := fun _ => .region [] [xo 4 (.mv (xb false))] [4]
def c3_23 : XC := fun _ => .seq c3_22 (fun _ => .ret)
def c3_24 : XC := fun _ => .cond (xt 34) c3_23 (fun _ => .skip)
def c3_25 : XC := fun _ => .seq c3_21 c3_24
def c3_26 : XC := fun _ => .region [] [xo 35 (.mv (xt 7)),
 xo 36 (.mv (xt 1)),
 xo 37 (.call 5 [(xt 36)]),
 xo 38 (.call 7 [(xt 35), (xt 37)]),
 xo 39 (.not (xt 38))] [39]
def c3_27 : XC := fun _ => .region [] [xo 4 (.mv (xb false))] [4]
def c3_28 : XC := fun _ => .seq c3_27 (fun _ => .ret)
def c3_29 : XC := fun _ => .cond (xt 39) c3_28 (fun _ => .skip)
def c3_30 : XC := fun _ => .seq c3_26 c3_29
def c3_31 : XC := fun _ => .region [] [xo 4 (.mv (xb true))] [4]
def c3_32 : XC := fun _ => .seq c3_31 (fun _ => .ret)
def c3_33 : XC := fun _ => .seq c3_30 c3_32
def c3_34 : XC := fun _ => .seq c3_25 c3_33
def c3_35 : XC := fun _ => .seq c3_20 c3_34
def c3_36 : XC := fun _ => .seq c3_15 c3_35
def c3_37 : XC := fun _ => .seq c3_14 c3_36
def c3_38 : XC := fun _ => .seq c3_13 c3_37
def c3_39 : XC := fun _ => .seq c3_12 c3_38
def c3_40 : XC := fun _ => .seq c3_11 c3_39
def c3_41 : XC := fun _ => .seq c3_6 c3_40
def c3_42 : XC := fun _ => .seq c3_1 c3_41
def m_laws_FnExactCountMoves : MCode := c3_42 ()
def h_laws_FnExactCountMoves : Hints := [(0, [0,1], [], [], []), (1, [0,1,11], [], [], []), (2, [4], [], [], []), (3, [0,1,14], [], [], []), (4, [4], [], [], []), (5, [0,1,5], [], [], []), (6, [0,1,5,6], [], [], []), (7, [0,1,5,6,7], [], [], []), (8, [0,1,5,6,7,8], [], [], []), (9, [0,1,6,7,29], [], [], []), (10, [4], [], [], []), (11, [1,7,34], [], [], []), (12, [4], [], [], []), (13, [39], [], [], []), (14, [4], [], [], []), (15, [4], [], [], [])]
def r_laws_FnExactCountMoves : List RV := [.t 4]
abbrev n_laws_FnExactCountMoves : Nat := 3
theorem k_laws_FnExactCountMoves : Known Pr mu n_laws_FnExactCountMoves m_laws_FnExactCountMoves r_laws_FnExactCountMoves Go.Proofs.Try.f3.ntmps := .of h_laws_FnExactCountMoves hm Go.Proofs.Try.func3
def c4_1 : XC := fun _ => .region [] [xo 4 (.mv (xi 0))] [0,1]
def c4_2 : XC := fun _ => .region [] [xo 5 (.mv (xt 1)),
 xo 6 (.mv (xt 0)),
 xo 7 (.call 8 [(xt 5), (xt 6)]),
 xo 8 (.len false (xt 7)),
 xo 4 (.mv (xt 8))] [4]
def c4_3 : XC := fun _ => .seq c4_2 (fun _ => .ret)
def c4_4 : XC := fun _ => .seq c4_1 c4_3
def m_spec_CountMoves : MCode := c4_4 ()
def h_spec_CountMoves : Hints := [(0, [0,1], [], [], []), (1, [4], [], [], [])]
def r_spec_CountMoves : List RV := [.t 4]
abbrev n_spec_CountMoves : Nat := 4
theorem k_spec_CountMoves : Known Pr mu n_spec_CountMoves m_spec_CountMoves r_spec_CountMoves Go.Proofs.Try.f4.ntmps := .of h_spec_CountMoves hm Go.Proofs.Try.func4
def c5_1 : XC := fun _ => .region [] [xo 2 (.mv (.const (.slice none 0 0)))] [0]
def c5_2 : XC := fun _ => .region [] [xo 5 (.mv (xt 0)),
 xo 6 (.len false (xt 5)),
 xo 7 (.mks 1 8 [.int .i64 0] (xt 6) (xt 6)),
 xo 3 (.mv (xt 7))] [0,3]
def c5_3 : XC := fun _ => .region [] [xo 4 (.mv (xi 0))] [0,3,4]
def c5_4 : XC := fun _ => .region [] [xo 8 (.mv (xt 4)),
 xo 9 (.mv (xt 0)),
 xo 10 (.len false (xt 9)),
 xo 11 (.bin .lss (xt 8) (xt 10))] [0,3,4,11]
def c5_5 : XC := fun _ => .cond (xt 11) (fun _ => .skip) (fun _ => .exit 0)
def c5_6 : XC := fun _ => .seq c5_4 c5_5
def c5_7 : XC := fun _ => .region [] [xo 14 (.mv (xt 3)),
 xo 15 (.mv (xt 4)),
 xo 16 (.mv (xt 0)),
 xo 17 (.mv (xt 4)),
 xo 18 (.ia (xt 16) (xt 17) 1),
 xo 19 (.ld (xt 18) 1 false),
 xo 20 (.ia (xt 14) (xt 15) 1),
 xn (.sto (xt 20) (xt 19) 1)] [0,3,4]
def c5_8 : XC := fun _ => .block 1 c5_7
def c5_9 : XC := fun _ => .region [] [xo 12 (.mv (xt 4)),
 xo 13 (.bin .add (xt 12) (xi 1)),
 xo 4 (.mv (xt 13))] [0,3,4]
def c5_10 : XC := fun _ => .seq c5_8 c5_9
def c5_11 : XC := fun _ => .seq c5_6 c5_10
def c5_12 : XC := fun _ => .loop c5_11
def c5_13 : XC := fun _ => .block 0 c5_12
def c5_14 : XC := fun _ => .seq c5_3 c5_13
def c5_15 : XC := fun _ => .region [] [xo 21 (.mv (xt 3)),
 xo 2 (.mv (xt 21))] [2]
def c5_16 : XC := fun _ => .seq c5_15 (fun _ => .ret)
def c5_17 : XC := fun _ => .seq c5_14 c5_16
def c5_18 : XC := fun _ => .seq c5_2 c5_17
def c5_19 : XC := fun _ => .seq c5_1 c5_18
def m_laws_toIntS : MCode := c5_19 ()
def h_laws_toIntS : Hints := [(0, [0], [], [], []), (1, [0,3], [], [], []), (2, [0,3,4], [], [], []), (3, [0,3,4,11], [], [], []), (5, [0,3,4], [], [], []), (4, [0,3,4], [], [], []), (6, [2], [], [], [])]
def r_laws_toIntS : List RV := [.t 2]
abbrev n_laws_toIntS : Nat := 5
theorem k_laws_toIntS : Known Pr mu n_laws_toIntS m_laws_toIntS r_laws_toIntS Go.Proofs.Try.f5.ntmps := .of h_laws_toIntS hm Go.Proofs.Try.func5
def c6_1 : XC := fun _ => .region [] [xo 4 (.mv (xi 0))] [0,1]
def c6_2 : XC := fun _ => .region [] [xo 5 (.mv (xt 1)),
 xo 6 (.mv (xt 0)),
 xo 7 (.call 9 [(xt 5), (xt 6)]),
 xo 8 (.len false (xt 7)),
 xo 4 (.mv (xt 8))] [4]
def c6_3 : XC := fun _ => .seq c6_2 (fun _ => .ret)
def c6_4 : XC := fun _ => .seq c6_1 c6_3
def m_impl_CountMoves : MCode := c6_4 ()
def h_impl_CountMoves : Hints := [(0, [0,1], [], [], []), (1, [4], [], [], [])]
def r_impl_CountMoves : List RV := [.t 4]
abbrev n_impl_CountMoves : Nat := 6
theorem k_impl_CountMoves : Known Pr mu n_impl_CountMoves m_impl_CountMoves r_impl_CountMoves Go.Proofs.Try.f6.ntmps := .of h_impl_CountMoves hm Go.Proofs.Try.func6
def c7_1 : XC := fun _ => .region [] [xo 4 (.mv (xb false))] [0,1]
def c7_2 : XC := fun _ => .region [] [xo 6 (.mv (xt 0)),
 xo 7 (.len false (xt 6)),
 xo 8 (.mv (xt 1)),
 xo 9 (.len false (xt 8)),
 xo 10 (.bin .neq (xt 7) (xt 9))] [0,1,10]
def c7_3 : XC := fun _ => .region [] [xo 4 (.mv (xb false))] [4]
def c7_4 : XC := fun _ => .seq c7_3 (fun _ => .ret)
def c7_5 : XC := fun _ => .cond (xt 10) c7_4 (fun _ => .skip)
def c7_6 : XC := fun _ => .seq c7_2 c7_5
def c7_7 : XC := fun _ => .region [] [xo 5 (.mv (xi 0))] [0,1,5]
def c7_8 : XC := fun _ => .region [] [xo 11 (.mv (xt 5)),
 xo 12 (.mv (xt 0)),
 xo 13 (.len false (xt 12)),
 xo 14 (.bin .lss (xt 11) (xt 13))] [0,1,5,14]
def c7_9 : XC := fun _ => .cond (xt 14) (fun _ => .skip) (fun _ => .exit 0)
def c7_10 : XC := fun _ => .seq c7_8 c7_9
def c7_11 : XC := fun _ => .region [] [xo 17 (.mv (xt 0)),
 xo 18 (.mv (xt 5)),
 xo 19 (.ia (xt 17) (xt 18) 1),
 xo 20 (.ld (xt 19) 1 false),
 xo 21 (.mv (xt 1)),
 xo 22 (.mv (xt 5)),
 ⟨(some 23), .ia (xt 21) (xt 22) 1, none, [0, 1, 2, 3]⟩,
 ⟨(some 24), .ld (xt 23) 1 false, none, [0, 1, 2, 3]⟩,
 xo 25 (.bin .neq (xt 20) (xt 24))] [0,1,5,25]
def c7_12 : XC := fun _ => .region [] [xo 4 (.mv (xb false))] [4]
def c7_13 : XC := fun _ => .seq c7_12 (fun _ => .ret)
def c7_14 : XC := fun _ => .cond (xt 25) c7_13 (fun _ => .skip)
def c7_15 : XC := fun _ => .seq c7_11 c7_14
def c7_16 : XC := fun _ => .block 1 c7_15
def c7_17 : XC := fun _ => .region [] [xo 15 (.mv (xt 5)),
 xo 16 (.bin .add (xt 15) (xi 1)),
 xo 5 (.mv (xt 16))] [0,1,5]
def c7_18 : XC := fun _ => .seq c7_16 c7_17
def c7_19 : XC := fun _ => .seq c7_10 c7_18
def c7_20 : XC := fun _ => .loop c7_19
def c7_21 : XC := fun _ => .block 0 c7_20
def c7_22 : XC := fun _ => .seq c7_7 c7_21
def c7_23 : XC := fun _ => .region [] [xo 4 (.mv (xb true))] [4]
def c7_24 : XC := fun _ => .seq c7_23 (fun _ => .ret)
def c7_25 : XC := fun _ => .seq c7_22 c7_24
def c7_26 : XC := fun _ => .seq c7_6 c7_25
def c7_27 : XC := fun _ => .seq c7_1 c7_26
def m_laws_eqIntS : MCode := c7_27 ()
def h_laws_eqIntS : Hints := [(0, [0,1], [], [], []), (1, [0,1,10], [], [], []), (2, [4], [], [], []), (3, [0,1,5], [], [], []), (4, [0,1,5,14], [], [], []), (6, [0,1,5,25], [[],[],[],[],[],[],[0,1,2,3],[0,1,2,3]], [], []), (7, [4], [], [], []), (5, [0,1,5], [], [], []), (8, [4], [], [], [])]
def r_laws_eqIntS : List RV := [.t 4]
abbrev n_laws_eqIntS : Nat := 7
theorem k_laws_eqIntS : Known Pr mu n_laws_eqIntS m_laws_eqIntS r_laws_eqIntS Go.Proofs.Try.f7.ntmps := .of h_laws_eqIntS hm Go.Proofs.Try.func7
def c8_1 : XC := fun _ => .region [] [xo 4 (.mv (.const (.slice none 0 0)))] [0,1]
def c8_2 : XC := fun _ => .region [] [xo 7 (.bsl 1 0 [.int .i64 0] []),
 xo 5 (.mv (xt 7))] [0,1,5]
def c8_3 : XC := fun _ => .region [] [xo 6 (.mv (xi 0))] [0,1,5,6]
def c8_4 : XC := fun _ => .region [] [xo 8 (.mv (xt 6)),
 xo 9 (.mv (xt 0)),
 xo 10 (.len false (xt 9)),
 xo 11 (.bin .lss (xt 8) (xt 10))] [0,1,5,6,11]
def c8_5 : XC := fun _ => .cond (xt 11) (fun _ => .skip) (fun _ => .exit 0)
def c8_6 : XC := fun _ => .seq c8_4 c8_5
def c8_7 : XC := fun _ => .region [] [xo 14 (.mv (xt 1)),
 xo 15 (.mv (xt 0)),
 xo 16 (.mv (xt 6)),
 xo 17 (.ia (xt 15) (xt 16) 1),
 xo 18 (.ld (xt 17) 1 false),
 xo 19 (.call 10 [(xt 14), (xt 18)]),
 xo 20 (.not (xt 19))] [0,1,5,6,20]
def c8_8 : XC := fun _ => .region [] [xo 21 (.mv (xt 5)),
 xo 22 (.mv (xt 0)),
 xo 23 (.mv (xt 6)),
 xo 24 (.ia (xt 22) (xt 23) 1),
 xo 25 (.ld (xt 24) 1 false),
 xo 26 (.call 11 [(xt 21), (xt 25)]),
 xo 5 (.mv (xt 26))] [0,1,5,6]
def c8_9 : XC := fun _ => .cond (xt 20) c8_8 (fun _ => .skip)
def c8_10 : XC := fun _ => .seq c8_7 c8_9
def c8_11 : XC := fun _ => .block 1 c8_10
def c8_12 : XC := fun _ => .region [] [xo 12 (.mv (xt 6)),
 xo 13 (.bin .add (xt 12) (xi 1)),
 xo 6 (.mv (xt 13))] [0,1,5,6]
def c8_13 : XC := fun _ => .seq c8_11 c8_12
def c8_14 : XC := fun _ => .seq c8_6 c8_13
def c8_15 : XC := fun _ => .loop c8_14
def c8_16 : XC := fun _ => .block 0 c8_15
def c8_17 : XC := fun _ => .seq c8_3 c8_16
def c8_18 : XC := fun _ => .region [] [xo 27 (.mv (xt 5)),
 xo 4 (.mv (xt 27))] [4]
def c8_19 : XC := fun _ => .seq c8_18 (fun _ => .ret)
def c8_20 : XC := fun _ => .seq c8_17 c8_19
def c8_21 : XC := fun _ => .seq c8_2 c8_20
def c8_22 : XC := fun _ => .seq c8_1 c8_21
def m_spec_WithoutServers : MCode := c8_22 ()
def h_spec_WithoutServers : Hints := [(0, [0,1], [], [], []), (1, [0,1,5], [], [], []), (2, [0,1,5,6], [], [], []), (3, [0,1,5,6,11], [], [], []), (5, [0,1,5,6,20], [], [], []), (6, [0,1,5,6], [], [], []), (4, [0,1,5,6], [], [], []), (7, [4], [], [], [])]
def r_spec_WithoutServers : List RV := [.t 4]
abbrev n_spec_WithoutServers : Nat := 8
theorem k_spec_WithoutServers : Known Pr mu n_spec_WithoutServers m_spec_WithoutServers r_spec_WithoutServers Go.Proofs.Try.f8.ntmps := .of h_spec_WithoutServers hm Go.Proofs.Try.func8
def c9_1 : XC := fun _ => .region [] [xo 3 (.box (xt 1)),
 xo 4 (.mv (.const (.slice none 0 0)))] [0,3]
def c9_2 : XC := fun _ => .region [] [xo 5 (.mv (xt 0)),
 xo 6 (.call 13 [(xt 5)]),
 xo 7 (.mkf 14 [(xt 3)]),
 xo 8 (.callm 12 [(xt 6), (xt 7)]),
 xo 4 (.mv (xt 8))] [4]
def c9_3 : XC := fun _ => .seq c9_2 (fun _ => .ret)
def c9_4 : XC := fun _ => .seq c9_1 c9_3
def m_impl_WithoutServers : MCode := c9_4 ()
def h_impl_WithoutServers : Hints := [(0, [0,3], [], [], []), (1, [4], [], [], [])]
def r_impl_WithoutServers : List RV := [.t 4]
abbrev n_impl_WithoutServers : Nat := 9
theorem k_impl_WithoutServers : Known Pr mu n_impl_WithoutServers m_impl_WithoutServers r_impl_WithoutServers Go.Proofs.Try.f9.ntmps := .of h_impl_WithoutServers hm Go.Proofs.Try.func9
def c10_1 : XC := fun _ => .region [] [xo 4 (.mv (xb false))] [0,1]
def c10_2 : XC := fun _ => .region [] [xo 5 (.mv (xi 0))] [0,1,5]
def c10_3 : XC := fun _ => .region [] [xo 6 (.mv (xt 5)),
 xo 7 (.mv (xt 0)),
 xo 8 (.len false (xt 7)),
 xo 9 (.bin .lss (xt 6) (xt 8))] [0,1,5,9]
def c10_4 : XC := fun _ => .cond (xt 9) (fun _ => .skip) (fun _ => .exit 0)
def c10_5 : XC := fun _ => .seq c10_3 c10_4
def c10_6 : XC := fun _ => .region [] [xo 12 (.mv (xt 0)),
 xo 13 (.mv (xt 5)),
 xo 14 (.ia (xt 12) (xt 13) 1),
 xo 15 (.ld (xt 14) 1 false),
 xo 16 (.mv (xt 1)),
 xo 17 (.bin .eql (xt 15) (xt 16))] [0,1,5,17]
def c10_7 : XC := fun _ => .region [] [xo 4 (.mv (xb true))] [4]
def c10_8 : XC := fun _ => .seq c10_7 (fun _ => .ret)
def c10_9 : XC := fun _ => .cond (xt 17) c10_8 (fun _ => .skip)
def c10_10 : XC := fun _ => .seq c10_6 c10_9
def c10_11 : XC := fun _ => .block 1 c10_10
def c10_12 : XC := fun _ => .region [] [xo 10 (.mv (xt 5)),
 xo 11 (.bin .add (xt 10) (xi 1)),
 xo 5 (.mv (xt 11))] [0,1,5]
def c10_13 : XC := fun _ => .seq c10_11 c10_12
def c10_14 : XC := fun _ => .seq c10_5 c10_13
def c10_15 : XC := fun _ => .loop c10_14
def c10_16 : XC := fun _ => .block 0 c10_15
def c10_17 : XC := fun _ => .seq c10_2 c10_16
def c10_18 : XC := fun _ => .region [] [xo 4 (.mv (xb false))] [4]
def c10_19 : XC := fun _ => .seq c10_18 (fun _ => .ret)
def c10_20 : XC := fun _ => .seq c10_17 c10_19
def c10_21 : XC := fun _ => .seq c10_1 c10_20
def m_spec_HasServer : MCode := c10_21 ()
def h_spec_HasServer : Hints := [(0, [0,1], [], [], []), (1, [0,1,5], [], [], []), (2, [0,1,5,9], [], [], []), (4, [0,1,5,17], [], [], []), (5, [4], [], [], []), (3, [0,1,5], [], [], []), (6, [4], [], [], [])]
def r_spec_HasServer : List RV := [.t 4]
abbrev n_spec_HasServer : Nat := 10
theorem k_spec_HasServer : Known Pr mu n_spec_HasServer m_spec_HasServer r_spec_HasServer Go.Proofs.Try.f10.ntmps := .of h_spec_HasServer hm Go.Proofs.Try.func10
def c11_1 : XC := fun _ => .region [] [xo 4 (.mv (.const (.slice none 0 0)))] [0,1]
def c11_2 : XC := fun _ => .region [] [xo 5 (.mv (xi 0))] [0,1,5]
def c11_3 : XC := fun _ => .region [] [xo 6 (.mv (xt 5)),
 xo 7 (.mv (xt 0)),
 xo 8 (.len false (xt 7)),
 xo 9 (.bin .lss (xt 6) (xt 8)),
 xo 10 (.mv (xt 9)),
 ⟨(some 11), .mv (xt 0), (some (10, true)), []⟩,
 ⟨(some 12), .mv (xt 5), (some (10, true)), []⟩,
 ⟨(some 13), .ia (xt 11) (xt 12) 1, (some (10, true)), []⟩,
 ⟨(some 14), .ld (xt 13) 1 false, (some (10, true)), []⟩,
 ⟨(some 15), .mv (xt 1), (some (10, true)), []⟩,
 ⟨(some 16), .bin .lss (xt 14) (xt 15), (some (10, true)), []⟩,
 xo 17 (.pick (xt 10) (xt 16) (xb false))] [0,1,5,17]
def c11_4 : XC := fun _ => .cond (xt 17) (fun _ => .skip) (fun _ => .exit 0)
def c11_5 : XC := fun _ => .seq c11_3 c11_4
def c11_6 : XC := fun _ => .region [] [xo 18 (.mv (xt 5)),
 xo 19 (.bin .add (xt 18) (xi 1)),
 xo 5 (.mv (xt 19))] [0,1,5]
def c11_7 : XC := fun _ => .block 1 c11_6
def c11_8 : XC := fun _ => .seq c11_5 c11_7
def c11_9 : XC := fun _ => .loop c11_8
def c11_10 : XC := fun _ => .block 0 c11_9
def c11_11 : XC := fun _ => .region [] [xo 20 (.mv (xt 5)),
 xo 21 (.mv (xt 0)),
 xo 22 (.len false (xt 21)),
 xo 23 (.bin .lss (xt 20) (xt 22)),
 xo 24 (.mv (xt 23)),
 ⟨(some 25), .mv (xt 0), (some (24, true)), []⟩,
 ⟨(some 26), .mv (xt 5), (some (24, true)), []⟩,
 ⟨(some 27), .ia (xt 25) (xt 26) 1, (some (24, true)), []⟩,
 ⟨(some 28), .ld (xt 27) 1 false, (some (24, true)), []⟩,
 ⟨(some 29), .mv (xt 1), (some (24, true)), []⟩,
 ⟨(some 30), .bin .eql (xt 28) (xt 29), (some (24, true)), []⟩,
 xo 31 (.pick (xt 24) (xt 30) (xb false))] [0,1,5,31]
def c11_12 : XC := fun _ => .region [] [xo 32 (.bsl 1 0 [.int .i64 0] []),
 xo 33 (.mv (xt 0)),
 xo 34 (.app (xt 32) (xt 33) 1 8),
 xo 4 (.mv (xt 34))] [4]
def c11_13 : XC := fun _ => .seq c11_12 (fun _ => .ret)
def c11_14 : XC := fun _ => .cond (xt 31) c11_13 (fun _ => .skip)
def c11_15 : XC := fun _ => .seq c11_11 c11_14
def c11_16 : XC := fun _ => .region [xo 43 (.mv (xt 0)), xo 44 (.mv (xt 5)), xo 45 (.slf (xt 43) (some (xt 44)) none 1)] [xo 35 (.bsl 1 0 [.int .i64 0] []),
 xo 36 (.mv (xt 0)),
 xo 37 (.mv (xt 5)),
 ⟨(some 38), .slc false (xt 36) none (some (xt 37)) none 1, none, [0]⟩,
 ⟨(some 39), .appn (xt 35) (xt 38) 1 8, none, [1000000]⟩,
 xo 40 (.mv (xt 1)),
 xo 41 (.bsl 1 1 [.int .i64 0] [(0, (xt 40))]),
 xo 42 (.app (xt 39) (xt 41) 1 8),
 ⟨(some 43), .mv (xt 43), none, []⟩,
 ⟨(some 44), .mv (xt 44), none, []⟩,
 ⟨(some 45), .mv (xt 45), none, []⟩,
 xo 46 (.app (xt 42) (xt 45) 1 8),
 xo 4 (.mv (xt 46))] [4]
def c11_17 : XC := fun _ => .seq c11_16 (fun _ => .ret)
def c11_18 : XC := fun _ => .seq c11_15 c11_17
def c11_19 : XC := fun _ => .seq c11_10 c11_18
def c11_20 : XC := fun _ => .seq c11_2 c11_19
def c11_21 : XC := fun _ => .seq c11_1 c11_20
def m_spec_l2Put : MCode := c11_21 ()
def h_spec_l2Put : Hints := [(0, [0,1], [], [], []), (1, [0,1,5], [], [], []), (2, [0,1,5,17], [], [], []), (3, [0,1,5], [], [], []), (4, [0,1,5,31], [], [], []), (5, [4], [], [], []), (6, [4], [[],[],[],[0],[1000000]], [8,9,10], [])]
def r_spec_l2Put : List RV := [.t 4]
abbrev n_spec_l2Put : Nat := 11
theorem k_spec_l2Put : Known Pr mu n_spec_l2Put m_spec_l2Put r_spec_l2Put Go.Proofs.Try.f11.ntmps := .of h_spec_l2Put hm Go.Proofs.Try.func11
def c12_1 : XC := fun _ => .region [] [xo 4 (.mv (.const (.slice none 0 0)))] [0,1]
def c12_2 : XC := fun _ => .region [] [xo 8 (.mv (xt 0)),
 xo 9 (.mv (xt 1)),
 xo 10 (.call 16 [(xt 8), (xt 9)]),
 xo 5 (.mv (xt 10))] [0,1,5]
def c12_3 : XC := fun _ => .region [] [xo 11 (.mv (xt 5)),
 xo 12 (.bin .eql (xt 11) (xi (-1)))] [0,1,5,12]
def c12_4 : XC := fun _ => .region [] [xo 13 (.mv (xt 0)),
 xo 4 (.mv (xt 13))] [4]
def c12_5 : XC := fun _ => .seq c12_4 (fun _ => .ret)
def c12_6 : XC := fun _ => .cond (xt 12) c12_5 (fun _ => .skip)
def c12_7 : XC := fun _ => .seq c12_3 c12_6
def c12_8 : XC := fun _ => .region [] [xo 14 (.mv (xt 5)),
 xo 15 (.bin .add (xt 14) (xi 1)),
 xo 6 (.mv (xt 15))] [0,1,5,6]
def c12_9 : XC := fun _ => .region [] [xo 16 (.mv (xt 6)),
 xo 17 (.mv (xt 0)),
 xo 18 (.len false (xt 17)),
 xo 19 (.bin .lss (xt 16) (xt 18))] [0,1,5,6,19]
def c12_10 : XC := fun _ => .cond (xt 19) (fun _ => .skip) (fun _ => .exit 0)
def c12_11 : XC := fun _ => .seq c12_9 c12_10
def c12_12 : XC := fun _ => .region [] [xo 22 (.mv (xt 0)),
 xo 23 (.mv (xt 6)),
 xo 24 (.ia (xt 22) (xt 23) 1),
 xo 25 (.ld (xt 24) 1 false),
 xo 7 (.mv (xt 25))] [0,1,5,6,7]
def c12_13 : XC := fun _ => .region [] [xo 26 (.mv (xt 1)),
 xo 27 (.mv (xt 7)),
 xo 28 (.callv (xt 26) [(xt 27)]),
 xo 29 (.not (xt 28))] [0,1,5,6,7,29]
def c12_14 : XC := fun _ => .region [] [xo 30 (.mv (xt 0)),
 xo 31 (.mv (xt 5)),
 xo 32 (.mv (xt 7)),
 xo 33 (.ia (xt 30) (xt 31) 1),
 xn (.sto (xt 33) (xt 32) 1)] [0,1,5,6]
def c12_15 : XC := fun _ => .region [] [xo 34 (.mv (xt 5)),
 xo 35 (.bin .add (xt 34) (xi 1)),
 xo 5 (.mv (xt 35))] [0,1,5,6]
def c12_16 : XC := fun _ => .seq c12_14 c12_15
def c12_17 : XC := fun _ => .cond (xt 29) c12_16 (fun _ => .skip)
def c12_18 : XC := fun _ => .seq c12_13 c12_17
def c12_19 : XC := fun _ => .seq c12_12 c12_18
def c12_20 : XC := fun _ => .block 1 c12_19
def c12_21 : XC := fun _ => .region [] [xo 20 (.mv (xt 6)),
 xo 21 (.bin .add (xt 20) (xi 1)),
 xo 6 (.mv (xt 21))] [0,1,5,6]
def c12_22 : XC := fun _ => .seq c12_20 c12_21
def c12_23 : XC := fun _ => .seq c12_11 c12_22
def c12_24 : XC := fun _ => .loop c12_23
def c12_25 : XC := fun _ => .block 0 c12_24
def c12_26 : XC := fun _ => .seq c12_8 c12_25
def c12_27 : XC := fun _ => .region [] [xo 36 (.mv (xt 0)),
 xo 37 (.mv (xt 5)),
 xo 38 (.slc false (xt 36) (some (xt 37)) none none 1),
 xn (.clr (xt 38) 1 [.int .i64 0])] [0,5]
def c12_28 : XC := fun _ => .region [] [xo 39 (.mv (xt 0)),
 xo 40 (.mv (xt 5)),
 xo 41 (.slc false (xt 39) none (some (xt 40)) none 1),
 xo 4 (.mv (xt 41))] [4]
def c12_29 : XC := fun _ => .seq c12_28 (fun _ => .ret)
def c12_30 : XC := fun _ => .seq c12_27 c12_29
def c12_31 : XC := fun _ => .seq c12_26 c12_30
def c12_32 : XC := fun _ => .seq c12_7 c12_31
def c12_33 : XC := fun _ => .seq c12_2 c12_32
def c12_34 : XC := fun _ => .seq c12_1 c12_33
def m_slices_DeleteFunc_intint : MCode := c12_34 ()
def h_slices_DeleteFunc_intint : Hints := [(0, [0,1], [], [], []), (1, [0,1,5], [], [], []), (2, [0,1,5,12], [], [], []), (3, [4], [], [], []), (4, [0,1,5,6], [], [], []), (5, [0,1,5,6,19], [], [], []), (7, [0,1,5,6,7], [], [], []), (8, [0,1,5,6,7,29], [], [], []), (9, [0,1,5,6], [], [], []), (10, [0,1,5,6], [], [], []), (6, [0,1,5,6], [], [], []), (11, [0,5], [], [], []), (12, [4], [], [], [])]
def r_slices_DeleteFunc_intint : List RV := [.t 4]
abbrev n_slices_DeleteFunc_intint : Nat := 12
theorem k_slices_DeleteFunc_intint : Known Pr mu n_slices_DeleteFunc_intint m_slices_DeleteFunc_intint r_slices_DeleteFunc_intint Go.Proofs.Try.f12.ntmps := .of h_slices_DeleteFunc_intint hm Go.Proofs.Try.func12
def c13_1 : XC := fun _ => .region [] [xo 2 (.mv (.const (.slice none 0 0)))] [0]
def c13_2 : XC := fun _ => .region [] [xo 4 (.mv (xt 0)),
 xo 5 (.call 17 [(xt 4)]),
 xo 3 (.mv (xt 5))] [3]
def c13_3 : XC := fun _ => .region [] [xo 6 (.mv (xt 3)),
 xo 7 (.callm 18 [(xt 6)])] [3]
def c13_4 : XC := fun _ => .region [] [xo 8 (.mv (xt 3)),
 xo 9 (.callm 19 [(xt 8)]),
 xo 2 (.mv (xt 9))] [2]
def c13_5 : XC := fun _ => .seq c13_4 (fun _ => .ret)
def c13_6 : XC := fun _ => .seq c13_3 c13_5
def c13_7 : XC := fun _ => .seq c13_2 c13_6
def c13_8 : XC := fun _ => .seq c13_1 c13_7
def m_impl_ascending : MCode := c13_8 ()
def h_impl_ascending : Hints := [(0, [0], [], [], []), (1, [3], [], [], []), (2, [3], [], [], []), (3, [2], [], [], [])]
def r_impl_ascending : List RV := [.t 2]
abbrev n_impl_ascending : Nat := 13
theorem k_impl_ascending : Known Pr mu n_impl_ascending m_impl_ascending r_impl_ascending Go.Proofs.Try.f13.ntmps := .of h_impl_ascending hm Go.Proofs.Try.func13
def c14_1 : XC := fun _ => .region [] [xo 3 (.mv (xb false))] [0,1]
def c14_2 : XC := fun _ => .region [] [xo 4 (.ld (xt 1) 1 false),
 xo 5 (.mv (xt 0)),
 xo 6 (.call 15 [(xt 4), (xt 5)]),
 xo 3 (.mv (xt 6))] [3]
def c14_3 : XC := fun _ => .seq c14_2 (fun _ => .ret)
def c14_4 : XC := fun _ => .seq c14_1 c14_3
def m_impl_WithoutServers_c1 : MCode := c14_4 ()
def h_impl_WithoutServers_c1 : Hints := [(0, [0,1], [], [], []), (1, [3], [], [], [])]
def r_impl_WithoutServers_c1 : List RV := [.t 3]
abbrev n_impl_WithoutServers_c1 : Nat := 14
theorem k_impl_WithoutServers_c1 : Known Pr mu n_impl_WithoutServers_c1 m_impl_WithoutServers_c1 r_impl_WithoutServers_c1 Go.Proofs.Try.f14.ntmps := .of h_impl_WithoutServers_c1 hm Go.Proofs.Try.func14
def c15_1 : XC := fun _ => .region [] [xo 4 (.mv (xb false))] [0,1]
def c15_2 : XC := fun _ => .region [] [xo 5 (.mv (xt 0)),
 xo 6 (.mv (xt 1)),
 xo 7 (.call 20 [(xt 5), (xt 6)]),
 xo 4 (.mv (xt 7))] [4]
def c15_3 : XC := fun _ => .seq c15_2 (fun _ => .ret)
def c15_4 : XC := fun _ => .seq c15_1 c15_3
def m_impl_HasServer : MCode := c15_4 ()
def h_impl_HasServer : Hints := [(0, [0,1], [], [], []), (1, [4], [], [], [])]
def r_impl_HasServer : List RV := [.t 4]
abbrev n_impl_HasServer : Nat := 15
theorem k_impl_HasServer : Known Pr mu n_impl_HasServer m_impl_HasServer r_impl_HasServer Go.Proofs.Try.f15.ntmps := .of h_impl_HasServer hm Go.Proofs.Try.func15
def c16_1 : XC := fun _ => .region [] [xo 4 (.mv (xi 0))] [0,1]
def c16_2 : XC := fun _ => .region [] [xo 6 (.mv (xt 0)),
 xo 7 (.len false (xt 6)),
 xo 8 (.mv (xi 0))] [0,1,7,8]
def c16_3 : XC := fun _ => .region [] [xo 9 (.bin .lss (xt 8) (xt 7))] [0,1,7,8,9]
def c16_4 : XC := fun _ => .cond (xt 9) (fun _ => .skip) (fun _ => .exit 0)
def c16_5 : XC := fun _ => .region [] [xo 10 (.mv (xt 8)),
 xo 5 (.mv (xt 10))] [0,1,5,7,8]
def c16_6 : XC := fun _ => .region [] [xo 11 (.mv (xt 1)),
 xo 12 (.mv (xt 0)),
 xo 13 (.mv (xt 5)),
 xo 14 (.ia (xt 12) (xt 13) 1),
 xo 15 (.ld (xt 14) 1 false),
 xo 16 (.callv (xt 11) [(xt 15)])] [0,1,5,7,8,16]
def c16_7 : XC := fun _ => .region [] [xo 17 (.mv (xt 5)),
 xo 4 (.mv (xt 17))] [4]
def c16_8 : XC := fun _ => .seq c16_7 (fun _ => .ret)
def c16_9 : XC := fun _ => .cond (xt 16) c16_8 (fun _ => .skip)
def c16_10 : XC := fun _ => .seq c16_6 c16_9
def c16_11 : XC := fun _ => .seq c16_5 c16_10
def c16_12 : XC := fun _ => .block 1 c16_11
def c16_13 : XC := fun _ => .region [] [xo 18 (.bin .add (xt 8) (xi 1)),
 xo 8 (.mv (xt 18))] [0,1,7,8]
def c16_14 : XC := fun _ => .seq c16_12 c16_13
def c16_15 : XC := fun _ => .seq c16_4 c16_14
def c16_16 : XC := fun _ => .seq c16_3 c16_15
def c16_17 : XC := fun _ => .loop c16_16
def c16_18 : XC := fun _ => .block 0 c16_17
def c16_19 : XC := fun _ => .seq c16_2 c16_18
def c16_20 : XC := fun _ => .region [] [xo 4 (.mv (xi (-1)))] [4]
def c16_21 : XC := fun _ => .seq c16_20 (fun _ => .ret)
def c16_22 : XC := fun _ => .seq c16_19 c16_21
def c16_23 : XC := fun _ => .seq c16_1 c16_22
def m_slices_IndexFunc_intint : MCode := c16_23 ()
def h_slices_IndexFunc_intint : Hints := [(0, [0,1], [], [], []), (1, [0,1,7,8], [], [], []), (2, [0,1,7,8,9], [], [], []), (3, [0,1,5,7,8], [], [], []), (4, [0,1,5,7,8,16], [], [], []), (5, [4], [], [], []), (6, [0,1,7,8], [], [], []), (7, [4], [], [], [])]
def r_slices_IndexFunc_intint : List RV := [.t 4]
abbrev n_slices_IndexFunc_intint : Nat := 16
theorem k_slices_IndexFunc_intint : Known Pr mu n_slices_IndexFunc_intint m_slices_IndexFunc_intint r_slices_IndexFunc_intint Go.Proofs.Try.f16.ntmps := .of h_slices_IndexFunc_intint hm Go.Proofs.Try.func16
def c17_1 : XC := fun _ => .region [] [xo 2 (.mv (.const (.slice none 0 0)))] [0]
def c17_2 : XC := fun _ => .region [] [xo 3 (.mv (xt 0)),
 xo 4 (.nbin .eql (xt 3) (.const (.slice none 0 0)))] [0,4]
def c17_3 : XC := fun _ => .region [] [xo 2 (.mv (.const (.slice none 0 0)))] [2]
def c17_4 : XC := fun _ => .seq c17_3 (fun _ => .ret)
def c17_5 : XC := fun _ => .cond (xt 4) c17_4 (fun _ => .skip)
def c17_6 : XC := fun _ => .seq c17_2 c17_5
def c17_7 : XC := fun _ => .region [] [xo 5 (.bsl 1 0 [.int .i64 0] []),
 xo 6 (.mv (xt 0)),
 xo 7 (.app (xt 5) (xt 6) 1 8),
 xo 2 (.mv (xt 7))] [2]
def c17_8 : XC := fun _ => .seq c17_7 (fun _ => .ret)
def c17_9 : XC := fun _ => .seq c17_6 c17_8
def c17_10 : XC := fun _ => .seq c17_1 c17_9
def m_slices_Clone_intint : MCode := c17_10 ()
def h_slices_Clone_intint : Hints := [(0, [0], [], [], []), (1, [0,4], [], [], []), (2, [2], [], [], []), (3, [2], [], [], [])]
def r_slices_Clone_intint : List RV := [.t 2]
abbrev n_slices_Clone_intint : Nat := 17
theorem k_slices_Clone_intint : Known Pr mu n_slices_Clone_intint m_slices_Clone_intint r_slices_Clone_intint Go.Proofs.Try.f17.ntmps := .of h_slices_Clone_intint hm Go.Proofs.Try.func17
def c18_1 : XC := fun _ => .region [] [xo 3 (.mv (xt 0)),
 xo 4 (.len false (xt 3)),
 xo 2 (.mv (xt 4))] [0,2]
def c18_2 : XC := fun _ => .region [] [xo 5 (.mv (xt 0)),
 xo 6 (.mv (xt 2)),
 xo 7 (.mv (xt 2)),
 xo 8 (.conv .u64 (xt 7)),
 xo 9 (.call 22 [(xt 8)]),
 xo 10 (.callm 21 [(xt 5), (xi 0), (xt 6), (xt 9)])] []
def c18_3 : XC := fun _ => .seq c18_1 c18_2
def m_slices_Sort_intint : MCode := c18_3 ()
def h_slices_Sort_intint : Hints := [(0, [0,2], [], [], []), (1, [], [], [], [])]
def r_slices_Sort_intint : List RV := []
abbrev n_slices_Sort_intint : Nat := 18
theorem k_slices_Sort_intint : Known Pr mu n_slices_Sort_intint m_slices_Sort_intint r_slices_Sort_intint Go.Proofs.Try.f18.ntmps := .of h_slices_Sort_intint hm Go.Proofs.Try.func18
def c19_1 : XC := fun _ => .region [] [xo 2 (.mv (.const (.slice none 0 0)))] [0]
def c19_2 : XC := fun _ => .region [] [xo 6 (.mv (xt 0)),
 xo 7 (.len false (xt 6)),
 xo 8 (.bin .lss (xt 7) (xi 2))] [0,8]
def c19_3 : XC := fun _ => .region [] [xo 9 (.mv (xt 0)),
 xo 2 (.mv (xt 9))] [2]
def c19_4 : XC := fun _ => .seq c19_3 (fun _ => .ret)
def c19_5 : XC := fun _ => .cond (xt 8) c19_4 (fun _ => .skip)
def c19_6 : XC := fun _ => .seq c19_2 c19_5
def c19_7 : XC := fun _ => .region [] [xo 3 (.mv (xi 1))] [0,3]
def c19_8 : XC := fun _ => .region [] [xo 10 (.mv (xt 3)),
 xo 11 (.mv (xt 0)),
 xo 12 (.len false (xt 11)),
 xo 13 (.bin .lss (xt 10) (xt 12))] [0,3,13]
def c19_9 : XC := fun _ => .cond (xt 13) (fun _ => .skip) (fun _ => .exit 0)
def c19_10 : XC := fun _ => .seq c19_8 c19_9
def c19_11 : XC := fun _ => .region [] [xo 16 (.mv (xt 0)),
 xo 17 (.mv (xt 3)),
 xo 18 (.ia (xt 16) (xt 17) 1),
 xo 19 (.ld (xt 18) 1 false),
 xo 20 (.mv (xt 0)),
 xo 21 (.mv (xt 3)),
 xo 22 (.bin .sub (xt 21) (xi 1)),
 ⟨(some 23), .ia (xt 20) (xt 22) 1, none, [0, 1, 2, 3]⟩,
 ⟨(some 24), .ld (xt 23) 1 false, none, [0, 1, 2, 3]⟩,
 xo 25 (.bin .eql (xt 19) (xt 24))] [0,3,25]
def c19_12 : XC := fun _ => .region [] [xo 26 (.mv (xt 0)),
 xo 27 (.mv (xt 3)),
 xo 28 (.slc false (xt 26) (some (xt 27)) none none 1),
 xo 4 (.mv (xt 28))] [0,3,4]
def c19_13 : XC := fun _ => .region [] [xo 5 (.mv (xi 1))] [0,3,4,5]
def c19_14 : XC := fun _ => .region [] [xo 29 (.mv (xt 5)),
 xo 30 (.mv (xt 4)),
 xo 31 (.len false (xt 30)),
 xo 32 (.bin .lss (xt 29) (xt 31))] [0,3,4,5,32]
def c19_15 : XC := fun _ => .cond (xt 32) (fun _ => .skip) (fun _ => .exit 2)
def c19_16 : XC := fun _ => .seq c19_14 c19_15
def c19_17 : XC := fun _ => .region [] [xo 35 (.mv (xt 4)),
 xo 36 (.mv (xt 5)),
 xo 37 (.ia (xt 35) (xt 36) 1),
 xo 38 (.ld (xt 37) 1 false),
 xo 39 (.mv (xt 4)),
 xo 40 (.mv (xt 5)),
 xo 41 (.bin .sub (xt 40) (xi 1)),
 ⟨(some 42), .ia (xt 39) (xt 41) 1, none, [0, 1, 2, 3]⟩,
 ⟨(some 43), .ld (xt 42) 1 false, none, [0, 1, 2, 3]⟩,
 xo 44 (.bin .neq (xt 38) (xt 43))] [0,3,4,5,44]
def c19_18 : XC := fun _ => .region [] [xo 45 (.mv (xt 0)),
 xo 46 (.mv (xt 3)),
 xo 47 (.mv (xt 4)),
 xo 48 (.mv (xt 5)),
 xo 49 (.ia (xt 47) (xt 48) 1),
 xo 50 (.ld (xt 49) 1 false),
 xo 51 (.ia (xt 45) (xt 46) 1),
 xn (.sto (xt 51) (xt 50) 1)] [0,3,4,5]
def c19_19 : XC := fun _ => .region [] [xo 52 (.mv (xt 3)),
 xo 53 (.bin .add (xt 52) (xi 1)),
 xo 3 (.mv (xt 53))] [0,3,4,5]
def c19_20 : XC := fun _ => .seq c19_18 c19_19
def c19_21 : XC := fun _ => .cond (xt 44) c19_20 (fun _ => .skip)
def c19_22 : XC := fun _ => .seq c19_17 c19_21
def c19_23 : XC := fun _ => .block 3 c19_22
def c19_24 : XC := fun _ => .region [] [xo 33 (.mv (xt 5)),
 xo 34 (.bin .add (xt 33) (xi 1)),
 xo 5 (.mv (xt 34))] [0,3,4,5]
def c19_25 : XC := fun _ => .seq c19_23 c19_24
def c19_26 : XC := fun _ => .seq c19_16 c19_25
def c19_27 : XC := fun _ => .loop c19_26
def c19_28 : XC := fun _ => .block 2 c19_27
def c19_29 : XC := fun _ => .seq c19_13 c19_28
def c19_30 : XC := fun _ => .region [] [xo 54 (.mv (xt 0)),
 xo 55 (.mv (xt 3)),
 xo 56 (.slc false (xt 54) (some (xt 55)) none none 1),
 xn (.clr (xt 56) 1 [.int .i64 0])] [0,3]
def c19_31 : XC := fun _ => .region [] [xo 57 (.mv (xt 0)),
 xo 58 (.mv (xt 3)),
 xo 59 (.slc false (xt 57) none (some (xt 58)) none 1),
 xo 2 (.mv (xt 59))] [2]
def c19_32 : XC := fun _ => .seq c19_31 (fun _ => .ret)
def c19_33 : XC := fun _ => .seq c19_30 c19_32
def c19_34 : XC := fun _ => .seq c19_29 c19_33
def c19_35 : XC := fun _ => .seq c19_12 c19_34
def c19_36 : XC := fun _ => .cond (xt 25) c19_35 (fun _ => .skip)
def c19_37 : XC := fun _ => .seq c19_11 c19_36
def c19_38 : XC := fun _ => .block 1 c19_37
def c19_39 : XC := fun _ => .region [] [xo 14 (.mv (xt 3)),
 xo 15 (.bin .add (xt 14) (xi 1)),
 xo 3 (.mv (xt 15))] [0,3]
def c19_40 : XC := fun _ => .seq c19_38 c19_39
def c19_41 : XC := fun _ => .seq c19_10 c19_40
def c19_42 : XC := fun _ => .loop c19_41
def c19_43 : XC := fun _ => .block 0 c19_42
def c19_44 : XC := fun _ => .seq c19_7 c19_43
def c19_45 : XC := fun _ => .region [] [xo 60 (.mv (xt 0)),
 xo 2 (.mv (xt 60))] [2]
def c19_46 : XC := fun _ => .seq c19_45 (fun _ => .ret)
def c19_47 : XC := fun _ => .seq c19_44 c19_46
def c19_48 : XC := fun _ => .seq c19_6 c19_47
def c19_49 : XC := fun _ => .seq c19_1 c19_48
def m_slices_Compact_intint : MCode := c19_49 ()
def h_slices_Compact_intint : Hints := [(0, [0], [], [], []), (1, [0,8], [], [], []), (2, [2], [], [], []), (3, [0,3], [], [], []), (4, [0,3,13], [], [], []), (6, [0,3,25], [[],[],[],[],[],[],[],[0,1,2,3],[0,1,2,3]], [], []), (7, [0,3,4], [], [], []), (8, [0,3,4,5], [], [], []), (9, [0,3,4,5,32], [], [], []), (11, [0,3,4,5,44], [[],[],[],[],[],[],[],[0,1,2,3],[0,1,2,3]], [], []), (12, [0,3,4,5], [], [], []), (13, [0,3,4,5], [], [], []), (10, [0,3,4,5], [], [], []), (14, [0,3], [], [], []), (15, [2], [], [], []), (5, [0,3], [], [], []), (16, [2], [], [], [])]
def r_slices_Compact_intint : List RV := [.t 2]
abbrev n_slices_Compact_intint : Nat := 19
theorem k_slices_Compact_intint : Known Pr mu n_slices_Compact_intint m_slices_Compact_intint r_slices_Compact_intint Go.Proofs.Try.f19.ntmps := .of h_slices_Compact_intint hm Go.Proofs.Try.func19
def c20_1 : XC := fun _ => .region [] [xo 4 (.mv (xb false))] [0,1]
def c20_2 : XC := fun _ => .region [] [xo 5 (.mv (xt 0)),
 xo 6 (.mv (xt 1)),
 xo 7 (.call 23 [(xt 5), (xt 6)]),
 xo 8 (.bin .geq (xt 7) (xi 0)),
 xo 4 (.mv (xt 8))] [4]
def c20_3 : XC := fun _ => .seq c20_2 (fun _ => .ret)
def c20_4 : XC := fun _ => .seq c20_1 c20_3
def m_slices_Contains_intint : MCode := c20_4 ()
def h_slices_Contains_intint : Hints := [(0, [0,1], [], [], []), (1, [4], [], [], [])]
def r_slices_Contains_intint : List RV := [.t 4]
abbrev n_slices_Contains_intint : Nat := 20
theorem k_slices_Contains_intint : Known Pr mu n_slices_Contains_intint m_slices_Contains_intint r_slices_Contains_intint Go.Proofs.Try.f20.ntmps := .of h_slices_Contains_intint hm Go.Proofs.Try.func20
def c23_1 : XC := fun _ => .region [] [xo 4 (.mv (xi 0))] [0,1]
def c23_2 : XC := fun _ => .region [] [xo 6 (.mv (xt 0)),
 xo 7 (.len false (xt 6)),
 xo 8 (.mv (xi 0))] [0,1,7,8]
def c23_3 : XC := fun _ => .region [] [xo 9 (.bin .lss (xt 8) (xt 7))] [0,1,7,8,9]
def c23_4 : XC := fun _ => .cond (xt 9) (fun _ => .skip) (fun _ => .exit 0)
def c23_5 : XC := fun _ => .region [] [xo 10 (.mv (xt 8)),
 xo 5 (.mv (xt 10))] [0,1,5,7,8]
def c23_6 : XC := fun _ => .region [] [xo 11 (.mv (xt 1)),
 xo 12 (.mv (xt 0)),
 xo 13 (.mv (xt 5)),
 xo 14 (.ia (xt 12) (xt 13) 1),
 xo 15 (.ld (xt 14) 1 false),
 xo 16 (.bin .eql (xt 11) (xt 15))] [0,1,5,7,8,16]
def c23_7 : XC := fun _ => .region [] [xo 17 (.mv (xt 5)),
 xo 4 (.mv (xt 17))] [4]
def c23_8 : XC := fun _ => .seq c23_7 (fun _ => .ret)
def c23_9 : XC := fun _ => .cond (xt 16) c23_8 (fun _ => .skip)
def c23_10 : XC := fun _ => .seq c23_6 c23_9
def c23_11 : XC := fun _ => .seq c23_5 c23_10
def c23_12 : XC := fun _ => .block 1 c23_11
def c23_13 : XC := fun _ => .region [] [xo 18 (.bin .add (xt 8) (xi 1)),
 xo 8 (.mv (xt 18))] [0,1,7,8]
def c23_14 : XC := fun _ => .seq c23_12 c23_13
def c23_15 : XC := fun _ => .seq c23_4 c23_14
def c23_16 : XC := fun _ => .seq c23_3 c23_15
def c23_17 : XC := fun _ => .loop c23_16
def c23_18 : XC := fun _ => .block 0 c23_17
def c23_19 : XC := fun _ => .seq c23_2 c23_18
def c23_20 : XC := fun _ => .region [] [xo 4 (.mv (xi (-1)))] [4]
def c23_21 : XC := fun _ => .seq c23_20 (fun _ => .ret)
def c23_22 : XC := fun _ => .seq c23_19 c23_21
def c23_23 : XC := fun _ => .seq c23_1 c23_22
def m_slices_Index_intint : MCode := c23_23 ()
def h_slices_Index_intint : Hints := [(0, [0,1], [], [], []), (1, [0,1,7,8], [], [], []), (2, [0,1,7,8,9], [], [], []), (3, [0,1,5,7,8], [], [], []), (4, [0,1,5,7,8,16], [], [], []), (5, [4], [], [], []), (6, [0,1,7,8], [], [], []), (7, [4], [], [], [])]
def r_slices_Index_intint : List RV := [.t 4]
abbrev n_slices_Index_intint : Nat := 23
theorem k_slices_Index_intint : Known Pr mu n_slices_Index_intint m_slices_Index_intint r_slices_Index_intint Go.Proofs.Try.f23.ntmps := .of h_slices_Index_intint hm Go.Proofs.Try.func23
end Go.V.T
