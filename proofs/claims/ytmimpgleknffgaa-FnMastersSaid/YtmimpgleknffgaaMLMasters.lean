/- The short code of the functions that FnMasters reaches, held against the program. Conditions: none. -/
import Derived.Test.YtmimpgleknffgaaV6
import Derived.Test.YtmimpgleknffgaaProg
namespace Go.V.T
open Go Go.V
noncomputable abbrev Pr := Go.Proofs.Try.prog
def mu : Nat → Bool := fun n => Nat.beq n 100 || Nat.beq n 101 || Nat.beq n 103 || Nat.beq n 105 || Nat.beq n 108 || Nat.beq n 109 || Nat.beq n 110 || Nat.beq n 112 || Nat.beq n 113 || Nat.beq n 115 || Nat.beq n 116 || Nat.beq n 119 || Nat.beq n 1000008 || Nat.beq n 1000017 || Nat.beq n 1000020 || Nat.beq n 1000025 || Nat.beq n 1000036 || Nat.beq n 1000043 || Nat.beq n 1000050 || Nat.beq n 1000051 || Nat.beq n 1000061 || Nat.beq n 1000062 || Nat.beq n 1000066 || Nat.beq n 1000076 || Nat.beq n 1000077 || Nat.beq n 1000081 || Nat.beq n 1000082 || Nat.beq n 1000083 || Nat.beq n 1000089 || Nat.beq n 1000095 || Nat.beq n 1000096 || Nat.beq n 2000049
def muc : Nat → Bool := fun n => Nat.beq n 3000000 || mu n
abbrev XC := Unit → MCode
def xt (n : Nat) : Operand := .tmp n
def xi (n : Int) : Operand := .const (.int .i64 n)
def xb (b : Bool) : Operand := .const (.bool b)
def xo (d : Nat) (m : MOp) : MOper := ⟨some d, m, none, []⟩
def xn (m : MOp) : MOper := ⟨none, m, none, []⟩
theorem hm : Pr.follows .mixedOrders = true := by kernel_rfl
def c6_1 : XC := fun _ => .region [] [xo 2 (.mv (xb false))] [0,9998]
def c6_2 : XC := fun _ => .region [] [xo 27 (.mv (xt 0)),
 xo 28 (.call 7 [(xt 27)])] [0,28,9998]
def c6_3 : XC := fun _ => .region [] [xo 2 (.mv (xb true))] [2,9998]
def c6_4 : XC := fun _ => .seq c6_3 (fun _ => .ret)
def c6_5 : XC := fun _ => .cond (xt 28) c6_4 (fun _ => .skip)
def c6_6 : XC := fun _ => .seq c6_2 c6_5
def c6_7 : XC := fun _ => .region [] [xo 30 (.mv (xt 0)),
 xo 31 (.callp 36 [(xt 30)]),
 xo 29 (.mv (xt 31)),
 xo 32 (.ext (xt 29) 0),
 xo 33 (.ext (xt 29) 1),
 xo 3 (.alloc [.slice none 0 0, .int .i64 0]),
 xo 4 (.alloc [.int .i64 0, .int .i64 0, .slice none 0 0, .slice none 0 0]),
 xn (.sto (xt 3) (xt 32) 2),
 xn (.sto (xt 4) (xt 33) 4)] [0,3,4,9998]
def c6_8 : XC := fun _ => .region [] [xo 35 (.ld (xt 3) 2 true),
 xo 36 (.ld (xt 4) 4 true),
 xo 37 (.call 37 [(xt 35), (xt 36)]),
 xo 34 (.mv (xt 37)),
 xo 38 (.ext (xt 34) 0),
 xo 39 (.ext (xt 34) 1),
 xo 5 (.alloc [.slice none 0 0, .int .i64 0]),
 xn (.sto (xt 5) (xt 38) 2),
 xo 6 (.mv (xt 39))] [0,3,4,5,6,9998]
def c6_9 : XC := fun _ => .region [] [xo 41 (.ld (xt 3) 2 true),
 xo 42 (.ld (xt 4) 4 true),
 xo 43 (.call 38 [(xt 41), (xt 42)]),
 xo 40 (.mv (xt 43)),
 xo 44 (.ext (xt 40) 0),
 xo 45 (.ext (xt 40) 1),
 xo 7 (.alloc [.slice none 0 0, .int .i64 0]),
 xn (.sto (xt 7) (xt 44) 2),
 xo 8 (.mv (xt 45))] [0,4,5,6,7,8,9998]
def c6_10 : XC := fun _ => .region [] [xo 46 (.mv (xt 6)),
 xo 47 (.mv (xt 8)),
 xo 48 (.bbin .neq (xt 46) (xt 47)),
 xo 49 (.mv (xt 48)),
 ⟨(some 50), .ld (xt 5) 2 true, (some (49, false)), []⟩,
 ⟨(some 51), .ld (xt 7) 2 true, (some (49, false)), []⟩,
 ⟨(some 52), .call 39 [(xt 50), (xt 51)], (some (49, false)), []⟩,
 ⟨(some 53), .not (xt 52), (some (49, false)), []⟩,
 xo 54 (.pick (xt 49) (xb true) (xt 53))] [0,4,5,6,54,9998]
def c6_11 : XC := fun _ => .region [] [xo 2 (.mv (xb false))] [2,9998]
def c6_12 : XC := fun _ => .seq c6_11 (fun _ => .ret)
def c6_13 : XC := fun _ => .cond (xt 54) c6_12 (fun _ => .skip)
def c6_14 : XC := fun _ => .seq c6_10 c6_13
def c6_15 : XC := fun _ => .region [] [xo 55 (.mv (xt 6))] [0,4,5,55,9998]
def c6_16 : XC := fun _ => .region [] [xo 57 (.ld (xt 5) 2 true),
 xo 58 (.call 40 [(xt 57)]),
 xo 56 (.mv (xt 58)),
 xo 59 (.ext (xt 56) 0),
 xo 60 (.ext (xt 56) 1),
 xo 9 (.alloc [.int .i64 0, .int .i64 0, .slice none 0 0, .slice none 0 0]),
 xn (.sto (xt 9) (xt 59) 4),
 xo 10 (.mv (xt 60))] [0,4,5,9,10,9998]
def c6_17 : XC := fun _ => .region [] [xo 62 (.ld (xt 5) 2 true),
 xo 63 (.fa (xt 4) 0),
 xo 64 (.ld (xt 63) 1 false),
 xo 65 (.call 41 [(xt 62), (xt 64)]),
 xo 61 (.mv (xt 65)),
 xo 66 (.ext (xt 61) 0),
 xo 67 (.ext (xt 61) 1),
 xo 11 (.alloc [.slice none 0 0, .int .i64 0]),
 xn (.sto (xt 11) (xt 66) 2),
 xo 12 (.mv (xt 67))] [0,4,9,10,11,12,9998]
def c6_18 : XC := fun _ => .region [] [xo 69 (.ld (xt 11) 2 true),
 xo 70 (.fa (xt 4) 0),
 xo 71 (.ld (xt 70) 1 false),
 xo 72 (.call 41 [(xt 69), (xt 71)]),
 xo 68 (.mv (xt 72)),
 xo 73 (.ext (xt 68) 0),
 xo 74 (.ext (xt 68) 1),
 xo 13 (.alloc [.slice none 0 0, .int .i64 0]),
 xn (.sto (xt 13) (xt 73) 2),
 xo 14 (.mv (xt 74))] [0,4,9,10,11,12,14,9998]
def c6_19 : XC := fun _ => .region [] [xo 76 (.ld (xt 11) 2 true),
 xo 77 (.call 42 [(xt 76)]),
 xo 75 (.mv (xt 77)),
 xo 78 (.ext (xt 75) 0),
 xo 79 (.ext (xt 75) 1),
 xo 15 (.alloc [.int .i64 0, .int .i64 0, .slice none 0 0, .slice none 0 0]),
 xn (.sto (xt 15) (xt 78) 4),
 xo 16 (.mv (xt 79))] [0,4,9,10,12,14,15,16,9998]
def c6_20 : XC := fun _ => .region [] [xo 80 (.mv (xt 10)),
 xo 81 (.not (xt 80)),
 xo 82 (.mv (xt 81)),
 ⟨(some 83), .ld (xt 9) 4 true, (some (82, false)), []⟩,
 ⟨(some 84), .ld (xt 4) 4 true, (some (82, false)), []⟩,
 ⟨(some 85), .call 14 [(xt 83), (xt 84)], (some (82, false)), []⟩,
 ⟨(some 86), .not (xt 85), (some (82, false)), []⟩,
 xo 87 (.pick (xt 82) (xb true) (xt 86)),
 xo 88 (.mv (xt 87)),
 ⟨(some 89), .mv (xt 12), (some (88, false)), []⟩,
 ⟨(some 90), .not (xt 89), (some (88, false)), []⟩,
 xo 91 (.pick (xt 88) (xb true) (xt 90)),
 xo 92 (.mv (xt 91)),
 ⟨(some 93), .mv (xt 14), (some (92, false)), []⟩,
 xo 94 (.pick (xt 92) (xb true) (xt 93)),
 xo 95 (.mv (xt 94)),
 ⟨(some 96), .mv (xt 16), (some (95, false)), []⟩,
 ⟨(some 97), .not (xt 96), (some (95, false)), []⟩,
 xo 98 (.pick (xt 95) (xb true) (xt 97)),
 xo 99 (.mv (xt 98)),
 ⟨(some 100), .ld (xt 15) 4 true, (some (99, false)), []⟩,
 ⟨(some 101), .ld (xt 4) 4 true, (some (99, false)), []⟩,
 ⟨(some 102), .call 14 [(xt 100), (xt 101)], (some (99, false)), []⟩,
 ⟨(some 103), .not (xt 102), (some (99, false)), []⟩,
 xo 104 (.pick (xt 99) (xb true) (xt 103))] [0,104,9998]
def c6_21 : XC := fun _ => .region [] [xo 2 (.mv (xb false))] [2,9998]
def c6_22 : XC := fun _ => .seq c6_21 (fun _ => .ret)
def c6_23 : XC := fun _ => .cond (xt 104) c6_22 (fun _ => .skip)
def c6_24 : XC := fun _ => .seq c6_20 c6_23
def c6_25 : XC := fun _ => .seq c6_19 c6_24
def c6_26 : XC := fun _ => .seq c6_18 c6_25
def c6_27 : XC := fun _ => .seq c6_17 c6_26
def c6_28 : XC := fun _ => .seq c6_16 c6_27
def c6_29 : XC := fun _ => .cond (xt 55) c6_28 (fun _ => .skip)
def c6_30 : XC := fun _ => .seq c6_15 c6_29
def c6_31 : XC := fun _ => .region [] [xo 106 (.mv (xt 0)),
 xo 107 (.callp 43 [(xt 106)]),
 xo 105 (.mv (xt 107)),
 xo 108 (.ext (xt 105) 0),
 xo 109 (.ext (xt 105) 1),
 xo 17 (.alloc [.slice none 0 0, .int .i64 0]),
 xn (.sto (xt 17) (xt 108) 2),
 xo 18 (.mv (xt 109))] [17,18,9998]
def c6_32 : XC := fun _ => .region [] [xo 111 (.ld (xt 17) 2 true),
 xo 112 (.mv (xt 18)),
 xo 113 (.call 41 [(xt 111), (xt 112)]),
 xo 110 (.mv (xt 113)),
 xo 114 (.ext (xt 110) 0),
 xo 115 (.ext (xt 110) 1),
 xo 19 (.alloc [.slice none 0 0, .int .i64 0]),
 xn (.sto (xt 19) (xt 114) 2),
 xo 20 (.mv (xt 115))] [17,18,19,20,9998]
def c6_33 : XC := fun _ => .region [] [xo 117 (.ld (xt 17) 2 true),
 xo 118 (.mv (xt 18)),
 xo 119 (.call 44 [(xt 117), (xt 118)]),
 xo 116 (.mv (xt 119)),
 xo 120 (.ext (xt 116) 0),
 xo 121 (.ext (xt 116) 1),
 xo 21 (.alloc [.slice none 0 0, .int .i64 0]),
 xn (.sto (xt 21) (xt 120) 2),
 xo 22 (.mv (xt 121))] [17,18,19,20,21,22,9998]
def c6_34 : XC := fun _ => .region [] [xo 123 (.ld (xt 17) 2 true),
 xo 124 (.mv (xt 18)),
 xo 125 (.call 45 [(xt 123), (xt 124)]),
 xo 122 (.mv (xt 125)),
 xo 126 (.ext (xt 122) 0),
 xo 127 (.ext (xt 122) 1),
 xo 23 (.alloc [.int .i64 0, .int .i64 0, .slice none 0 0, .slice none 0 0]),
 xn (.sto (xt 23) (xt 126) 4),
 xo 24 (.mv (xt 127))] [17,18,19,20,21,22,23,24,9998]
def c6_35 : XC := fun _ => .region [] [xo 129 (.ld (xt 17) 2 true),
 xo 130 (.mv (xt 18)),
 xo 131 (.call 46 [(xt 129), (xt 130)]),
 xo 128 (.mv (xt 131)),
 xo 132 (.ext (xt 128) 0),
 xo 133 (.ext (xt 128) 1),
 xo 25 (.alloc [.int .i64 0, .int .i64 0, .slice none 0 0, .slice none 0 0]),
 xn (.sto (xt 25) (xt 132) 4),
 xo 26 (.mv (xt 133))] [17,19,20,21,22,23,24,25,26,9998]
def c6_36 : XC := fun _ => .region [] [xo 134 (.mv (xt 20)),
 xo 135 (.mv (xt 22)),
 xo 136 (.bbin .eql (xt 134) (xt 135)),
 xo 137 (.mv (xt 136)),
 ⟨(some 138), .ld (xt 19) 2 true, (some (137, true)), []⟩,
 ⟨(some 139), .ld (xt 21) 2 true, (some (137, true)), [4]⟩,
 ⟨(some 140), .call 39 [(xt 138), (xt 139)], (some (137, true)), []⟩,
 xo 141 (.pick (xt 137) (xt 140) (xb false)),
 xo 142 (.mv (xt 141)),
 ⟨(some 143), .mv (xt 24), (some (142, true)), []⟩,
 ⟨(some 144), .mv (xt 26), (some (142, true)), []⟩,
 ⟨(some 145), .bbin .eql (xt 143) (xt 144), (some (142, true)), []⟩,
 xo 146 (.pick (xt 142) (xt 145) (xb false)),
 xo 147 (.mv (xt 146)),
 ⟨(some 148), .ld (xt 23) 4 true, (some (147, true)), []⟩,
 ⟨(some 149), .ld (xt 25) 4 true, (some (147, true)), [14]⟩,
 ⟨(some 150), .call 14 [(xt 148), (xt 149)], (some (147, true)), []⟩,
 xo 151 (.pick (xt 147) (xt 150) (xb false)),
 xo 152 (.mv (xt 151)),
 ⟨(some 153), .ld (xt 17) 2 true, (some (152, true)), []⟩,
 ⟨(some 154), .call 47 [(xt 153)], (some (152, true)), []⟩,
 ⟨(some 155), .ld (xt 17) 2 true, (some (152, true)), [19, 20]⟩,
 ⟨(some 156), .call 48 [(xt 155)], (some (152, true)), []⟩,
 ⟨(some 157), .bbin .eql (xt 154) (xt 156), (some (152, true)), []⟩,
 xo 158 (.pick (xt 152) (xt 157) (xb false)),
 xo 2 (.mv (xt 158))] [2,9998]
def c6_37 : XC := fun _ => .seq c6_36 (fun _ => .ret)
def c6_38 : XC := fun _ => .seq c6_35 c6_37
def c6_39 : XC := fun _ => .seq c6_34 c6_38
def c6_40 : XC := fun _ => .seq c6_33 c6_39
def c6_41 : XC := fun _ => .seq c6_32 c6_40
def c6_42 : XC := fun _ => .seq c6_31 c6_41
def c6_43 : XC := fun _ => .seq c6_30 c6_42
def c6_44 : XC := fun _ => .seq c6_14 c6_43
def c6_45 : XC := fun _ => .seq c6_9 c6_44
def c6_46 : XC := fun _ => .seq c6_8 c6_45
def c6_47 : XC := fun _ => .seq c6_7 c6_46
def c6_48 : XC := fun _ => .seq c6_6 c6_47
def c6_49 : XC := fun _ => .seq c6_1 c6_48
def m_laws_FnMasters : MCode := c6_49 ()
def h_laws_FnMasters : Hints := [(0, [0,9998], [], [], []), (1, [0,28,9998], [], [], []), (2, [2,9998], [], [], []), (3, [0,3,4,9998], [], [], []), (4, [0,3,4,5,6,9998], [], [], []), (5, [0,4,5,6,7,8,9998], [], [], []), (6, [0,4,5,6,54,9998], [], [], []), (7, [2,9998], [], [], []), (8, [0,4,5,55,9998], [], [], []), (9, [0,4,5,9,10,9998], [], [], []), (10, [0,4,9,10,11,12,9998], [], [], []), (11, [0,4,9,10,11,12,14,9998], [], [], []), (12, [0,4,9,10,12,14,15,16,9998], [], [], []), (13, [0,104,9998], [], [], []), (14, [2,9998], [], [], []), (15, [17,18,9998], [], [], []), (16, [17,18,19,20,9998], [], [], []), (17, [17,18,19,20,21,22,9998], [], [], []), (18, [17,18,19,20,21,22,23,24,9998], [], [], []), (19, [17,19,20,21,22,23,24,25,26,9998], [], [], []), (20, [2,9998], [[],[],[],[],[],[4],[],[],[],[],[],[],[],[],[],[14],[],[],[],[],[],[19,20]], [], [])]
def r_laws_FnMasters : List RV := [.t 2]
abbrev n_laws_FnMasters : Nat := 6
theorem k_laws_FnMasters : Known Pr mu n_laws_FnMasters m_laws_FnMasters r_laws_FnMasters Go.Proofs.Try.f6.ntmps := .of h_laws_FnMasters hm Go.Proofs.Try.func6
def c7_1 : XC := fun _ => .region [] [xo 2 (.mv (xb false))] [0]
def c7_2 : XC := fun _ => .region [] [xo 3 (.mv (xt 0)),
 xo 4 (.len false (xt 3)),
 xo 5 (.bin .gtr (xt 4) (xi 1048576)),
 xo 2 (.mv (xt 5))] [2]
def c7_3 : XC := fun _ => .seq c7_2 (fun _ => .ret)
def c7_4 : XC := fun _ => .seq c7_1 c7_3
def m_laws_big : MCode := c7_4 ()
def h_laws_big : Hints := [(0, [0], [], [], []), (1, [2], [], [], [])]
def r_laws_big : List RV := [.t 2]
abbrev n_laws_big : Nat := 7
theorem k_laws_big : Known Pr mu n_laws_big m_laws_big r_laws_big Go.Proofs.Try.f7.ntmps := .of h_laws_big hm Go.Proofs.Try.func7
def c14_1 : XC := fun _ => .region [] [xo 2 (.box (xt 0)),
 xo 3 (.box (xt 1)),
 xo 4 (.mv (xb false))] [2,3]
def c14_2 : XC := fun _ => .region [] [xo 5 (.fa (xt 2) 0),
 xo 6 (.ld (xt 5) 1 false),
 xo 7 (.fa (xt 3) 0),
 xo 8 (.ld (xt 7) 1 false),
 xo 9 (.bin .eql (xt 6) (xt 8)),
 xo 10 (.mv (xt 9)),
 ⟨(some 11), .fa (xt 2) 1, (some (10, true)), []⟩,
 ⟨(some 12), .ld (xt 11) 1 false, (some (10, true)), []⟩,
 ⟨(some 13), .fa (xt 3) 1, (some (10, true)), []⟩,
 ⟨(some 14), .ld (xt 13) 1 false, (some (10, true)), []⟩,
 ⟨(some 15), .bin .eql (xt 12) (xt 14), (some (10, true)), []⟩,
 xo 16 (.pick (xt 10) (xt 15) (xb false)),
 xo 17 (.mv (xt 16)),
 ⟨(some 18), .fa (xt 2) 2, (some (17, true)), []⟩,
 ⟨(some 19), .ld (xt 18) 1 false, (some (17, true)), []⟩,
 ⟨(some 20), .fa (xt 3) 2, (some (17, true)), []⟩,
 ⟨(some 21), .ld (xt 20) 1 false, (some (17, true)), []⟩,
 ⟨(some 22), .call 58 [(xt 19), (xt 21)], (some (17, true)), []⟩,
 xo 23 (.pick (xt 17) (xt 22) (xb false)),
 xo 24 (.mv (xt 23)),
 ⟨(some 25), .fa (xt 2) 3, (some (24, true)), []⟩,
 ⟨(some 26), .ld (xt 25) 1 false, (some (24, true)), []⟩,
 ⟨(some 27), .fa (xt 3) 3, (some (24, true)), []⟩,
 ⟨(some 28), .ld (xt 27) 1 false, (some (24, true)), []⟩,
 ⟨(some 29), .call 58 [(xt 26), (xt 28)], (some (24, true)), []⟩,
 xo 30 (.pick (xt 24) (xt 29) (xb false)),
 xo 4 (.mv (xt 30))] [4]
def c14_3 : XC := fun _ => .seq c14_2 (fun _ => .ret)
def c14_4 : XC := fun _ => .seq c14_1 c14_3
def m_impl_EqualConfigs : MCode := c14_4 ()
def h_impl_EqualConfigs : Hints := [(0, [2,3], [], [], []), (1, [4], [], [], [])]
def r_impl_EqualConfigs : List RV := [.t 4]
abbrev n_impl_EqualConfigs : Nat := 14
theorem k_impl_EqualConfigs : Known Pr mu n_impl_EqualConfigs m_impl_EqualConfigs r_impl_EqualConfigs Go.Proofs.Try.f14.ntmps := .of h_impl_EqualConfigs hm Go.Proofs.Try.func14
def c31_1 : XC := fun _ => .region [] [xo 1 (.box (xt 0)),
 xo 2 (.mv (xb false))] [1]
def c31_2 : XC := fun _ => .region [] [xo 3 (.fa (xt 1) 0),
 xo 4 (.ld (xt 3) 1 false),
 xo 5 (.call 55 [(xt 4), (xi 1), (xi 20)]),
 xo 6 (.mv (xt 5)),
 ⟨(some 7), .fa (xt 1) 2, (some (6, true)), []⟩,
 ⟨(some 8), .ld (xt 7) 1 false, (some (6, true)), []⟩,
 ⟨(some 9), .call 72 [(xt 8)], (some (6, true)), []⟩,
 xo 10 (.pick (xt 6) (xt 9) (xb false)),
 xo 11 (.mv (xt 10)),
 ⟨(some 12), .fa (xt 1) 3, (some (11, true)), []⟩,
 ⟨(some 13), .ld (xt 12) 1 false, (some (11, true)), []⟩,
 ⟨(some 14), .call 72 [(xt 13)], (some (11, true)), []⟩,
 xo 15 (.pick (xt 11) (xt 14) (xb false)),
 xo 16 (.mv (xt 15)),
 ⟨(some 17), .fa (xt 1) 2, (some (16, true)), []⟩,
 ⟨(some 18), .ld (xt 17) 1 false, (some (16, true)), []⟩,
 ⟨(some 19), .fa (xt 1) 1, (some (16, true)), []⟩,
 ⟨(some 20), .ld (xt 19) 1 false, (some (16, true)), []⟩,
 ⟨(some 21), .call 56 [(xt 18), (xt 20)], (some (16, true)), []⟩,
 xo 22 (.pick (xt 16) (xt 21) (xb false)),
 xo 23 (.mv (xt 22)),
 ⟨(some 24), .fa (xt 1) 2, (some (23, true)), []⟩,
 ⟨(some 25), .ld (xt 24) 1 false, (some (23, true)), []⟩,
 ⟨(some 26), .fa (xt 1) 3, (some (23, true)), []⟩,
 ⟨(some 27), .ld (xt 26) 1 false, (some (23, true)), []⟩,
 ⟨(some 28), .call 73 [(xt 25), (xt 27)], (some (23, true)), []⟩,
 ⟨(some 29), .len false (xt 28), (some (23, true)), []⟩,
 ⟨(some 30), .bin .eql (xt 29) (xi 0), (some (23, true)), []⟩,
 xo 31 (.pick (xt 23) (xt 30) (xb false)),
 xo 2 (.mv (xt 31))] [2]
def c31_3 : XC := fun _ => .seq c31_2 (fun _ => .ret)
def c31_4 : XC := fun _ => .seq c31_1 c31_3
def m_impl_IsValidConfig : MCode := c31_4 ()
def h_impl_IsValidConfig : Hints := [(0, [1], [], [], []), (1, [2], [], [], [])]
def r_impl_IsValidConfig : List RV := [.t 2]
abbrev n_impl_IsValidConfig : Nat := 31
theorem k_impl_IsValidConfig : Known Pr mu n_impl_IsValidConfig m_impl_IsValidConfig r_impl_IsValidConfig Go.Proofs.Try.f31.ntmps := .of h_impl_IsValidConfig hm Go.Proofs.Try.func31
def c32_1 : XC := fun _ => .region [] [xo 1 (.box (xt 0)),
 xo 2 (.mv (xb false))] [1]
def c32_2 : XC := fun _ => .region [] [xo 3 (.fa (xt 1) 0),
 xo 4 (.ld (xt 3) 1 false),
 xo 5 (.call 65 [(xt 4), (xi 1), (xi 20)]),
 xo 6 (.mv (xt 5)),
 ⟨(some 7), .fa (xt 1) 2, (some (6, true)), []⟩,
 ⟨(some 8), .ld (xt 7) 1 false, (some (6, true)), []⟩,
 ⟨(some 9), .call 74 [(xt 8)], (some (6, true)), []⟩,
 xo 10 (.pick (xt 6) (xt 9) (xb false)),
 xo 11 (.mv (xt 10)),
 ⟨(some 12), .fa (xt 1) 3, (some (11, true)), []⟩,
 ⟨(some 13), .ld (xt 12) 1 false, (some (11, true)), []⟩,
 ⟨(some 14), .call 74 [(xt 13)], (some (11, true)), []⟩,
 xo 15 (.pick (xt 11) (xt 14) (xb false)),
 xo 16 (.mv (xt 15)),
 ⟨(some 17), .fa (xt 1) 2, (some (16, true)), []⟩,
 ⟨(some 18), .ld (xt 17) 1 false, (some (16, true)), []⟩,
 ⟨(some 19), .fa (xt 1) 1, (some (16, true)), []⟩,
 ⟨(some 20), .ld (xt 19) 1 false, (some (16, true)), []⟩,
 ⟨(some 21), .call 70 [(xt 18), (xt 20)], (some (16, true)), []⟩,
 xo 22 (.pick (xt 16) (xt 21) (xb false)),
 xo 23 (.mv (xt 22)),
 ⟨(some 24), .fa (xt 1) 2, (some (23, true)), []⟩,
 ⟨(some 25), .ld (xt 24) 1 false, (some (23, true)), []⟩,
 ⟨(some 26), .fa (xt 1) 3, (some (23, true)), []⟩,
 ⟨(some 27), .ld (xt 26) 1 false, (some (23, true)), []⟩,
 ⟨(some 28), .call 75 [(xt 25), (xt 27)], (some (23, true)), []⟩,
 ⟨(some 29), .len false (xt 28), (some (23, true)), []⟩,
 ⟨(some 30), .bin .eql (xt 29) (xi 0), (some (23, true)), []⟩,
 xo 31 (.pick (xt 23) (xt 30) (xb false)),
 xo 2 (.mv (xt 31))] [2]
def c32_3 : XC := fun _ => .seq c32_2 (fun _ => .ret)
def c32_4 : XC := fun _ => .seq c32_1 c32_3
def m_spec_IsValidConfig : MCode := c32_4 ()
def h_spec_IsValidConfig : Hints := [(0, [1], [], [], []), (1, [2], [], [], [])]
def r_spec_IsValidConfig : List RV := [.t 2]
abbrev n_spec_IsValidConfig : Nat := 32
theorem k_spec_IsValidConfig : Known Pr mu n_spec_IsValidConfig m_spec_IsValidConfig r_spec_IsValidConfig Go.Proofs.Try.f32.ntmps := .of h_spec_IsValidConfig hm Go.Proofs.Try.func32
def c36_1 : XC := fun _ => .region [] [xo 2 (.alloc [.slice none 0 0, .int .i64 0]),
 xo 3 (.alloc [.int .i64 0, .int .i64 0, .slice none 0 0, .slice none 0 0])] [0,2,3]
def c36_2 : XC := fun _ => .region [] [xo 7 (.mv (xt 0)),
 xo 8 (.calln 49 [(xt 7)]),
 xo 4 (.mv (xt 8))] [2,3,4]
def c36_3 : XC := fun _ => .region [] [xo 9 (.mv (xt 4)),
 xo 10 (.callp 76 [(xt 9)]),
 xo 5 (.alloc [.slice none 0 0, .int .i64 0]),
 xn (.stoc (xt 5) (xt 10) 2)] [2,3,4,5]
def c36_4 : XC := fun _ => .region [] [xo 11 (.mv (xt 4)),
 xo 12 (.callp 66 [(xt 11)]),
 xo 6 (.alloc [.int .i64 0, .int .i64 0, .slice none 0 0, .slice none 0 0]),
 xn (.stoc (xt 6) (xt 12) 4)] [2,3,4,5,6]
def c36_5 : XC := fun _ => .region [] [xo 13 (.mv (xt 4)),
 xo 14 (.callp 77 [(xt 13), (xi 4)]),
 xo 15 (.not (xt 14))] [2,3,5,6,15]
def c36_6 : XC := fun _ => .region [] [xo 16 (.fa (xt 5) 0),
 xo 17 (.ld (xt 16) 1 false),
 xo 18 (.len false (xt 17)),
 xo 19 (.bin .add (xt 18) (xi 1)),
 xo 20 (.fa (xt 6) 0),
 xn (.stoc (xt 20) (xt 19) 1)] [2,3,5,6]
def c36_7 : XC := fun _ => .cond (xt 15) c36_6 (fun _ => .skip)
def c36_8 : XC := fun _ => .seq c36_5 c36_7
def o36_6_0 : MOper := ⟨(some 21), .ld (xt 5) 2 true, none, []⟩
def o36_6_1 : MOper := ⟨(some 22), .ld (xt 6) 4 true, none, []⟩
def o36_6_2 : MOper := ⟨none, .stoc (xt 2) (xt 21) 2, none, []⟩
def o36_6_3 : MOper := ⟨none, .stoc (xt 3) (xt 22) 4, none, []⟩
def c36_9 : XC := fun _ => .regionA 4 (fun _ => .both (fun _ => .step 0 o36_6_1 (fun _ => .step 1 o36_6_0 (fun _ => .step 2 o36_6_2 (fun _ => .step 3 o36_6_3 (fun _ => .fin))))) (fun _ => .step 0 o36_6_0 (fun _ => .both (fun _ => .step 1 o36_6_2 (fun _ => .step 2 o36_6_1 (fun _ => .step 3 o36_6_3 (fun _ => .fin)))) (fun _ => .step 1 o36_6_1 (fun _ => .step 2 o36_6_2 (fun _ => .step 3 o36_6_3 (fun _ => .fin))))))) [2,3]
def c36_10 : XC := fun _ => .seq c36_9 (fun _ => .ret)
def c36_11 : XC := fun _ => .seq c36_8 c36_10
def c36_12 : XC := fun _ => .seq c36_4 c36_11
def c36_13 : XC := fun _ => .seq c36_3 c36_12
def c36_14 : XC := fun _ => .seq c36_2 c36_13
def c36_15 : XC := fun _ => .seq c36_1 c36_14
def m_spec_DrawProposeConfig : MCode := c36_15 ()
def h_spec_DrawProposeConfig : Hints := [(0, [0,2,3], [], [], []), (1, [2,3,4], [], [], []), (2, [2,3,4,5], [], [], []), (3, [2,3,4,5,6], [], [], []), (4, [2,3,5,6,15], [], [], []), (5, [2,3,5,6], [], [], []), (6, [2,3], [], [9999], [])]
def r_spec_DrawProposeConfig : List RV := [.c 2 2 true, .c 3 4 true]
abbrev n_spec_DrawProposeConfig : Nat := 36
theorem k_spec_DrawProposeConfig : Known Pr muc n_spec_DrawProposeConfig m_spec_DrawProposeConfig r_spec_DrawProposeConfig Go.Proofs.Try.f36.ntmps := .of h_spec_DrawProposeConfig hm Go.Proofs.Try.func36
def c37_1 : XC := fun _ => .region [] [xo 2 (.box (xt 0)),
 xo 3 (.box (xt 1)),
 xo 4 (.alloc [.slice none 0 0, .int .i64 0]),
 xo 5 (.mv (xb false))] [2,3,4]
def c37_2 : XC := fun _ => .region [] [xo 7 (.ld (xt 2) 2 true),
 xo 8 (.call 78 [(xt 7)]),
 xo 6 (.alloc [.slice none 0 0, .int .i64 0]),
 xn (.sto (xt 6) (xt 8) 2)] [2,3,4,6]
def c37_3 : XC := fun _ => .region [] [xo 9 (.ld (xt 2) 2 true),
 xo 10 (.call 47 [(xt 9)]),
 xo 11 (.not (xt 10)),
 xo 12 (.mv (xt 11)),
 ⟨(some 13), .ld (xt 3) 4 true, (some (12, false)), []⟩,
 ⟨(some 14), .call 31 [(xt 13)], (some (12, false)), []⟩,
 ⟨(some 15), .not (xt 14), (some (12, false)), []⟩,
 xo 16 (.pick (xt 12) (xb true) (xt 15)),
 xo 17 (.mv (xt 16)),
 ⟨(some 18), .fa (xt 3) 0, (some (17, false)), []⟩,
 ⟨(some 19), .ld (xt 18) 1 false, (some (17, false)), []⟩,
 ⟨(some 20), .fa (xt 2) 0, (some (17, false)), []⟩,
 ⟨(some 21), .ld (xt 20) 1 false, (some (17, false)), []⟩,
 ⟨(some 22), .len false (xt 21), (some (17, false)), []⟩,
 ⟨(some 23), .bin .add (xt 22) (xi 1), (some (17, false)), []⟩,
 ⟨(some 24), .bin .neq (xt 19) (xt 23), (some (17, false)), []⟩,
 xo 25 (.pick (xt 17) (xb true) (xt 24))] [3,4,6,25]
def c37_4 : XC := fun _ => .region [] [xo 26 (.ld (xt 6) 2 true),
 xn (.sto (xt 4) (xt 26) 2),
 xo 5 (.mv (xb false))] [4,5]
def c37_5 : XC := fun _ => .seq c37_4 (fun _ => .ret)
def c37_6 : XC := fun _ => .cond (xt 25) c37_5 (fun _ => .skip)
def c37_7 : XC := fun _ => .seq c37_3 c37_6
def c37_8 : XC := fun _ => .region [] [xo 27 (.fa (xt 6) 0),
 xo 28 (.ld (xt 27) 1 false),
 ⟨(some 29), .ld (xt 3) 4 true, none, [0, 1]⟩,
 ⟨(some 30), .call 57 [(xt 29)], none, [0, 1]⟩,
 xo 31 (.bsl 4 1 [.int .i64 0, .int .i64 0, .slice none 0 0, .slice none 0 0] [(0, (xt 30))]),
 xo 32 (.app (xt 28) (xt 31) 4 64),
 xo 33 (.fa (xt 6) 0),
 xn (.sto (xt 33) (xt 32) 1)] [4,6]
def c37_9 : XC := fun _ => .region [] [xo 34 (.ld (xt 6) 2 true),
 xn (.sto (xt 4) (xt 34) 2),
 xo 5 (.mv (xb true))] [4,5]
def c37_10 : XC := fun _ => .seq c37_9 (fun _ => .ret)
def c37_11 : XC := fun _ => .seq c37_8 c37_10
def c37_12 : XC := fun _ => .seq c37_7 c37_11
def c37_13 : XC := fun _ => .seq c37_2 c37_12
def c37_14 : XC := fun _ => .seq c37_1 c37_13
def m_impl_ProposeConfig : MCode := c37_14 ()
def h_impl_ProposeConfig : Hints := [(0, [2,3,4], [], [], []), (1, [2,3,4,6], [], [], []), (2, [3,4,6,25], [], [], []), (3, [4,5], [], [], []), (4, [4,6], [[],[],[0,1],[0,1]], [], []), (5, [4,5], [], [], [])]
def r_impl_ProposeConfig : List RV := [.c 4 2 true, .t 5]
abbrev n_impl_ProposeConfig : Nat := 37
theorem k_impl_ProposeConfig : Known Pr mu n_impl_ProposeConfig m_impl_ProposeConfig r_impl_ProposeConfig Go.Proofs.Try.f37.ntmps := .of h_impl_ProposeConfig hm Go.Proofs.Try.func37
def c38_1 : XC := fun _ => .region [] [xo 2 (.box (xt 0)),
 xo 3 (.box (xt 1)),
 xo 4 (.alloc [.slice none 0 0, .int .i64 0]),
 xo 5 (.mv (xb false))] [2,3,4]
def c38_2 : XC := fun _ => .region [] [xo 7 (.ld (xt 2) 2 true),
 xo 8 (.call 79 [(xt 7)]),
 xo 6 (.alloc [.slice none 0 0, .int .i64 0]),
 xn (.sto (xt 6) (xt 8) 2)] [2,3,4,6]
def c38_3 : XC := fun _ => .region [] [xo 9 (.ld (xt 2) 2 true),
 xo 10 (.call 48 [(xt 9)]),
 xo 11 (.not (xt 10)),
 xo 12 (.mv (xt 11)),
 ⟨(some 13), .ld (xt 3) 4 true, (some (12, false)), []⟩,
 ⟨(some 14), .call 32 [(xt 13)], (some (12, false)), []⟩,
 ⟨(some 15), .not (xt 14), (some (12, false)), []⟩,
 xo 16 (.pick (xt 12) (xb true) (xt 15)),
 xo 17 (.mv (xt 16)),
 ⟨(some 18), .fa (xt 3) 0, (some (17, false)), []⟩,
 ⟨(some 19), .ld (xt 18) 1 false, (some (17, false)), []⟩,
 ⟨(some 20), .fa (xt 2) 0, (some (17, false)), []⟩,
 ⟨(some 21), .ld (xt 20) 1 false, (some (17, false)), []⟩,
 ⟨(some 22), .len false (xt 21), (some (17, false)), []⟩,
 ⟨(some 23), .bin .add (xt 22) (xi 1), (some (17, false)), []⟩,
 ⟨(some 24), .bin .neq (xt 19) (xt 23), (some (17, false)), []⟩,
 xo 25 (.pick (xt 17) (xb true) (xt 24))] [3,4,6,25]
def c38_4 : XC := fun _ => .region [] [xo 26 (.ld (xt 6) 2 true),
 xn (.sto (xt 4) (xt 26) 2),
 xo 5 (.mv (xb false))] [4,5]
def c38_5 : XC := fun _ => .seq c38_4 (fun _ => .ret)
def c38_6 : XC := fun _ => .cond (xt 25) c38_5 (fun _ => .skip)
def c38_7 : XC := fun _ => .seq c38_3 c38_6
def c38_8 : XC := fun _ => .region [] [xo 27 (.fa (xt 6) 0),
 xo 28 (.ld (xt 27) 1 false),
 ⟨(some 29), .ld (xt 3) 4 true, none, [0, 1]⟩,
 ⟨(some 30), .call 67 [(xt 29)], none, [0, 1]⟩,
 xo 31 (.bsl 4 1 [.int .i64 0, .int .i64 0, .slice none 0 0, .slice none 0 0] [(0, (xt 30))]),
 xo 32 (.app (xt 28) (xt 31) 4 64),
 xo 33 (.fa (xt 6) 0),
 xn (.sto (xt 33) (xt 32) 1)] [4,6]
def c38_9 : XC := fun _ => .region [] [xo 34 (.ld (xt 6) 2 true),
 xn (.sto (xt 4) (xt 34) 2),
 xo 5 (.mv (xb true))] [4,5]
def c38_10 : XC := fun _ => .seq c38_9 (fun _ => .ret)
def c38_11 : XC := fun _ => .seq c38_8 c38_10
def c38_12 : XC := fun _ => .seq c38_7 c38_11
def c38_13 : XC := fun _ => .seq c38_2 c38_12
def c38_14 : XC := fun _ => .seq c38_1 c38_13
def m_spec_ProposeConfig : MCode := c38_14 ()
def h_spec_ProposeConfig : Hints := [(0, [2,3,4], [], [], []), (1, [2,3,4,6], [], [], []), (2, [3,4,6,25], [], [], []), (3, [4,5], [], [], []), (4, [4,6], [[],[],[0,1],[0,1]], [], []), (5, [4,5], [], [], [])]
def r_spec_ProposeConfig : List RV := [.c 4 2 true, .t 5]
abbrev n_spec_ProposeConfig : Nat := 38
theorem k_spec_ProposeConfig : Known Pr mu n_spec_ProposeConfig m_spec_ProposeConfig r_spec_ProposeConfig Go.Proofs.Try.f38.ntmps := .of h_spec_ProposeConfig hm Go.Proofs.Try.func38
def c39_1 : XC := fun _ => .region [] [xo 2 (.box (xt 0)),
 xo 3 (.box (xt 1)),
 xo 4 (.mv (xb false))] [2,3]
def c39_2 : XC := fun _ => .region [] [xo 5 (.fa (xt 2) 1),
 xo 6 (.ld (xt 5) 1 false),
 xo 7 (.fa (xt 3) 1),
 xo 8 (.ld (xt 7) 1 false),
 xo 9 (.bin .eql (xt 6) (xt 8)),
 xo 10 (.mv (xt 9)),
 ⟨(some 11), .fa (xt 2) 0, (some (10, true)), []⟩,
 ⟨(some 12), .ld (xt 11) 1 false, (some (10, true)), []⟩,
 ⟨(some 13), .fa (xt 3) 0, (some (10, true)), []⟩,
 ⟨(some 14), .ld (xt 13) 1 false, (some (10, true)), []⟩,
 ⟨(some 15), .call 80 [(xt 12), (xt 14), (.func 14)], (some (10, true)), []⟩,
 xo 16 (.pick (xt 10) (xt 15) (xb false)),
 xo 4 (.mv (xt 16))] [4]
def c39_3 : XC := fun _ => .seq c39_2 (fun _ => .ret)
def c39_4 : XC := fun _ => .seq c39_1 c39_3
def m_impl_EqualMasterLogs : MCode := c39_4 ()
def h_impl_EqualMasterLogs : Hints := [(0, [2,3], [], [], []), (1, [4], [], [], [])]
def r_impl_EqualMasterLogs : List RV := [.t 4]
abbrev n_impl_EqualMasterLogs : Nat := 39
theorem k_impl_EqualMasterLogs : Known Pr mu n_impl_EqualMasterLogs m_impl_EqualMasterLogs r_impl_EqualMasterLogs Go.Proofs.Try.f39.ntmps := .of h_impl_EqualMasterLogs hm Go.Proofs.Try.func39
def c40_1 : XC := fun _ => .region [] [xo 1 (.box (xt 0)),
 xo 2 (.alloc [.int .i64 0, .int .i64 0, .slice none 0 0, .slice none 0 0]),
 xo 3 (.mv (xb false))] [1,2]
def c40_2 : XC := fun _ => .region [] [xo 4 (.ld (xt 1) 2 true),
 xo 5 (.fa (xt 1) 0),
 xo 6 (.ld (xt 5) 1 false),
 xo 7 (.len false (xt 6)),
 xo 8 (.call 45 [(xt 4), (xt 7)]),
 xo 9 (.ext (xt 8) 0),
 xo 10 (.ext (xt 8) 1),
 xn (.sto (xt 2) (xt 9) 4),
 xo 3 (.mv (xt 10))] [2,3]
def c40_3 : XC := fun _ => .seq c40_2 (fun _ => .ret)
def c40_4 : XC := fun _ => .seq c40_1 c40_3
def m_impl_LastChosen : MCode := c40_4 ()
def h_impl_LastChosen : Hints := [(0, [1,2], [], [], []), (1, [2,3], [], [], [])]
def r_impl_LastChosen : List RV := [.c 2 4 true, .t 3]
abbrev n_impl_LastChosen : Nat := 40
theorem k_impl_LastChosen : Known Pr mu n_impl_LastChosen m_impl_LastChosen r_impl_LastChosen Go.Proofs.Try.f40.ntmps := .of h_impl_LastChosen hm Go.Proofs.Try.func40
def c41_1 : XC := fun _ => .region [] [xo 2 (.box (xt 0)),
 xo 4 (.alloc [.slice none 0 0, .int .i64 0]),
 xo 5 (.mv (xb false))] [1,2,4]
def c41_2 : XC := fun _ => .region [] [xo 7 (.ld (xt 2) 2 true),
 xo 8 (.call 78 [(xt 7)]),
 xo 6 (.alloc [.slice none 0 0, .int .i64 0]),
 xn (.sto (xt 6) (xt 8) 2)] [1,2,4,6]
def c41_3 : XC := fun _ => .region [] [xo 9 (.ld (xt 2) 2 true),
 xo 10 (.call 47 [(xt 9)]),
 xo 11 (.not (xt 10)),
 xo 12 (.mv (xt 11)),
 ⟨(some 13), .mv (xt 1), (some (12, false)), []⟩,
 ⟨(some 14), .fa (xt 2) 0, (some (12, false)), []⟩,
 ⟨(some 15), .ld (xt 14) 1 false, (some (12, false)), []⟩,
 ⟨(some 16), .len false (xt 15), (some (12, false)), []⟩,
 ⟨(some 17), .bin .neq (xt 13) (xt 16), (some (12, false)), []⟩,
 xo 18 (.pick (xt 12) (xb true) (xt 17)),
 xo 19 (.mv (xt 18)),
 ⟨(some 20), .mv (xt 1), (some (19, false)), []⟩,
 ⟨(some 21), .fa (xt 2) 1, (some (19, false)), []⟩,
 ⟨(some 22), .ld (xt 21) 1 false, (some (19, false)), []⟩,
 ⟨(some 23), .bin .leq (xt 20) (xt 22), (some (19, false)), []⟩,
 xo 24 (.pick (xt 19) (xb true) (xt 23))] [1,4,6,24]
def c41_4 : XC := fun _ => .region [] [xo 25 (.ld (xt 6) 2 true),
 xn (.sto (xt 4) (xt 25) 2),
 xo 5 (.mv (xb false))] [4,5]
def c41_5 : XC := fun _ => .seq c41_4 (fun _ => .ret)
def c41_6 : XC := fun _ => .cond (xt 24) c41_5 (fun _ => .skip)
def c41_7 : XC := fun _ => .seq c41_3 c41_6
def c41_8 : XC := fun _ => .region [] [xo 26 (.mv (xt 1)),
 xo 27 (.fa (xt 6) 1),
 xn (.sto (xt 27) (xt 26) 1)] [4,6]
def c41_9 : XC := fun _ => .region [] [xo 28 (.ld (xt 6) 2 true),
 xn (.sto (xt 4) (xt 28) 2),
 xo 5 (.mv (xb true))] [4,5]
def c41_10 : XC := fun _ => .seq c41_9 (fun _ => .ret)
def c41_11 : XC := fun _ => .seq c41_8 c41_10
def c41_12 : XC := fun _ => .seq c41_7 c41_11
def c41_13 : XC := fun _ => .seq c41_2 c41_12
def c41_14 : XC := fun _ => .seq c41_1 c41_13
def m_impl_ActivateConfig : MCode := c41_14 ()
def h_impl_ActivateConfig : Hints := [(0, [1,2,4], [], [], []), (1, [1,2,4,6], [], [], []), (2, [1,4,6,24], [], [], []), (3, [4,5], [], [], []), (4, [4,6], [], [], []), (5, [4,5], [], [], [])]
def r_impl_ActivateConfig : List RV := [.c 4 2 true, .t 5]
abbrev n_impl_ActivateConfig : Nat := 41
theorem k_impl_ActivateConfig : Known Pr mu n_impl_ActivateConfig m_impl_ActivateConfig r_impl_ActivateConfig Go.Proofs.Try.f41.ntmps := .of h_impl_ActivateConfig hm Go.Proofs.Try.func41
def c42_1 : XC := fun _ => .region [] [xo 1 (.box (xt 0)),
 xo 2 (.alloc [.int .i64 0, .int .i64 0, .slice none 0 0, .slice none 0 0]),
 xo 3 (.mv (xb false))] [1,2]
def c42_2 : XC := fun _ => .region [] [xo 4 (.ld (xt 1) 2 true),
 xo 5 (.fa (xt 1) 1),
 xo 6 (.ld (xt 5) 1 false),
 xo 7 (.call 45 [(xt 4), (xt 6)]),
 xo 8 (.ext (xt 7) 0),
 xo 9 (.ext (xt 7) 1),
 xn (.sto (xt 2) (xt 8) 4),
 xo 3 (.mv (xt 9))] [2,3]
def c42_3 : XC := fun _ => .seq c42_2 (fun _ => .ret)
def c42_4 : XC := fun _ => .seq c42_1 c42_3
def m_impl_LastActivated : MCode := c42_4 ()
def h_impl_LastActivated : Hints := [(0, [1,2], [], [], []), (1, [2,3], [], [], [])]
def r_impl_LastActivated : List RV := [.c 2 4 true, .t 3]
abbrev n_impl_LastActivated : Nat := 42
theorem k_impl_LastActivated : Known Pr mu n_impl_LastActivated m_impl_LastActivated r_impl_LastActivated Go.Proofs.Try.f42.ntmps := .of h_impl_LastActivated hm Go.Proofs.Try.func42
def c43_1 : XC := fun _ => .region [] [xo 2 (.alloc [.slice none 0 0, .int .i64 0]),
 xo 3 (.mv (xi 0))] [0,2]
def c43_2 : XC := fun _ => .region [] [xo 6 (.mv (xt 0)),
 xo 7 (.calln 49 [(xt 6)]),
 xo 4 (.mv (xt 7))] [2,4]
def c43_3 : XC := fun _ => .region [] [xo 8 (.mv (xt 4)),
 xo 9 (.callp 76 [(xt 8)]),
 xo 5 (.alloc [.slice none 0 0, .int .i64 0]),
 xn (.stoc (xt 5) (xt 9) 2)] [2,4,5]
def c43_4 : XC := fun _ => .region [] [xo 10 (.mv (xt 4)),
 xo 11 (.callp 77 [(xt 10), (xi 3)]),
 xo 12 (.not (xt 11))] [2,4,5,12]
def o43_4_0 : MOper := ⟨(some 13), .ld (xt 5) 2 true, none, []⟩
def o43_4_1 : MOper := xo 14 (.faf (xt 5) 0)
def o43_4_2 : MOper := ⟨(some 15), .ld (xt 14) 1 false, none, []⟩
def o43_4_3 : MOper := ⟨(some 16), .len false (xt 15), none, []⟩
def o43_4_4 : MOper := ⟨none, .stoc (xt 2) (xt 13) 2, none, []⟩
def o43_4_5 : MOper := ⟨(some 3), .mv (xt 16), none, []⟩
def c43_5 : XC := fun _ => .regionA 6 (fun _ => .step 0 o43_4_1 (fun _ => .both (fun _ => .step 1 o43_4_2 (fun _ => .both (fun _ => .step 2 o43_4_3 (fun _ => .step 3 o43_4_0 (fun _ => .step 4 o43_4_4 (fun _ => .step 5 o43_4_5 (fun _ => .fin))))) (fun _ => .step 2 o43_4_0 (fun _ => .both (fun _ => .step 3 o43_4_4 (fun _ => .step 4 o43_4_3 (fun _ => .step 5 o43_4_5 (fun _ => .fin)))) (fun _ => .step 3 o43_4_3 (fun _ => .step 4 o43_4_4 (fun _ => .step 5 o43_4_5 (fun _ => .fin)))))))) (fun _ => .step 1 o43_4_0 (fun _ => .both (fun _ => .step 2 o43_4_4 (fun _ => .step 3 o43_4_2 (fun _ => .step 4 o43_4_3 (fun _ => .step 5 o43_4_5 (fun _ => .fin))))) (fun _ => .step 2 o43_4_2 (fun _ => .both (fun _ => .step 3 o43_4_4 (fun _ => .step 4 o43_4_3 (fun _ => .step 5 o43_4_5 (fun _ => .fin)))) (fun _ => .step 3 o43_4_3 (fun _ => .step 4 o43_4_4 (fun _ => .step 5 o43_4_5 (fun _ => .fin)))))))))) [2,3]
def c43_6 : XC := fun _ => .seq c43_5 (fun _ => .ret)
def c43_7 : XC := fun _ => .cond (xt 12) c43_6 (fun _ => .skip)
def c43_8 : XC := fun _ => .seq c43_4 c43_7
def o43_5_0 : MOper := ⟨(some 17), .ld (xt 5) 2 true, none, []⟩
def o43_5_1 : MOper := xo 18 (.mv (xt 4))
def o43_5_2 : MOper := ⟨(some 19), .callp 51 [(xt 18), (xi 7)], none, []⟩
def o43_5_3 : MOper := ⟨none, .stoc (xt 2) (xt 17) 2, none, []⟩
def o43_5_4 : MOper := ⟨(some 3), .mv (xt 19), none, []⟩
def c43_9 : XC := fun _ => .regionA 5 (fun _ => .step 0 o43_5_1 (fun _ => .both (fun _ => .step 1 o43_5_2 (fun _ => .step 2 o43_5_0 (fun _ => .step 3 o43_5_3 (fun _ => .step 4 o43_5_4 (fun _ => .fin))))) (fun _ => .step 1 o43_5_0 (fun _ => .step 2 o43_5_2 (fun _ => .step 3 o43_5_3 (fun _ => .step 4 o43_5_4 (fun _ => .fin))))))) [2,3]
def c43_10 : XC := fun _ => .seq c43_9 (fun _ => .ret)
def c43_11 : XC := fun _ => .seq c43_8 c43_10
def c43_12 : XC := fun _ => .seq c43_3 c43_11
def c43_13 : XC := fun _ => .seq c43_2 c43_12
def c43_14 : XC := fun _ => .seq c43_1 c43_13
def m_spec_DrawActivateConfig : MCode := c43_14 ()
def h_spec_DrawActivateConfig : Hints := [(0, [0,2], [], [], []), (1, [2,4], [], [], []), (2, [2,4,5], [], [], []), (3, [2,4,5,12], [], [], []), (4, [2,3], [], [9999], [1]), (5, [2,3], [], [9999], [1])]
def r_spec_DrawActivateConfig : List RV := [.c 2 2 true, .t 3]
abbrev n_spec_DrawActivateConfig : Nat := 43
theorem k_spec_DrawActivateConfig : Known Pr muc n_spec_DrawActivateConfig m_spec_DrawActivateConfig r_spec_DrawActivateConfig Go.Proofs.Try.f43.ntmps := .of h_spec_DrawActivateConfig hm Go.Proofs.Try.func43
def c44_1 : XC := fun _ => .region [] [xo 2 (.box (xt 0)),
 xo 4 (.alloc [.slice none 0 0, .int .i64 0]),
 xo 5 (.mv (xb false))] [1,2,4]
def c44_2 : XC := fun _ => .region [] [xo 7 (.ld (xt 2) 2 true),
 xo 8 (.call 79 [(xt 7)]),
 xo 6 (.alloc [.slice none 0 0, .int .i64 0]),
 xn (.sto (xt 6) (xt 8) 2)] [1,2,4,6]
def c44_3 : XC := fun _ => .region [] [xo 9 (.ld (xt 2) 2 true),
 xo 10 (.call 48 [(xt 9)]),
 xo 11 (.not (xt 10)),
 xo 12 (.mv (xt 11)),
 ⟨(some 13), .mv (xt 1), (some (12, false)), []⟩,
 ⟨(some 14), .fa (xt 2) 0, (some (12, false)), []⟩,
 ⟨(some 15), .ld (xt 14) 1 false, (some (12, false)), []⟩,
 ⟨(some 16), .len false (xt 15), (some (12, false)), []⟩,
 ⟨(some 17), .bin .neq (xt 13) (xt 16), (some (12, false)), []⟩,
 xo 18 (.pick (xt 12) (xb true) (xt 17)),
 xo 19 (.mv (xt 18)),
 ⟨(some 20), .mv (xt 1), (some (19, false)), []⟩,
 ⟨(some 21), .fa (xt 2) 1, (some (19, false)), []⟩,
 ⟨(some 22), .ld (xt 21) 1 false, (some (19, false)), []⟩,
 ⟨(some 23), .bin .leq (xt 20) (xt 22), (some (19, false)), []⟩,
 xo 24 (.pick (xt 19) (xb true) (xt 23))] [1,4,6,24]
def c44_4 : XC := fun _ => .region [] [xo 25 (.ld (xt 6) 2 true),
 xn (.sto (xt 4) (xt 25) 2),
 xo 5 (.mv (xb false))] [4,5]
def c44_5 : XC := fun _ => .seq c44_4 (fun _ => .ret)
def c44_6 : XC := fun _ => .cond (xt 24) c44_5 (fun _ => .skip)
def c44_7 : XC := fun _ => .seq c44_3 c44_6
def c44_8 : XC := fun _ => .region [] [xo 26 (.mv (xt 1)),
 xo 27 (.fa (xt 6) 1),
 xn (.sto (xt 27) (xt 26) 1)] [4,6]
def c44_9 : XC := fun _ => .region [] [xo 28 (.ld (xt 6) 2 true),
 xn (.sto (xt 4) (xt 28) 2),
 xo 5 (.mv (xb true))] [4,5]
def c44_10 : XC := fun _ => .seq c44_9 (fun _ => .ret)
def c44_11 : XC := fun _ => .seq c44_8 c44_10
def c44_12 : XC := fun _ => .seq c44_7 c44_11
def c44_13 : XC := fun _ => .seq c44_2 c44_12
def c44_14 : XC := fun _ => .seq c44_1 c44_13
def m_spec_ActivateConfig : MCode := c44_14 ()
def h_spec_ActivateConfig : Hints := [(0, [1,2,4], [], [], []), (1, [1,2,4,6], [], [], []), (2, [1,4,6,24], [], [], []), (3, [4,5], [], [], []), (4, [4,6], [], [], []), (5, [4,5], [], [], [])]
def r_spec_ActivateConfig : List RV := [.c 4 2 true, .t 5]
abbrev n_spec_ActivateConfig : Nat := 44
theorem k_spec_ActivateConfig : Known Pr mu n_spec_ActivateConfig m_spec_ActivateConfig r_spec_ActivateConfig Go.Proofs.Try.f44.ntmps := .of h_spec_ActivateConfig hm Go.Proofs.Try.func44
def c45_1 : XC := fun _ => .region [] [xo 2 (.box (xt 0)),
 xo 4 (.alloc [.int .i64 0, .int .i64 0, .slice none 0 0, .slice none 0 0]),
 xo 5 (.mv (xb false))] [1,2,4]
def c45_2 : XC := fun _ => .region [] [xo 6 (.ld (xt 2) 2 true),
 xo 7 (.call 47 [(xt 6)]),
 xo 8 (.not (xt 7)),
 xo 9 (.mv (xt 8)),
 ⟨(some 10), .mv (xt 1), (some (9, false)), []⟩,
 ⟨(some 11), .fa (xt 2) 0, (some (9, false)), []⟩,
 ⟨(some 12), .ld (xt 11) 1 false, (some (9, false)), []⟩,
 ⟨(some 13), .len false (xt 12), (some (9, false)), []⟩,
 ⟨(some 14), .call 55 [(xt 10), (xi 1), (xt 13)], (some (9, false)), []⟩,
 ⟨(some 15), .not (xt 14), (some (9, false)), []⟩,
 xo 16 (.pick (xt 9) (xb true) (xt 15))] [1,2,4,16]
def c45_3 : XC := fun _ => .region [] [xo 17 (.bld [.int .i64 0, .int .i64 0, .slice none 0 0, .slice none 0 0] []),
 xn (.sto (xt 4) (xt 17) 4),
 xo 5 (.mv (xb false))] [4,5]
def c45_4 : XC := fun _ => .seq c45_3 (fun _ => .ret)
def c45_5 : XC := fun _ => .cond (xt 16) c45_4 (fun _ => .skip)
def c45_6 : XC := fun _ => .seq c45_2 c45_5
def c45_7 : XC := fun _ => .region [] [xo 18 (.fa (xt 2) 0),
 xo 19 (.ld (xt 18) 1 false),
 xo 20 (.mv (xt 1)),
 xo 21 (.bin .sub (xt 20) (xi 1)),
 xo 22 (.ia (xt 19) (xt 21) 4),
 xo 23 (.ld (xt 22) 4 true),
 xo 24 (.call 57 [(xt 23)]),
 xn (.sto (xt 4) (xt 24) 4),
 xo 5 (.mv (xb true))] [4,5]
def c45_8 : XC := fun _ => .seq c45_7 (fun _ => .ret)
def c45_9 : XC := fun _ => .seq c45_6 c45_8
def c45_10 : XC := fun _ => .seq c45_1 c45_9
def m_impl_ConfigAt : MCode := c45_10 ()
def h_impl_ConfigAt : Hints := [(0, [1,2,4], [], [], []), (1, [1,2,4,16], [], [], []), (2, [4,5], [], [], []), (3, [4,5], [], [], [])]
def r_impl_ConfigAt : List RV := [.c 4 4 true, .t 5]
abbrev n_impl_ConfigAt : Nat := 45
theorem k_impl_ConfigAt : Known Pr mu n_impl_ConfigAt m_impl_ConfigAt r_impl_ConfigAt Go.Proofs.Try.f45.ntmps := .of h_impl_ConfigAt hm Go.Proofs.Try.func45
def c46_1 : XC := fun _ => .region [] [xo 2 (.box (xt 0)),
 xo 4 (.alloc [.int .i64 0, .int .i64 0, .slice none 0 0, .slice none 0 0]),
 xo 5 (.mv (xb false))] [1,2,4]
def c46_2 : XC := fun _ => .region [] [xo 6 (.ld (xt 2) 2 true),
 xo 7 (.call 48 [(xt 6)]),
 xo 8 (.not (xt 7)),
 xo 9 (.mv (xt 8)),
 ⟨(some 10), .mv (xt 1), (some (9, false)), []⟩,
 ⟨(some 11), .fa (xt 2) 0, (some (9, false)), []⟩,
 ⟨(some 12), .ld (xt 11) 1 false, (some (9, false)), []⟩,
 ⟨(some 13), .len false (xt 12), (some (9, false)), []⟩,
 ⟨(some 14), .call 65 [(xt 10), (xi 1), (xt 13)], (some (9, false)), []⟩,
 ⟨(some 15), .not (xt 14), (some (9, false)), []⟩,
 xo 16 (.pick (xt 9) (xb true) (xt 15))] [1,2,4,16]
def c46_3 : XC := fun _ => .region [] [xo 17 (.bld [.int .i64 0, .int .i64 0, .slice none 0 0, .slice none 0 0] []),
 xn (.sto (xt 4) (xt 17) 4),
 xo 5 (.mv (xb false))] [4,5]
def c46_4 : XC := fun _ => .seq c46_3 (fun _ => .ret)
def c46_5 : XC := fun _ => .cond (xt 16) c46_4 (fun _ => .skip)
def c46_6 : XC := fun _ => .seq c46_2 c46_5
def c46_7 : XC := fun _ => .region [] [xo 18 (.fa (xt 2) 0),
 xo 19 (.ld (xt 18) 1 false),
 xo 20 (.mv (xt 1)),
 xo 21 (.bin .sub (xt 20) (xi 1)),
 xo 22 (.ia (xt 19) (xt 21) 4),
 xo 23 (.ld (xt 22) 4 true),
 xo 24 (.call 67 [(xt 23)]),
 xn (.sto (xt 4) (xt 24) 4),
 xo 5 (.mv (xb true))] [4,5]
def c46_8 : XC := fun _ => .seq c46_7 (fun _ => .ret)
def c46_9 : XC := fun _ => .seq c46_6 c46_8
def c46_10 : XC := fun _ => .seq c46_1 c46_9
def m_spec_ConfigAt : MCode := c46_10 ()
def h_spec_ConfigAt : Hints := [(0, [1,2,4], [], [], []), (1, [1,2,4,16], [], [], []), (2, [4,5], [], [], []), (3, [4,5], [], [], [])]
def r_spec_ConfigAt : List RV := [.c 4 4 true, .t 5]
abbrev n_spec_ConfigAt : Nat := 46
theorem k_spec_ConfigAt : Known Pr mu n_spec_ConfigAt m_spec_ConfigAt r_spec_ConfigAt Go.Proofs.Try.f46.ntmps := .of h_spec_ConfigAt hm Go.Proofs.Try.func46
def c47_1 : XC := fun _ => .region [] [xo 1 (.box (xt 0)),
 xo 2 (.mv (xb false))] [1]
def c47_2 : XC := fun _ => .region [] [xo 5 (.fa (xt 1) 0),
 xo 6 (.ld (xt 5) 1 false),
 xo 7 (.len false (xt 6)),
 xo 8 (.mv (xi 0))] [1,6,7,8]
def c47_3 : XC := fun _ => .region [] [xo 9 (.bin .lss (xt 8) (xt 7))] [1,6,7,8,9]
def c47_4 : XC := fun _ => .cond (xt 9) (fun _ => .skip) (fun _ => .exit 0)
def c47_5 : XC := fun _ => .region [] [xo 10 (.mv (xt 8)),
 xo 11 (.ia (xt 6) (xt 8) 4),
 xo 12 (.ld (xt 11) 4 true),
 xo 4 (.alloc [.int .i64 0, .int .i64 0, .slice none 0 0, .slice none 0 0]),
 xo 3 (.mv (xt 10)),
 xn (.sto (xt 4) (xt 12) 4)] [1,3,4,6,7,8]
def c47_6 : XC := fun _ => .region [] [xo 13 (.ld (xt 4) 4 true),
 xo 14 (.call 31 [(xt 13)]),
 xo 15 (.not (xt 14)),
 xo 16 (.mv (xt 15)),
 ⟨(some 17), .fa (xt 4) 0, (some (16, false)), []⟩,
 ⟨(some 18), .ld (xt 17) 1 false, (some (16, false)), []⟩,
 ⟨(some 19), .mv (xt 3), (some (16, false)), []⟩,
 ⟨(some 20), .bin .add (xt 19) (xi 1), (some (16, false)), []⟩,
 ⟨(some 21), .bin .neq (xt 18) (xt 20), (some (16, false)), []⟩,
 xo 22 (.pick (xt 16) (xb true) (xt 21))] [1,6,7,8,22]
def c47_7 : XC := fun _ => .region [] [xo 2 (.mv (xb false))] [2]
def c47_8 : XC := fun _ => .seq c47_7 (fun _ => .ret)
def c47_9 : XC := fun _ => .cond (xt 22) c47_8 (fun _ => .skip)
def c47_10 : XC := fun _ => .seq c47_6 c47_9
def c47_11 : XC := fun _ => .seq c47_5 c47_10
def c47_12 : XC := fun _ => .block 1 c47_11
def c47_13 : XC := fun _ => .region [] [xo 23 (.bin .add (xt 8) (xi 1)),
 xo 8 (.mv (xt 23))] [1,6,7,8]
def c47_14 : XC := fun _ => .seq c47_12 c47_13
def c47_15 : XC := fun _ => .seq c47_4 c47_14
def c47_16 : XC := fun _ => .seq c47_3 c47_15
def c47_17 : XC := fun _ => .loop c47_16
def c47_18 : XC := fun _ => .block 0 c47_17
def c47_19 : XC := fun _ => .seq c47_2 c47_18
def c47_20 : XC := fun _ => .region [] [xo 24 (.fa (xt 1) 1),
 xo 25 (.ld (xt 24) 1 false),
 xo 26 (.fa (xt 1) 0),
 xo 27 (.ld (xt 26) 1 false),
 xo 28 (.len false (xt 27)),
 xo 29 (.call 55 [(xt 25), (xi 0), (xt 28)]),
 xo 2 (.mv (xt 29))] [2]
def c47_21 : XC := fun _ => .seq c47_20 (fun _ => .ret)
def c47_22 : XC := fun _ => .seq c47_19 c47_21
def c47_23 : XC := fun _ => .seq c47_1 c47_22
def m_impl_IsMasterLog : MCode := c47_23 ()
def h_impl_IsMasterLog : Hints := [(0, [1], [], [], []), (1, [1,6,7,8], [], [], []), (2, [1,6,7,8,9], [], [], []), (3, [1,3,4,6,7,8], [], [], []), (4, [1,6,7,8,22], [], [], []), (5, [2], [], [], []), (6, [1,6,7,8], [], [], []), (7, [2], [], [], [])]
def r_impl_IsMasterLog : List RV := [.t 2]
abbrev n_impl_IsMasterLog : Nat := 47
theorem k_impl_IsMasterLog : Known Pr mu n_impl_IsMasterLog m_impl_IsMasterLog r_impl_IsMasterLog Go.Proofs.Try.f47.ntmps := .of h_impl_IsMasterLog hm Go.Proofs.Try.func47
def c48_1 : XC := fun _ => .region [] [xo 1 (.box (xt 0)),
 xo 2 (.mv (xb false))] [1]
def c48_2 : XC := fun _ => .region [] [xo 3 (.mv (xi 0))] [1,3]
def c48_3 : XC := fun _ => .region [] [xo 4 (.mv (xt 3)),
 xo 5 (.fa (xt 1) 0),
 xo 6 (.ld (xt 5) 1 false),
 xo 7 (.len false (xt 6)),
 xo 8 (.bin .lss (xt 4) (xt 7))] [1,3,8]
def c48_4 : XC := fun _ => .cond (xt 8) (fun _ => .skip) (fun _ => .exit 0)
def c48_5 : XC := fun _ => .seq c48_3 c48_4
def c48_6 : XC := fun _ => .region [] [xo 11 (.fa (xt 1) 0),
 xo 12 (.ld (xt 11) 1 false),
 xo 13 (.mv (xt 3)),
 xo 14 (.ia (xt 12) (xt 13) 4),
 xo 15 (.ld (xt 14) 4 true),
 xo 16 (.call 32 [(xt 15)]),
 xo 17 (.not (xt 16)),
 xo 18 (.mv (xt 17)),
 ⟨(some 19), .fa (xt 1) 0, (some (18, false)), []⟩,
 ⟨(some 20), .ld (xt 19) 1 false, (some (18, false)), []⟩,
 ⟨(some 21), .mv (xt 3), (some (18, false)), []⟩,
 ⟨(some 22), .ia (xt 20) (xt 21) 4, (some (18, false)), []⟩,
 ⟨(some 23), .fa (xt 22) 0, (some (18, false)), []⟩,
 ⟨(some 24), .ld (xt 23) 1 false, (some (18, false)), []⟩,
 ⟨(some 25), .mv (xt 3), (some (18, false)), []⟩,
 ⟨(some 26), .bin .add (xt 25) (xi 1), (some (18, false)), []⟩,
 ⟨(some 27), .bin .neq (xt 24) (xt 26), (some (18, false)), []⟩,
 xo 28 (.pick (xt 18) (xb true) (xt 27))] [1,3,28]
def c48_7 : XC := fun _ => .region [] [xo 2 (.mv (xb false))] [2]
def c48_8 : XC := fun _ => .seq c48_7 (fun _ => .ret)
def c48_9 : XC := fun _ => .cond (xt 28) c48_8 (fun _ => .skip)
def c48_10 : XC := fun _ => .seq c48_6 c48_9
def c48_11 : XC := fun _ => .block 1 c48_10
def c48_12 : XC := fun _ => .region [] [xo 9 (.mv (xt 3)),
 xo 10 (.bin .add (xt 9) (xi 1)),
 xo 3 (.mv (xt 10))] [1,3]
def c48_13 : XC := fun _ => .seq c48_11 c48_12
def c48_14 : XC := fun _ => .seq c48_5 c48_13
def c48_15 : XC := fun _ => .loop c48_14
def c48_16 : XC := fun _ => .block 0 c48_15
def c48_17 : XC := fun _ => .seq c48_2 c48_16
def c48_18 : XC := fun _ => .region [] [xo 29 (.fa (xt 1) 1),
 xo 30 (.ld (xt 29) 1 false),
 xo 31 (.fa (xt 1) 0),
 xo 32 (.ld (xt 31) 1 false),
 xo 33 (.len false (xt 32)),
 xo 34 (.call 65 [(xt 30), (xi 0), (xt 33)]),
 xo 2 (.mv (xt 34))] [2]
def c48_19 : XC := fun _ => .seq c48_18 (fun _ => .ret)
def c48_20 : XC := fun _ => .seq c48_17 c48_19
def c48_21 : XC := fun _ => .seq c48_1 c48_20
def m_spec_IsMasterLog : MCode := c48_21 ()
def h_spec_IsMasterLog : Hints := [(0, [1], [], [], []), (1, [1,3], [], [], []), (2, [1,3,8], [], [], []), (4, [1,3,28], [], [], []), (5, [2], [], [], []), (3, [1,3], [], [], []), (6, [2], [], [], [])]
def r_spec_IsMasterLog : List RV := [.t 2]
abbrev n_spec_IsMasterLog : Nat := 48
theorem k_spec_IsMasterLog : Known Pr mu n_spec_IsMasterLog m_spec_IsMasterLog r_spec_IsMasterLog Go.Proofs.Try.f48.ntmps := .of h_spec_IsMasterLog hm Go.Proofs.Try.func48
def c49_1 : XC := fun _ => .region [] [xo 2 (.mv (.const (.pointer none)))] [0]
def c49_2 : XC := fun _ => .region [] [xo 5 (.mv (xt 0)),
 xo 6 (.len false (xt 5)),
 xo 7 (.bin .add (xi 10101) (xt 6)),
 xo 3 (.mv (xt 7))] [0,3]
def c49_3 : XC := fun _ => .region [] [xo 4 (.mv (xi 0))] [0,3,4]
def c49_4 : XC := fun _ => .region [] [xo 8 (.mv (xt 4)),
 xo 9 (.mv (xt 0)),
 xo 10 (.len false (xt 9)),
 xo 11 (.bin .lss (xt 8) (xt 10)),
 xo 12 (.mv (xt 11)),
 ⟨(some 13), .mv (xt 4), (some (12, true)), []⟩,
 ⟨(some 14), .bin .lss (xt 13) (xi 4000), (some (12, true)), []⟩,
 xo 15 (.pick (xt 12) (xt 14) (xb false))] [0,3,4,15]
def c49_5 : XC := fun _ => .cond (xt 15) (fun _ => .skip) (fun _ => .exit 0)
def c49_6 : XC := fun _ => .seq c49_4 c49_5
def c49_7 : XC := fun _ => .region [] [xo 18 (.mv (xt 3)),
 xo 19 (.bin .mul (xt 18) (xi 131)),
 xo 20 (.mv (xt 0)),
 xo 21 (.mv (xt 4)),
 xo 22 (.ia (xt 20) (xt 21) 1),
 xo 23 (.ld (xt 22) 1 false),
 xo 24 (.conv .i64 (xt 23)),
 xo 25 (.bin .add (xt 19) (xt 24)),
 xo 26 (.bin .add (xt 25) (xi 7)),
 xo 27 (.bit .and (xt 26) (xi 1073741823)),
 xo 3 (.mv (xt 27))] [0,3,4]
def c49_8 : XC := fun _ => .block 1 c49_7
def c49_9 : XC := fun _ => .region [] [xo 16 (.mv (xt 4)),
 xo 17 (.bin .add (xt 16) (xi 1)),
 xo 4 (.mv (xt 17))] [0,3,4]
def c49_10 : XC := fun _ => .seq c49_8 c49_9
def c49_11 : XC := fun _ => .seq c49_6 c49_10
def c49_12 : XC := fun _ => .loop c49_11
def c49_13 : XC := fun _ => .block 0 c49_12
def c49_14 : XC := fun _ => .seq c49_3 c49_13
def c49_15 : XC := fun _ => .region [] [xo 28 (.mv (xt 0)),
 xo 29 (.mv (xt 3)),
 xo 30 (.bld [.slice none 0 0, .int .i64 0, .int .i64 0] [(0, 1, (xt 28)), (2, 1, (xt 29))]),
 xo 31 (.box (xt 30)),
 xo 2 (.mv (xt 31))] [2]
def c49_16 : XC := fun _ => .seq c49_15 (fun _ => .ret)
def c49_17 : XC := fun _ => .seq c49_14 c49_16
def c49_18 : XC := fun _ => .seq c49_2 c49_17
def c49_19 : XC := fun _ => .seq c49_1 c49_18
def m_spec_l1New : MCode := c49_19 ()
def h_spec_l1New : Hints := [(0, [0], [], [], []), (1, [0,3], [], [], []), (2, [0,3,4], [], [], []), (3, [0,3,4,15], [], [], []), (5, [0,3,4], [], [], []), (4, [0,3,4], [], [], []), (6, [2], [], [], [])]
def r_spec_l1New : List RV := [.t 2]
abbrev n_spec_l1New : Nat := 49
theorem k_spec_l1New : Known Pr mu n_spec_l1New m_spec_l1New r_spec_l1New Go.Proofs.Try.f49.ntmps := .of h_spec_l1New hm Go.Proofs.Try.func49
def c51_1 : XC := fun _ => .region [] [xo 4 (.mv (xi 0))] [0,1]
def c51_2 : XC := fun _ => .region [] [xo 9 (.mv (xt 1)),
 xo 10 (.bin .leq (xt 9) (xi 0))] [0,1,10]
def c51_3 : XC := fun _ => .region [] [xo 4 (.mv (xi 0))] [4]
def c51_4 : XC := fun _ => .seq c51_3 (fun _ => .ret)
def c51_5 : XC := fun _ => .cond (xt 10) c51_4 (fun _ => .skip)
def c51_6 : XC := fun _ => .seq c51_2 c51_5
def c51_7 : XC := fun _ => .region [] [xo 11 (.mv (xt 1)),
 xo 12 (.bin .leq (xt 11) (xi 256))] [0,1,12]
def c51_8 : XC := fun _ => .region [] [xo 13 (.mv (xt 0)),
 xo 14 (.callp 83 [(xt 13)]),
 xo 15 (.mv (xt 1)),
 xo 16 (.bin .rem (xt 14) (xt 15)),
 xo 4 (.mv (xt 16))] [4]
def c51_9 : XC := fun _ => .seq c51_8 (fun _ => .ret)
def c51_10 : XC := fun _ => .cond (xt 12) c51_9 (fun _ => .skip)
def c51_11 : XC := fun _ => .seq c51_7 c51_10
def c51_12 : XC := fun _ => .region [] [xo 17 (.mv (xt 0)),
 xo 18 (.callp 83 [(xt 17)]),
 xo 5 (.mv (xt 18))] [0,1,5]
def c51_13 : XC := fun _ => .region [] [xo 19 (.mv (xt 0)),
 xo 20 (.callp 83 [(xt 19)]),
 xo 6 (.mv (xt 20))] [0,1,5,6]
def c51_14 : XC := fun _ => .region [] [xo 21 (.mv (xt 0)),
 xo 22 (.callp 83 [(xt 21)]),
 xo 7 (.mv (xt 22))] [0,1,5,6,7]
def c51_15 : XC := fun _ => .region [] [xo 23 (.mv (xt 0)),
 xo 24 (.callp 83 [(xt 23)]),
 xo 8 (.mv (xt 24))] [1,5,6,7,8]
def c51_16 : XC := fun _ => .region [] [xo 25 (.mv (xt 5)),
 xo 26 (.bin .mul (xt 25) (xi 16777216)),
 xo 27 (.mv (xt 6)),
 xo 28 (.bin .mul (xt 27) (xi 65536)),
 xo 29 (.bin .add (xt 26) (xt 28)),
 xo 30 (.mv (xt 7)),
 xo 31 (.bin .mul (xt 30) (xi 256)),
 xo 32 (.bin .add (xt 29) (xt 31)),
 xo 33 (.mv (xt 8)),
 xo 34 (.bin .add (xt 32) (xt 33)),
 xo 35 (.mv (xt 1)),
 xo 36 (.bin .rem (xt 34) (xt 35)),
 xo 4 (.mv (xt 36))] [4]
def c51_17 : XC := fun _ => .seq c51_16 (fun _ => .ret)
def c51_18 : XC := fun _ => .seq c51_15 c51_17
def c51_19 : XC := fun _ => .seq c51_14 c51_18
def c51_20 : XC := fun _ => .seq c51_13 c51_19
def c51_21 : XC := fun _ => .seq c51_12 c51_20
def c51_22 : XC := fun _ => .seq c51_11 c51_21
def c51_23 : XC := fun _ => .seq c51_6 c51_22
def c51_24 : XC := fun _ => .seq c51_1 c51_23
def m_spec_l1Below : MCode := c51_24 ()
def h_spec_l1Below : Hints := [(0, [0,1], [], [], []), (1, [0,1,10], [], [], []), (2, [4], [], [], []), (3, [0,1,12], [], [], []), (4, [4], [], [], []), (5, [0,1,5], [], [], []), (6, [0,1,5,6], [], [], []), (7, [0,1,5,6,7], [], [], []), (8, [1,5,6,7,8], [], [], []), (9, [4], [], [], [])]
def r_spec_l1Below : List RV := [.t 4]
abbrev n_spec_l1Below : Nat := 51
theorem k_spec_l1Below : Known Pr mu n_spec_l1Below m_spec_l1Below r_spec_l1Below Go.Proofs.Try.f51.ntmps := .of h_spec_l1Below hm Go.Proofs.Try.func51
def c55_1 : XC := fun _ => .region [] [xo 6 (.mv (xb false))] [0,1,2]
def c55_2 : XC := fun _ => .region [] [xo 7 (.mv (xt 1)),
 xo 8 (.mv (xt 0)),
 xo 9 (.bin .leq (xt 7) (xt 8)),
 xo 10 (.mv (xt 9)),
 ⟨(some 11), .mv (xt 0), (some (10, true)), []⟩,
 ⟨(some 12), .mv (xt 2), (some (10, true)), []⟩,
 ⟨(some 13), .bin .leq (xt 11) (xt 12), (some (10, true)), []⟩,
 xo 14 (.pick (xt 10) (xt 13) (xb false)),
 xo 6 (.mv (xt 14))] [6]
def c55_3 : XC := fun _ => .seq c55_2 (fun _ => .ret)
def c55_4 : XC := fun _ => .seq c55_1 c55_3
def m_impl_within : MCode := c55_4 ()
def h_impl_within : Hints := [(0, [0,1,2], [], [], []), (1, [6], [], [], [])]
def r_impl_within : List RV := [.t 6]
abbrev n_impl_within : Nat := 55
theorem k_impl_within : Known Pr mu n_impl_within m_impl_within r_impl_within Go.Proofs.Try.f55.ntmps := .of h_impl_within hm Go.Proofs.Try.func55
def c56_1 : XC := fun _ => .region [] [xo 4 (.mv (xb false))] [0,1]
def c56_2 : XC := fun _ => .region [] [xo 5 (.mv (xt 0)),
 xo 6 (.mv (xt 1)),
 xo 7 (.call 86 [(xt 5), (xt 6)]),
 xo 4 (.mv (xt 7))] [4]
def c56_3 : XC := fun _ => .seq c56_2 (fun _ => .ret)
def c56_4 : XC := fun _ => .seq c56_1 c56_3
def m_impl_HasServer : MCode := c56_4 ()
def h_impl_HasServer : Hints := [(0, [0,1], [], [], []), (1, [4], [], [], [])]
def r_impl_HasServer : List RV := [.t 4]
abbrev n_impl_HasServer : Nat := 56
theorem k_impl_HasServer : Known Pr mu n_impl_HasServer m_impl_HasServer r_impl_HasServer Go.Proofs.Try.f56.ntmps := .of h_impl_HasServer hm Go.Proofs.Try.func56
def c57_1 : XC := fun _ => .region [] [xo 1 (.box (xt 0)),
 xo 2 (.alloc [.int .i64 0, .int .i64 0, .slice none 0 0, .slice none 0 0])] [1,2]
def c57_2 : XC := fun _ => .region [] [xo 3 (.fa (xt 1) 0),
 xo 4 (.ld (xt 3) 1 false),
 ⟨(some 5), .fa (xt 1) 1, none, [0, 1]⟩,
 ⟨(some 6), .ld (xt 5) 1 false, none, [0, 1]⟩,
 xo 7 (.bsl 1 0 [.int .i64 0] []),
 ⟨(some 8), .fa (xt 1) 2, none, [0, 1, 2, 3, 4]⟩,
 ⟨(some 9), .ld (xt 8) 1 false, none, [0, 1, 2, 3, 4]⟩,
 ⟨(some 10), .appn (xt 7) (xt 9) 1 8, none, [1000000, 0, 1, 2, 3]⟩,
 xo 11 (.bsl 1 0 [.int .i64 0] []),
 ⟨(some 12), .fa (xt 1) 3, none, [0, 1, 2, 3, 4, 5, 6, 7, 8]⟩,
 ⟨(some 13), .ld (xt 12) 1 false, none, [0, 1, 2, 3, 4, 5, 6, 7, 8]⟩,
 ⟨(some 14), .appn (xt 11) (xt 13) 1 8, none, [1000000, 0, 1, 2, 3]⟩,
 xo 15 (.bld [.int .i64 0, .int .i64 0, .slice none 0 0, .slice none 0 0] [(0, 1, (xt 4)), (1, 1, (xt 6)), (2, 1, (xt 10)), (3, 1, (xt 14))]),
 xn (.sto (xt 2) (xt 15) 4)] [2]
def c57_3 : XC := fun _ => .seq c57_2 (fun _ => .ret)
def c57_4 : XC := fun _ => .seq c57_1 c57_3
def m_impl_configCopy : MCode := c57_4 ()
def h_impl_configCopy : Hints := [(0, [1,2], [], [], []), (1, [2], [[],[],[0,1],[0,1],[],[0,1,2,3,4],[0,1,2,3,4],[1000000,0,1,2,3],[],[0,1,2,3,4,5,6,7,8],[0,1,2,3,4,5,6,7,8],[1000000,0,1,2,3]], [], [])]
def r_impl_configCopy : List RV := [.c 2 4 true]
abbrev n_impl_configCopy : Nat := 57
theorem k_impl_configCopy : Known Pr mu n_impl_configCopy m_impl_configCopy r_impl_configCopy Go.Proofs.Try.f57.ntmps := .of h_impl_configCopy hm Go.Proofs.Try.func57
def c58_1 : XC := fun _ => .region [] [xo 4 (.mv (xb false))] [0,1]
def c58_2 : XC := fun _ => .region [] [xo 5 (.mv (xt 0)),
 xo 6 (.mv (xt 1)),
 xo 7 (.call 87 [(xt 5), (xt 6)]),
 xo 4 (.mv (xt 7))] [4]
def c58_3 : XC := fun _ => .seq c58_2 (fun _ => .ret)
def c58_4 : XC := fun _ => .seq c58_1 c58_3
def m_impl_EqualServers : MCode := c58_4 ()
def h_impl_EqualServers : Hints := [(0, [0,1], [], [], []), (1, [4], [], [], [])]
def r_impl_EqualServers : List RV := [.t 4]
abbrev n_impl_EqualServers : Nat := 58
theorem k_impl_EqualServers : Known Pr mu n_impl_EqualServers m_impl_EqualServers r_impl_EqualServers Go.Proofs.Try.f58.ntmps := .of h_impl_EqualServers hm Go.Proofs.Try.func58
def c62_1 : XC := fun _ => .region [] [xo 4 (.mv (xi 0))] [0,1]
def c62_2 : XC := fun _ => .region [] [xo 5 (.mv (xt 1)),
 xo 6 (.mv (xt 0)),
 xo 7 (.mv (xt 1)),
 xo 8 (.len false (xt 7)),
 xo 9 (.callp 51 [(xt 6), (xt 8)]),
 xo 10 (.ia (xt 5) (xt 9) 1),
 xo 11 (.ld (xt 10) 1 false),
 xo 4 (.mv (xt 11))] [4]
def c62_3 : XC := fun _ => .seq c62_2 (fun _ => .ret)
def c62_4 : XC := fun _ => .seq c62_1 c62_3
def m_spec_l1PickInt : MCode := c62_4 ()
def h_spec_l1PickInt : Hints := [(0, [0,1], [], [], []), (1, [4], [], [], [])]
def r_spec_l1PickInt : List RV := [.t 4]
abbrev n_spec_l1PickInt : Nat := 62
theorem k_spec_l1PickInt : Known Pr mu n_spec_l1PickInt m_spec_l1PickInt r_spec_l1PickInt Go.Proofs.Try.f62.ntmps := .of h_spec_l1PickInt hm Go.Proofs.Try.func62
def c65_1 : XC := fun _ => .region [] [xo 6 (.mv (xb false))] [0,1,2]
def c65_2 : XC := fun _ => .region [] [xo 7 (.mv (xt 0)),
 xo 8 (.mv (xt 1)),
 xo 9 (.bin .geq (xt 7) (xt 8)),
 xo 10 (.mv (xt 9)),
 ⟨(some 11), .mv (xt 0), (some (10, true)), []⟩,
 ⟨(some 12), .mv (xt 2), (some (10, true)), []⟩,
 ⟨(some 13), .bin .leq (xt 11) (xt 12), (some (10, true)), []⟩,
 xo 14 (.pick (xt 10) (xt 13) (xb false)),
 xo 6 (.mv (xt 14))] [6]
def c65_3 : XC := fun _ => .seq c65_2 (fun _ => .ret)
def c65_4 : XC := fun _ => .seq c65_1 c65_3
def m_spec_l1In : MCode := c65_4 ()
def h_spec_l1In : Hints := [(0, [0,1,2], [], [], []), (1, [6], [], [], [])]
def r_spec_l1In : List RV := [.t 6]
abbrev n_spec_l1In : Nat := 65
theorem k_spec_l1In : Known Pr mu n_spec_l1In m_spec_l1In r_spec_l1In Go.Proofs.Try.f65.ntmps := .of h_spec_l1In hm Go.Proofs.Try.func65
def c66_1 : XC := fun _ => .region [] [xo 2 (.alloc [.int .i64 0, .int .i64 0, .slice none 0 0, .slice none 0 0])] [0,2]
def c66_2 : XC := fun _ => .region [] [xo 4 (.mv (xt 0)),
 xo 5 (.mv (xt 0)),
 xo 6 (.callp 51 [(xt 5), (xi 4)]),
 xo 7 (.bin .add (xi 1) (xt 6)),
 xo 8 (.callp 82 [(xt 4), (xt 7)]),
 xo 3 (.alloc [.int .i64 0, .int .i64 0, .slice none 0 0, .slice none 0 0]),
 xn (.sto (xt 3) (xt 8) 4)] [0,2,3]
def c66_3 : XC := fun _ => .region [] [xo 9 (.mv (xt 0)),
 xo 10 (.callp 51 [(xt 9), (xi 14)])] [0,2,3,10]
def c66_4 : XC := fun _ => .region [] [xo 12 (.bin .eql (xt 10) (xi 0)),
 xo 11 (.mv (xt 12))] [0,2,3,10,11]
def c66_5 : XC := fun _ => .region [] [xo 13 (.mv (xt 0)),
 xo 14 (.bsl 1 3 [.int .i64 0] [(0, (xi 0)), (1, (xi 20)), (2, (xi 21))]),
 xo 15 (.callp 62 [(xt 13), (xt 14)]),
 xo 16 (.fa (xt 3) 0),
 xn (.sto (xt 16) (xt 15) 1)] [2,3]
def c66_6 : XC := fun _ => .region [] [xo 18 (.bin .eql (xt 10) (xi 1)),
 xo 17 (.mv (xt 18))] [0,2,3,10,17]
def c66_7 : XC := fun _ => .region [] [xo 19 (.mv (xt 0)),
 xo 20 (.callp 51 [(xt 19), (xi 7)]),
 xo 21 (.bin .sub (xt 20) (xi 1)),
 xo 22 (.fa (xt 3) 1),
 xn (.sto (xt 22) (xt 21) 1)] [2,3]
def c66_8 : XC := fun _ => .region [] [xo 24 (.bin .eql (xt 10) (xi 2)),
 xo 23 (.mv (xt 24))] [0,2,3,10,23]
def c66_9 : XC := fun _ => .region [] [xo 25 (.mv (xt 0)),
 xo 26 (.callp 89 [(xt 25)]),
 xo 27 (.fa (xt 3) 2),
 xn (.sto (xt 27) (xt 26) 1)] [2,3]
def c66_10 : XC := fun _ => .region [] [xo 29 (.bin .eql (xt 10) (xi 3)),
 xo 28 (.mv (xt 29))] [0,2,3,28]
def c66_11 : XC := fun _ => .region [] [xo 30 (.mv (xt 0)),
 xo 31 (.callp 89 [(xt 30)]),
 xo 32 (.fa (xt 3) 3),
 xn (.sto (xt 32) (xt 31) 1)] [2,3]
def c66_12 : XC := fun _ => .cond (xt 28) c66_11 (fun _ => .skip)
def c66_13 : XC := fun _ => .seq c66_10 c66_12
def c66_14 : XC := fun _ => .cond (xt 23) c66_9 c66_13
def c66_15 : XC := fun _ => .seq c66_8 c66_14
def c66_16 : XC := fun _ => .cond (xt 17) c66_7 c66_15
def c66_17 : XC := fun _ => .seq c66_6 c66_16
def c66_18 : XC := fun _ => .cond (xt 11) c66_5 c66_17
def c66_19 : XC := fun _ => .seq c66_4 c66_18
def c66_20 : XC := fun _ => .block 0 c66_19
def c66_21 : XC := fun _ => .seq c66_3 c66_20
def c66_22 : XC := fun _ => .region [] [xo 33 (.ld (xt 3) 4 true),
 xn (.sto (xt 2) (xt 33) 4)] [2]
def c66_23 : XC := fun _ => .seq c66_22 (fun _ => .ret)
def c66_24 : XC := fun _ => .seq c66_21 c66_23
def c66_25 : XC := fun _ => .seq c66_2 c66_24
def c66_26 : XC := fun _ => .seq c66_1 c66_25
def m_spec_l8Any : MCode := c66_26 ()
def h_spec_l8Any : Hints := [(0, [0,2], [], [], []), (1, [0,2,3], [], [], []), (2, [0,2,3,10], [], [], []), (3, [0,2,3,10,11], [], [], []), (4, [2,3], [], [], []), (5, [0,2,3,10,17], [], [], []), (6, [2,3], [], [], []), (7, [0,2,3,10,23], [], [], []), (8, [2,3], [], [], []), (9, [0,2,3,28], [], [], []), (10, [2,3], [], [], []), (11, [2], [], [], [])]
def r_spec_l8Any : List RV := [.c 2 4 true]
abbrev n_spec_l8Any : Nat := 66
theorem k_spec_l8Any : Known Pr mu n_spec_l8Any m_spec_l8Any r_spec_l8Any Go.Proofs.Try.f66.ntmps := .of h_spec_l8Any hm Go.Proofs.Try.func66
def c67_1 : XC := fun _ => .region [] [xo 1 (.box (xt 0)),
 xo 2 (.alloc [.int .i64 0, .int .i64 0, .slice none 0 0, .slice none 0 0])] [1,2]
def c67_2 : XC := fun _ => .region [] [xo 3 (.fa (xt 1) 0),
 xo 4 (.ld (xt 3) 1 false),
 ⟨(some 5), .fa (xt 1) 1, none, [0, 1]⟩,
 ⟨(some 6), .ld (xt 5) 1 false, none, [0, 1]⟩,
 xo 7 (.bsl 1 0 [.int .i64 0] []),
 ⟨(some 8), .fa (xt 1) 2, none, [0, 1, 2, 3, 4]⟩,
 ⟨(some 9), .ld (xt 8) 1 false, none, [0, 1, 2, 3, 4]⟩,
 ⟨(some 10), .appn (xt 7) (xt 9) 1 8, none, [1000000, 0, 1, 2, 3]⟩,
 xo 11 (.bsl 1 0 [.int .i64 0] []),
 ⟨(some 12), .fa (xt 1) 3, none, [0, 1, 2, 3, 4, 5, 6, 7, 8]⟩,
 ⟨(some 13), .ld (xt 12) 1 false, none, [0, 1, 2, 3, 4, 5, 6, 7, 8]⟩,
 ⟨(some 14), .appn (xt 11) (xt 13) 1 8, none, [1000000, 0, 1, 2, 3]⟩,
 xo 15 (.bld [.int .i64 0, .int .i64 0, .slice none 0 0, .slice none 0 0] [(0, 1, (xt 4)), (1, 1, (xt 6)), (2, 1, (xt 10)), (3, 1, (xt 14))]),
 xn (.sto (xt 2) (xt 15) 4)] [2]
def c67_3 : XC := fun _ => .seq c67_2 (fun _ => .ret)
def c67_4 : XC := fun _ => .seq c67_1 c67_3
def m_spec_l8Copy : MCode := c67_4 ()
def h_spec_l8Copy : Hints := [(0, [1,2], [], [], []), (1, [2], [[],[],[0,1],[0,1],[],[0,1,2,3,4],[0,1,2,3,4],[1000000,0,1,2,3],[],[0,1,2,3,4,5,6,7,8],[0,1,2,3,4,5,6,7,8],[1000000,0,1,2,3]], [], [])]
def r_spec_l8Copy : List RV := [.c 2 4 true]
abbrev n_spec_l8Copy : Nat := 67
theorem k_spec_l8Copy : Known Pr mu n_spec_l8Copy m_spec_l8Copy r_spec_l8Copy Go.Proofs.Try.f67.ntmps := .of h_spec_l8Copy hm Go.Proofs.Try.func67
def c70_1 : XC := fun _ => .region [] [xo 4 (.mv (xb false))] [0,1]
def c70_2 : XC := fun _ => .region [] [xo 5 (.mv (xi 0))] [0,1,5]
def c70_3 : XC := fun _ => .region [] [xo 6 (.mv (xt 5)),
 xo 7 (.mv (xt 0)),
 xo 8 (.len false (xt 7)),
 xo 9 (.bin .lss (xt 6) (xt 8))] [0,1,5,9]
def c70_4 : XC := fun _ => .cond (xt 9) (fun _ => .skip) (fun _ => .exit 0)
def c70_5 : XC := fun _ => .seq c70_3 c70_4
def c70_6 : XC := fun _ => .region [] [xo 12 (.mv (xt 0)),
 xo 13 (.mv (xt 5)),
 xo 14 (.ia (xt 12) (xt 13) 1),
 xo 15 (.ld (xt 14) 1 false),
 xo 16 (.mv (xt 1)),
 xo 17 (.bin .eql (xt 15) (xt 16))] [0,1,5,17]
def c70_7 : XC := fun _ => .region [] [xo 4 (.mv (xb true))] [4]
def c70_8 : XC := fun _ => .seq c70_7 (fun _ => .ret)
def c70_9 : XC := fun _ => .cond (xt 17) c70_8 (fun _ => .skip)
def c70_10 : XC := fun _ => .seq c70_6 c70_9
def c70_11 : XC := fun _ => .block 1 c70_10
def c70_12 : XC := fun _ => .region [] [xo 10 (.mv (xt 5)),
 xo 11 (.bin .add (xt 10) (xi 1)),
 xo 5 (.mv (xt 11))] [0,1,5]
def c70_13 : XC := fun _ => .seq c70_11 c70_12
def c70_14 : XC := fun _ => .seq c70_5 c70_13
def c70_15 : XC := fun _ => .loop c70_14
def c70_16 : XC := fun _ => .block 0 c70_15
def c70_17 : XC := fun _ => .seq c70_2 c70_16
def c70_18 : XC := fun _ => .region [] [xo 4 (.mv (xb false))] [4]
def c70_19 : XC := fun _ => .seq c70_18 (fun _ => .ret)
def c70_20 : XC := fun _ => .seq c70_17 c70_19
def c70_21 : XC := fun _ => .seq c70_1 c70_20
def m_spec_HasServer : MCode := c70_21 ()
def h_spec_HasServer : Hints := [(0, [0,1], [], [], []), (1, [0,1,5], [], [], []), (2, [0,1,5,9], [], [], []), (4, [0,1,5,17], [], [], []), (5, [4], [], [], []), (3, [0,1,5], [], [], []), (6, [4], [], [], [])]
def r_spec_HasServer : List RV := [.t 4]
abbrev n_spec_HasServer : Nat := 70
theorem k_spec_HasServer : Known Pr mu n_spec_HasServer m_spec_HasServer r_spec_HasServer Go.Proofs.Try.f70.ntmps := .of h_spec_HasServer hm Go.Proofs.Try.func70
def c72_1 : XC := fun _ => .region [] [xo 2 (.mv (xb false))] [0]
def c72_2 : XC := fun _ => .region [] [xo 5 (.mv (xt 0)),
 xo 6 (.len false (xt 5)),
 xo 7 (.mv (xi 0))] [0,5,6,7]
def c72_3 : XC := fun _ => .region [] [xo 8 (.bin .lss (xt 7) (xt 6))] [0,5,6,7,8]
def c72_4 : XC := fun _ => .cond (xt 8) (fun _ => .skip) (fun _ => .exit 0)
def c72_5 : XC := fun _ => .region [] [xo 9 (.mv (xt 7)),
 xo 10 (.ia (xt 5) (xt 7) 1),
 xo 11 (.ld (xt 10) 1 false),
 xo 3 (.mv (xt 9)),
 xo 4 (.mv (xt 11))] [0,3,4,5,6,7]
def c72_6 : XC := fun _ => .region [] [xo 12 (.mv (xt 4)),
 xo 13 (.call 55 [(xt 12), (xi 0), (xi 4)]),
 xo 14 (.not (xt 13)),
 xo 15 (.mv (xt 14)),
 ⟨(some 16), .mv (xt 3), (some (15, false)), []⟩,
 ⟨(some 17), .bin .gtr (xt 16) (xi 0), (some (15, false)), []⟩,
 ⟨(some 18), .mv (xt 17), (some (15, false)), []⟩,
 ⟨(some 19), .mv (xt 4), (some (18, true)), []⟩,
 ⟨(some 20), .mv (xt 0), (some (18, true)), []⟩,
 ⟨(some 21), .mv (xt 3), (some (18, true)), []⟩,
 ⟨(some 22), .bin .sub (xt 21) (xi 1), (some (18, true)), []⟩,
 ⟨(some 23), .ia (xt 20) (xt 22) 1, (some (18, true)), []⟩,
 ⟨(some 24), .ld (xt 23) 1 false, (some (18, true)), []⟩,
 ⟨(some 25), .bin .leq (xt 19) (xt 24), (some (18, true)), []⟩,
 ⟨(some 26), .pick (xt 18) (xt 25) (xb false), (some (15, false)), []⟩,
 xo 27 (.pick (xt 15) (xb true) (xt 26))] [0,5,6,7,27]
def c72_7 : XC := fun _ => .region [] [xo 2 (.mv (xb false))] [2]
def c72_8 : XC := fun _ => .seq c72_7 (fun _ => .ret)
def c72_9 : XC := fun _ => .cond (xt 27) c72_8 (fun _ => .skip)
def c72_10 : XC := fun _ => .seq c72_6 c72_9
def c72_11 : XC := fun _ => .seq c72_5 c72_10
def c72_12 : XC := fun _ => .block 1 c72_11
def c72_13 : XC := fun _ => .region [] [xo 28 (.bin .add (xt 7) (xi 1)),
 xo 7 (.mv (xt 28))] [0,5,6,7]
def c72_14 : XC := fun _ => .seq c72_12 c72_13
def c72_15 : XC := fun _ => .seq c72_4 c72_14
def c72_16 : XC := fun _ => .seq c72_3 c72_15
def c72_17 : XC := fun _ => .loop c72_16
def c72_18 : XC := fun _ => .block 0 c72_17
def c72_19 : XC := fun _ => .seq c72_2 c72_18
def c72_20 : XC := fun _ => .region [] [xo 2 (.mv (xb true))] [2]
def c72_21 : XC := fun _ => .seq c72_20 (fun _ => .ret)
def c72_22 : XC := fun _ => .seq c72_19 c72_21
def c72_23 : XC := fun _ => .seq c72_1 c72_22
def m_impl_AreServers : MCode := c72_23 ()
def h_impl_AreServers : Hints := [(0, [0], [], [], []), (1, [0,5,6,7], [], [], []), (2, [0,5,6,7,8], [], [], []), (3, [0,3,4,5,6,7], [], [], []), (4, [0,5,6,7,27], [], [], []), (5, [2], [], [], []), (6, [0,5,6,7], [], [], []), (7, [2], [], [], [])]
def r_impl_AreServers : List RV := [.t 2]
abbrev n_impl_AreServers : Nat := 72
theorem k_impl_AreServers : Known Pr mu n_impl_AreServers m_impl_AreServers r_impl_AreServers Go.Proofs.Try.f72.ntmps := .of h_impl_AreServers hm Go.Proofs.Try.func72
def c73_1 : XC := fun _ => .region [] [xo 4 (.mv (.const (.slice none 0 0)))] [0,1]
def c73_2 : XC := fun _ => .region [] [xo 5 (.mv (xt 0)),
 xo 6 (.mv (xt 0)),
 xo 7 (.mv (xt 1)),
 xo 8 (.call 94 [(xt 6), (xt 7)]),
 xo 9 (.call 94 [(xt 5), (xt 8)]),
 xo 4 (.mv (xt 9))] [4]
def c73_3 : XC := fun _ => .seq c73_2 (fun _ => .ret)
def c73_4 : XC := fun _ => .seq c73_1 c73_3
def m_impl_CommonServers : MCode := c73_4 ()
def h_impl_CommonServers : Hints := [(0, [0,1], [], [], []), (1, [4], [], [], [])]
def r_impl_CommonServers : List RV := [.t 4]
abbrev n_impl_CommonServers : Nat := 73
theorem k_impl_CommonServers : Known Pr mu n_impl_CommonServers m_impl_CommonServers r_impl_CommonServers Go.Proofs.Try.f73.ntmps := .of h_impl_CommonServers hm Go.Proofs.Try.func73
def c74_1 : XC := fun _ => .region [] [xo 2 (.mv (xb false))] [0]
def c74_2 : XC := fun _ => .region [] [xo 3 (.mv (xi 0))] [0,3]
def c74_3 : XC := fun _ => .region [] [xo 4 (.mv (xt 3)),
 xo 5 (.mv (xt 0)),
 xo 6 (.len false (xt 5)),
 xo 7 (.bin .lss (xt 4) (xt 6))] [0,3,7]
def c74_4 : XC := fun _ => .cond (xt 7) (fun _ => .skip) (fun _ => .exit 0)
def c74_5 : XC := fun _ => .seq c74_3 c74_4
def c74_6 : XC := fun _ => .region [] [xo 10 (.mv (xt 0)),
 xo 11 (.mv (xt 3)),
 xo 12 (.ia (xt 10) (xt 11) 1),
 xo 13 (.ld (xt 12) 1 false),
 xo 14 (.call 65 [(xt 13), (xi 0), (xi 4)]),
 xo 15 (.not (xt 14)),
 xo 16 (.mv (xt 15)),
 ⟨(some 17), .mv (xt 3), (some (16, false)), []⟩,
 ⟨(some 18), .bin .gtr (xt 17) (xi 0), (some (16, false)), []⟩,
 ⟨(some 19), .mv (xt 18), (some (16, false)), []⟩,
 ⟨(some 20), .mv (xt 0), (some (19, true)), []⟩,
 ⟨(some 21), .mv (xt 3), (some (19, true)), []⟩,
 ⟨(some 22), .bin .sub (xt 21) (xi 1), (some (19, true)), []⟩,
 ⟨(some 23), .ia (xt 20) (xt 22) 1, (some (19, true)), []⟩,
 ⟨(some 24), .ld (xt 23) 1 false, (some (19, true)), []⟩,
 ⟨(some 25), .mv (xt 0), (some (19, true)), []⟩,
 ⟨(some 26), .mv (xt 3), (some (19, true)), []⟩,
 ⟨(some 27), .ia (xt 25) (xt 26) 1, (some (19, true)), [10, 11, 12, 13, 14]⟩,
 ⟨(some 28), .ld (xt 27) 1 false, (some (19, true)), [10, 11, 12, 13, 14]⟩,
 ⟨(some 29), .bin .geq (xt 24) (xt 28), (some (19, true)), []⟩,
 ⟨(some 30), .pick (xt 19) (xt 29) (xb false), (some (16, false)), []⟩,
 xo 31 (.pick (xt 16) (xb true) (xt 30))] [0,3,31]
def c74_7 : XC := fun _ => .region [] [xo 2 (.mv (xb false))] [2]
def c74_8 : XC := fun _ => .seq c74_7 (fun _ => .ret)
def c74_9 : XC := fun _ => .cond (xt 31) c74_8 (fun _ => .skip)
def c74_10 : XC := fun _ => .seq c74_6 c74_9
def c74_11 : XC := fun _ => .block 1 c74_10
def c74_12 : XC := fun _ => .region [] [xo 8 (.mv (xt 3)),
 xo 9 (.bin .add (xt 8) (xi 1)),
 xo 3 (.mv (xt 9))] [0,3]
def c74_13 : XC := fun _ => .seq c74_11 c74_12
def c74_14 : XC := fun _ => .seq c74_5 c74_13
def c74_15 : XC := fun _ => .loop c74_14
def c74_16 : XC := fun _ => .block 0 c74_15
def c74_17 : XC := fun _ => .seq c74_2 c74_16
def c74_18 : XC := fun _ => .region [] [xo 2 (.mv (xb true))] [2]
def c74_19 : XC := fun _ => .seq c74_18 (fun _ => .ret)
def c74_20 : XC := fun _ => .seq c74_17 c74_19
def c74_21 : XC := fun _ => .seq c74_1 c74_20
def m_spec_AreServers : MCode := c74_21 ()
def h_spec_AreServers : Hints := [(0, [0], [], [], []), (1, [0,3], [], [], []), (2, [0,3,7], [], [], []), (4, [0,3,31], [[],[],[],[],[],[],[],[],[],[],[],[],[],[],[],[],[],[10,11,12,13,14],[10,11,12,13,14]], [], []), (5, [2], [], [], []), (3, [0,3], [], [], []), (6, [2], [], [], [])]
def r_spec_AreServers : List RV := [.t 2]
abbrev n_spec_AreServers : Nat := 74
theorem k_spec_AreServers : Known Pr mu n_spec_AreServers m_spec_AreServers r_spec_AreServers Go.Proofs.Try.f74.ntmps := .of h_spec_AreServers hm Go.Proofs.Try.func74
def c75_1 : XC := fun _ => .region [] [xo 4 (.mv (.const (.slice none 0 0)))] [0,1]
def c75_2 : XC := fun _ => .region [] [xo 7 (.bsl 1 0 [.int .i64 0] []),
 xo 5 (.mv (xt 7))] [0,1,5]
def c75_3 : XC := fun _ => .region [] [xo 6 (.mv (xi 0))] [0,1,5,6]
def c75_4 : XC := fun _ => .region [] [xo 8 (.mv (xt 6)),
 xo 9 (.mv (xt 0)),
 xo 10 (.len false (xt 9)),
 xo 11 (.bin .lss (xt 8) (xt 10))] [0,1,5,6,11]
def c75_5 : XC := fun _ => .cond (xt 11) (fun _ => .skip) (fun _ => .exit 0)
def c75_6 : XC := fun _ => .seq c75_4 c75_5
def c75_7 : XC := fun _ => .region [] [xo 14 (.mv (xt 1)),
 xo 15 (.mv (xt 0)),
 xo 16 (.mv (xt 6)),
 xo 17 (.ia (xt 15) (xt 16) 1),
 xo 18 (.ld (xt 17) 1 false),
 xo 19 (.call 70 [(xt 14), (xt 18)])] [0,1,5,6,19]
def c75_8 : XC := fun _ => .region [] [xo 20 (.mv (xt 5)),
 xo 21 (.mv (xt 0)),
 xo 22 (.mv (xt 6)),
 xo 23 (.ia (xt 21) (xt 22) 1),
 xo 24 (.ld (xt 23) 1 false),
 xo 25 (.call 93 [(xt 20), (xt 24)]),
 xo 5 (.mv (xt 25))] [0,1,5,6]
def c75_9 : XC := fun _ => .cond (xt 19) c75_8 (fun _ => .skip)
def c75_10 : XC := fun _ => .seq c75_7 c75_9
def c75_11 : XC := fun _ => .block 1 c75_10
def c75_12 : XC := fun _ => .region [] [xo 12 (.mv (xt 6)),
 xo 13 (.bin .add (xt 12) (xi 1)),
 xo 6 (.mv (xt 13))] [0,1,5,6]
def c75_13 : XC := fun _ => .seq c75_11 c75_12
def c75_14 : XC := fun _ => .seq c75_6 c75_13
def c75_15 : XC := fun _ => .loop c75_14
def c75_16 : XC := fun _ => .block 0 c75_15
def c75_17 : XC := fun _ => .seq c75_3 c75_16
def c75_18 : XC := fun _ => .region [] [xo 26 (.mv (xt 5)),
 xo 4 (.mv (xt 26))] [4]
def c75_19 : XC := fun _ => .seq c75_18 (fun _ => .ret)
def c75_20 : XC := fun _ => .seq c75_17 c75_19
def c75_21 : XC := fun _ => .seq c75_2 c75_20
def c75_22 : XC := fun _ => .seq c75_1 c75_21
def m_spec_CommonServers : MCode := c75_22 ()
def h_spec_CommonServers : Hints := [(0, [0,1], [], [], []), (1, [0,1,5], [], [], []), (2, [0,1,5,6], [], [], []), (3, [0,1,5,6,11], [], [], []), (5, [0,1,5,6,19], [], [], []), (6, [0,1,5,6], [], [], []), (4, [0,1,5,6], [], [], []), (7, [4], [], [], [])]
def r_spec_CommonServers : List RV := [.t 4]
abbrev n_spec_CommonServers : Nat := 75
theorem k_spec_CommonServers : Known Pr mu n_spec_CommonServers m_spec_CommonServers r_spec_CommonServers Go.Proofs.Try.f75.ntmps := .of h_spec_CommonServers hm Go.Proofs.Try.func75
def c76_1 : XC := fun _ => .region [] [xo 2 (.alloc [.slice none 0 0, .int .i64 0])] [0,2]
def c76_2 : XC := fun _ => .region [] [xo 4 (.mv (xt 0)),
 xo 5 (.callp 95 [(xt 4)]),
 xo 3 (.alloc [.slice none 0 0, .int .i64 0]),
 xn (.sto (xt 3) (xt 5) 2)] [0,2,3]
def c76_3 : XC := fun _ => .region [] [xo 6 (.mv (xt 0)),
 xo 7 (.callp 51 [(xt 6), (xi 14)])] [0,2,3,7]
def c76_4 : XC := fun _ => .region [] [xo 9 (.bin .eql (xt 7) (xi 0)),
 xo 8 (.mv (xt 9))] [0,2,3,7,8]
def c76_5 : XC := fun _ => .region [] [xo 10 (.mv (xt 0)),
 xo 11 (.bsl 1 4 [.int .i64 0] [(0, (xi (-1))), (1, (xi 0)), (2, (xi 3)), (3, (xi 6))]),
 xo 12 (.callp 62 [(xt 10), (xt 11)]),
 xo 13 (.fa (xt 3) 1),
 xn (.sto (xt 13) (xt 12) 1)] [2,3]
def c76_6 : XC := fun _ => .region [] [xo 15 (.bin .eql (xt 7) (xi 1)),
 xo 14 (.mv (xt 15))] [0,2,3,14]
def o76_6_0 : MOper := xo 16 (.faf (xt 3) 0)
def o76_6_1 : MOper := ⟨(some 17), .ld (xt 16) 1 false, none, []⟩
def o76_6_2 : MOper := xo 18 (.mv (xt 0))
def o76_6_3 : MOper := ⟨(some 19), .callp 66 [(xt 18)], none, []⟩
def o76_6_4 : MOper := ⟨(some 20), .bsl 4 1 [.int .i64 0, .int .i64 0, .slice none 0 0, .slice none 0 0] [(0, (xt 19))], none, []⟩
def o76_6_5 : MOper := ⟨(some 21), .app (xt 17) (xt 20) 4 64, none, []⟩
def o76_6_6 : MOper := xo 22 (.faf (xt 3) 0)
def o76_6_7 : MOper := ⟨none, .sto (xt 22) (xt 21) 1, none, []⟩
def c76_7 : XC := fun _ => .regionA 8 (fun _ => .step 0 o76_6_2 (fun _ => .step 1 o76_6_0 (fun _ => .both (fun _ => .step 2 o76_6_3 (fun _ => .both (fun _ => .step 3 o76_6_4 (fun _ => .step 4 o76_6_1 (fun _ => .step 5 o76_6_5 (fun _ => .step 6 o76_6_6 (fun _ => .step 7 o76_6_7 (fun _ => .fin)))))) (fun _ => .step 3 o76_6_1 (fun _ => .step 4 o76_6_4 (fun _ => .step 5 o76_6_5 (fun _ => .step 6 o76_6_6 (fun _ => .step 7 o76_6_7 (fun _ => .fin)))))))) (fun _ => .step 2 o76_6_1 (fun _ => .step 3 o76_6_3 (fun _ => .step 4 o76_6_4 (fun _ => .step 5 o76_6_5 (fun _ => .step 6 o76_6_6 (fun _ => .step 7 o76_6_7 (fun _ => .fin)))))))))) [2,3]
def c76_8 : XC := fun _ => .cond (xt 14) c76_7 (fun _ => .skip)
def c76_9 : XC := fun _ => .seq c76_6 c76_8
def c76_10 : XC := fun _ => .cond (xt 8) c76_5 c76_9
def c76_11 : XC := fun _ => .seq c76_4 c76_10
def c76_12 : XC := fun _ => .block 0 c76_11
def c76_13 : XC := fun _ => .seq c76_3 c76_12
def c76_14 : XC := fun _ => .region [] [xo 23 (.ld (xt 3) 2 true),
 xn (.sto (xt 2) (xt 23) 2)] [2]
def c76_15 : XC := fun _ => .seq c76_14 (fun _ => .ret)
def c76_16 : XC := fun _ => .seq c76_13 c76_15
def c76_17 : XC := fun _ => .seq c76_2 c76_16
def c76_18 : XC := fun _ => .seq c76_1 c76_17
def m_spec_l12Any : MCode := c76_18 ()
def h_spec_l12Any : Hints := [(0, [0,2], [], [], []), (1, [0,2,3], [], [], []), (2, [0,2,3,7], [], [], []), (3, [0,2,3,7,8], [], [], []), (4, [2,3], [], [], []), (5, [0,2,3,14], [], [], []), (6, [2,3], [], [9999], [0,2,6]), (7, [2], [], [], [])]
def r_spec_l12Any : List RV := [.c 2 2 true]
abbrev n_spec_l12Any : Nat := 76
theorem k_spec_l12Any : Known Pr mu n_spec_l12Any m_spec_l12Any r_spec_l12Any Go.Proofs.Try.f76.ntmps := .of h_spec_l12Any hm Go.Proofs.Try.func76
def c77_1 : XC := fun _ => .region [] [xo 4 (.mv (xb false))] [0,1]
def c77_2 : XC := fun _ => .region [] [xo 5 (.mv (xt 0)),
 xo 6 (.mv (xt 1)),
 xo 7 (.callp 51 [(xt 5), (xt 6)]),
 xo 8 (.bin .eql (xt 7) (xi 0)),
 xo 4 (.mv (xt 8))] [4]
def c77_3 : XC := fun _ => .seq c77_2 (fun _ => .ret)
def c77_4 : XC := fun _ => .seq c77_1 c77_3
def m_spec_l1Once : MCode := c77_4 ()
def h_spec_l1Once : Hints := [(0, [0,1], [], [], []), (1, [4], [], [], [])]
def r_spec_l1Once : List RV := [.t 4]
abbrev n_spec_l1Once : Nat := 77
theorem k_spec_l1Once : Known Pr mu n_spec_l1Once m_spec_l1Once r_spec_l1Once Go.Proofs.Try.f77.ntmps := .of h_spec_l1Once hm Go.Proofs.Try.func77
def c78_1 : XC := fun _ => .region [] [xo 1 (.box (xt 0)),
 xo 2 (.alloc [.slice none 0 0, .int .i64 0])] [1,2]
def c78_2 : XC := fun _ => .region [] [xo 6 (.fa (xt 1) 1),
 xo 7 (.ld (xt 6) 1 false),
 xo 8 (.bld [.slice none 0 0, .int .i64 0] [(1, 1, (xt 7))]),
 xo 3 (.alloc [.slice none 0 0, .int .i64 0]),
 xn (.sto (xt 3) (xt 8) 2)] [1,2,3]
def c78_3 : XC := fun _ => .region [] [xo 9 (.fa (xt 1) 0),
 xo 10 (.ld (xt 9) 1 false),
 xo 11 (.len false (xt 10)),
 xo 12 (.mv (xi 0))] [2,3,10,11,12]
def c78_4 : XC := fun _ => .region [] [xo 13 (.bin .lss (xt 12) (xt 11))] [2,3,10,11,12,13]
def c78_5 : XC := fun _ => .cond (xt 13) (fun _ => .skip) (fun _ => .exit 0)
def c78_6 : XC := fun _ => .region [] [xo 14 (.ia (xt 10) (xt 12) 4),
 xo 15 (.ld (xt 14) 4 true),
 xo 5 (.alloc [.int .i64 0, .int .i64 0, .slice none 0 0, .slice none 0 0]),
 xn (.sto (xt 5) (xt 15) 4)] [2,3,5,10,11,12]
def c78_7 : XC := fun _ => .region [] [xo 16 (.fa (xt 3) 0),
 xo 17 (.ld (xt 16) 1 false),
 ⟨(some 18), .ld (xt 5) 4 true, none, [0, 1]⟩,
 ⟨(some 19), .call 57 [(xt 18)], none, [0, 1]⟩,
 xo 20 (.bsl 4 1 [.int .i64 0, .int .i64 0, .slice none 0 0, .slice none 0 0] [(0, (xt 19))]),
 xo 21 (.app (xt 17) (xt 20) 4 64),
 xo 22 (.fa (xt 3) 0),
 xn (.sto (xt 22) (xt 21) 1)] [2,3,10,11,12]
def c78_8 : XC := fun _ => .seq c78_6 c78_7
def c78_9 : XC := fun _ => .block 1 c78_8
def c78_10 : XC := fun _ => .region [] [xo 23 (.bin .add (xt 12) (xi 1)),
 xo 12 (.mv (xt 23))] [2,3,10,11,12]
def c78_11 : XC := fun _ => .seq c78_9 c78_10
def c78_12 : XC := fun _ => .seq c78_5 c78_11
def c78_13 : XC := fun _ => .seq c78_4 c78_12
def c78_14 : XC := fun _ => .loop c78_13
def c78_15 : XC := fun _ => .block 0 c78_14
def c78_16 : XC := fun _ => .seq c78_3 c78_15
def c78_17 : XC := fun _ => .region [] [xo 24 (.ld (xt 3) 2 true),
 xn (.sto (xt 2) (xt 24) 2)] [2]
def c78_18 : XC := fun _ => .seq c78_17 (fun _ => .ret)
def c78_19 : XC := fun _ => .seq c78_16 c78_18
def c78_20 : XC := fun _ => .seq c78_2 c78_19
def c78_21 : XC := fun _ => .seq c78_1 c78_20
def m_impl_masterCopy : MCode := c78_21 ()
def h_impl_masterCopy : Hints := [(0, [1,2], [], [], []), (1, [1,2,3], [], [], []), (2, [2,3,10,11,12], [], [], []), (3, [2,3,10,11,12,13], [], [], []), (4, [2,3,5,10,11,12], [], [], []), (5, [2,3,10,11,12], [[],[],[0,1],[0,1]], [], []), (6, [2,3,10,11,12], [], [], []), (7, [2], [], [], [])]
def r_impl_masterCopy : List RV := [.c 2 2 true]
abbrev n_impl_masterCopy : Nat := 78
theorem k_impl_masterCopy : Known Pr mu n_impl_masterCopy m_impl_masterCopy r_impl_masterCopy Go.Proofs.Try.f78.ntmps := .of h_impl_masterCopy hm Go.Proofs.Try.func78
def c79_1 : XC := fun _ => .region [] [xo 1 (.box (xt 0)),
 xo 2 (.alloc [.slice none 0 0, .int .i64 0])] [1,2]
def c79_2 : XC := fun _ => .region [] [xo 6 (.fa (xt 1) 1),
 xo 7 (.ld (xt 6) 1 false),
 xo 8 (.bld [.slice none 0 0, .int .i64 0] [(1, 1, (xt 7))]),
 xo 3 (.alloc [.slice none 0 0, .int .i64 0]),
 xn (.sto (xt 3) (xt 8) 2)] [1,2,3]
def c79_3 : XC := fun _ => .region [] [xo 4 (.mv (xi 0))] [1,2,3,4]
def c79_4 : XC := fun _ => .region [] [xo 9 (.mv (xt 4)),
 xo 10 (.fa (xt 1) 0),
 xo 11 (.ld (xt 10) 1 false),
 xo 12 (.len false (xt 11)),
 xo 13 (.bin .lss (xt 9) (xt 12))] [1,2,3,4,13]
def c79_5 : XC := fun _ => .cond (xt 13) (fun _ => .skip) (fun _ => .exit 0)
def c79_6 : XC := fun _ => .seq c79_4 c79_5
def c79_7 : XC := fun _ => .region [] [xo 16 (.fa (xt 1) 0),
 xo 17 (.ld (xt 16) 1 false),
 xo 18 (.mv (xt 4)),
 xo 19 (.ia (xt 17) (xt 18) 4),
 xo 20 (.ld (xt 19) 4 true),
 xo 21 (.call 67 [(xt 20)]),
 xo 5 (.alloc [.int .i64 0, .int .i64 0, .slice none 0 0, .slice none 0 0]),
 xn (.sto (xt 5) (xt 21) 4)] [1,2,3,4,5]
def c79_8 : XC := fun _ => .region [] [xo 22 (.fa (xt 3) 0),
 xo 23 (.ld (xt 22) 1 false),
 xo 24 (.ld (xt 5) 4 true),
 xo 25 (.bsl 4 1 [.int .i64 0, .int .i64 0, .slice none 0 0, .slice none 0 0] [(0, (xt 24))]),
 xo 26 (.app (xt 23) (xt 25) 4 64),
 xo 27 (.fa (xt 3) 0),
 xn (.sto (xt 27) (xt 26) 1)] [1,2,3,4]
def c79_9 : XC := fun _ => .seq c79_7 c79_8
def c79_10 : XC := fun _ => .block 1 c79_9
def c79_11 : XC := fun _ => .region [] [xo 14 (.mv (xt 4)),
 xo 15 (.bin .add (xt 14) (xi 1)),
 xo 4 (.mv (xt 15))] [1,2,3,4]
def c79_12 : XC := fun _ => .seq c79_10 c79_11
def c79_13 : XC := fun _ => .seq c79_6 c79_12
def c79_14 : XC := fun _ => .loop c79_13
def c79_15 : XC := fun _ => .block 0 c79_14
def c79_16 : XC := fun _ => .seq c79_3 c79_15
def c79_17 : XC := fun _ => .region [] [xo 28 (.ld (xt 3) 2 true),
 xn (.sto (xt 2) (xt 28) 2)] [2]
def c79_18 : XC := fun _ => .seq c79_17 (fun _ => .ret)
def c79_19 : XC := fun _ => .seq c79_16 c79_18
def c79_20 : XC := fun _ => .seq c79_2 c79_19
def c79_21 : XC := fun _ => .seq c79_1 c79_20
def m_spec_l12Copy : MCode := c79_21 ()
def h_spec_l12Copy : Hints := [(0, [1,2], [], [], []), (1, [1,2,3], [], [], []), (2, [1,2,3,4], [], [], []), (3, [1,2,3,4,13], [], [], []), (5, [1,2,3,4,5], [], [], []), (6, [1,2,3,4], [], [], []), (4, [1,2,3,4], [], [], []), (7, [2], [], [], [])]
def r_spec_l12Copy : List RV := [.c 2 2 true]
abbrev n_spec_l12Copy : Nat := 79
theorem k_spec_l12Copy : Known Pr mu n_spec_l12Copy m_spec_l12Copy r_spec_l12Copy Go.Proofs.Try.f79.ntmps := .of h_spec_l12Copy hm Go.Proofs.Try.func79
def c80_1 : XC := fun _ => .region [] [xo 6 (.mv (xb false))] [0,1,2]
def c80_2 : XC := fun _ => .region [] [xo 10 (.mv (xt 0)),
 xo 11 (.len false (xt 10)),
 xo 12 (.mv (xt 1)),
 xo 13 (.len false (xt 12)),
 xo 14 (.bin .neq (xt 11) (xt 13))] [0,1,2,14]
def c80_3 : XC := fun _ => .region [] [xo 6 (.mv (xb false))] [6]
def c80_4 : XC := fun _ => .seq c80_3 (fun _ => .ret)
def c80_5 : XC := fun _ => .cond (xt 14) c80_4 (fun _ => .skip)
def c80_6 : XC := fun _ => .seq c80_2 c80_5
def c80_7 : XC := fun _ => .region [] [xo 15 (.mv (xt 0)),
 xo 16 (.len false (xt 15)),
 xo 17 (.mv (xi 0))] [1,2,15,16,17]
def c80_8 : XC := fun _ => .region [] [xo 18 (.bin .lss (xt 17) (xt 16))] [1,2,15,16,17,18]
def c80_9 : XC := fun _ => .cond (xt 18) (fun _ => .skip) (fun _ => .exit 0)
def c80_10 : XC := fun _ => .region [] [xo 19 (.mv (xt 17)),
 xo 20 (.ia (xt 15) (xt 17) 4),
 xo 21 (.ld (xt 20) 4 true),
 xo 8 (.alloc [.int .i64 0, .int .i64 0, .slice none 0 0, .slice none 0 0]),
 xo 7 (.mv (xt 19)),
 xn (.sto (xt 8) (xt 21) 4)] [1,2,7,8,15,16,17]
def c80_11 : XC := fun _ => .region [] [xo 22 (.mv (xt 1)),
 xo 23 (.mv (xt 7)),
 xo 24 (.ia (xt 22) (xt 23) 4),
 xo 25 (.ld (xt 24) 4 true),
 xo 9 (.alloc [.int .i64 0, .int .i64 0, .slice none 0 0, .slice none 0 0]),
 xn (.sto (xt 9) (xt 25) 4)] [1,2,8,9,15,16,17]
def c80_12 : XC := fun _ => .region [] [xo 26 (.mv (xt 2)),
 xo 27 (.ld (xt 8) 4 true),
 xo 28 (.ld (xt 9) 4 true),
 xo 29 (.callv (xt 26) [(xt 27), (xt 28)]),
 xo 30 (.not (xt 29))] [1,2,15,16,17,30]
def c80_13 : XC := fun _ => .region [] [xo 6 (.mv (xb false))] [6]
def c80_14 : XC := fun _ => .seq c80_13 (fun _ => .ret)
def c80_15 : XC := fun _ => .cond (xt 30) c80_14 (fun _ => .skip)
def c80_16 : XC := fun _ => .seq c80_12 c80_15
def c80_17 : XC := fun _ => .seq c80_11 c80_16
def c80_18 : XC := fun _ => .seq c80_10 c80_17
def c80_19 : XC := fun _ => .block 1 c80_18
def c80_20 : XC := fun _ => .region [] [xo 31 (.bin .add (xt 17) (xi 1)),
 xo 17 (.mv (xt 31))] [1,2,15,16,17]
def c80_21 : XC := fun _ => .seq c80_19 c80_20
def c80_22 : XC := fun _ => .seq c80_9 c80_21
def c80_23 : XC := fun _ => .seq c80_8 c80_22
def c80_24 : XC := fun _ => .loop c80_23
def c80_25 : XC := fun _ => .block 0 c80_24
def c80_26 : XC := fun _ => .seq c80_7 c80_25
def c80_27 : XC := fun _ => .region [] [xo 6 (.mv (xb true))] [6]
def c80_28 : XC := fun _ => .seq c80_27 (fun _ => .ret)
def c80_29 : XC := fun _ => .seq c80_26 c80_28
def c80_30 : XC := fun _ => .seq c80_6 c80_29
def c80_31 : XC := fun _ => .seq c80_1 c80_30
def m_slices_EqualFunc_implConfigimplConfigimplConfigimplConfig : MCode := c80_31 ()
def h_slices_EqualFunc_implConfigimplConfigimplConfigimplConfig : Hints := [(0, [0,1,2], [], [], []), (1, [0,1,2,14], [], [], []), (2, [6], [], [], []), (3, [1,2,15,16,17], [], [], []), (4, [1,2,15,16,17,18], [], [], []), (5, [1,2,7,8,15,16,17], [], [], []), (6, [1,2,8,9,15,16,17], [], [], []), (7, [1,2,15,16,17,30], [], [], []), (8, [6], [], [], []), (9, [1,2,15,16,17], [], [], []), (10, [6], [], [], [])]
def r_slices_EqualFunc_implConfigimplConfigimplConfigimplConfig : List RV := [.t 6]
abbrev n_slices_EqualFunc_implConfigimplConfigimplConfigimplConfig : Nat := 80
theorem k_slices_EqualFunc_implConfigimplConfigimplConfigimplConfig : Known Pr mu n_slices_EqualFunc_implConfigimplConfigimplConfigimplConfig m_slices_EqualFunc_implConfigimplConfigimplConfigimplConfig r_slices_EqualFunc_implConfigimplConfigimplConfigimplConfig Go.Proofs.Try.f80.ntmps := .of h_slices_EqualFunc_implConfigimplConfigimplConfigimplConfig hm Go.Proofs.Try.func80
def c82_1 : XC := fun _ => .region [] [xo 4 (.alloc [.int .i64 0, .int .i64 0, .slice none 0 0, .slice none 0 0])] [0,1,4]
def c82_2 : XC := fun _ => .region [] [xo 7 (.mv (xt 1)),
 xo 8 (.mv (xt 0)),
 xo 9 (.callp 51 [(xt 8), (xi 5)]),
 xo 10 (.bld [.int .i64 0, .int .i64 0, .slice none 0 0, .slice none 0 0] [(0, 1, (xt 7)), (1, 1, (xt 9))]),
 xo 5 (.alloc [.int .i64 0, .int .i64 0, .slice none 0 0, .slice none 0 0]),
 xn (.sto (xt 5) (xt 10) 4)] [0,4,5]
def o82_2_0 : MOper := xo 11 (.mv (xt 0))
def o82_2_1 : MOper := ⟨(some 12), .callp 96 [(xt 11)], none, []⟩
def o82_2_2 : MOper := xo 13 (.faf (xt 5) 1)
def o82_2_3 : MOper := ⟨(some 14), .ld (xt 13) 1 false, none, []⟩
def o82_2_4 : MOper := ⟨(some 15), .call 93 [(xt 12), (xt 14)], none, []⟩
def o82_2_5 : MOper := xo 16 (.faf (xt 5) 2)
def o82_2_6 : MOper := ⟨none, .sto (xt 16) (xt 15) 1, none, []⟩
def c82_3 : XC := fun _ => .regionA 7 (fun _ => .step 0 o82_2_2 (fun _ => .step 1 o82_2_0 (fun _ => .both (fun _ => .step 2 o82_2_3 (fun _ => .step 3 o82_2_1 (fun _ => .step 4 o82_2_4 (fun _ => .step 5 o82_2_5 (fun _ => .step 6 o82_2_6 (fun _ => .fin)))))) (fun _ => .step 2 o82_2_1 (fun _ => .step 3 o82_2_3 (fun _ => .step 4 o82_2_4 (fun _ => .step 5 o82_2_5 (fun _ => .step 6 o82_2_6 (fun _ => .fin))))))))) [0,4,5]
def c82_4 : XC := fun _ => .region [] [xo 17 (.fa (xt 5) 2),
 xo 18 (.ld (xt 17) 1 false),
 xo 19 (.len false (xt 18)),
 xo 20 (.bin .gtr (xt 19) (xi 3))] [0,4,5,20]
def c82_5 : XC := fun _ => .region [] [xo 21 (.fa (xt 5) 1),
 xo 22 (.ld (xt 21) 1 false),
 xo 23 (.bsl 1 1 [.int .i64 0] [(0, (xt 22))]),
 xo 24 (.fa (xt 5) 2),
 xn (.sto (xt 24) (xt 23) 1)] [0,4,5]
def c82_6 : XC := fun _ => .cond (xt 20) c82_5 (fun _ => .skip)
def c82_7 : XC := fun _ => .seq c82_4 c82_6
def c82_8 : XC := fun _ => .region [] [xo 25 (.mv (xt 0)),
 xo 26 (.callp 77 [(xt 25), (xi 2)])] [0,4,5,26]
def o82_6_0 : MOper := xo 27 (.mv (xt 0))
def o82_6_1 : MOper := ⟨(some 28), .callp 96 [(xt 27)], none, []⟩
def o82_6_2 : MOper := xo 29 (.faf (xt 5) 2)
def o82_6_3 : MOper := ⟨(some 30), .ld (xt 29) 1 false, none, []⟩
def o82_6_4 : MOper := ⟨(some 31), .call 97 [(xt 28), (xt 30)], none, []⟩
def o82_6_5 : MOper := ⟨(some 6), .mv (xt 31), none, []⟩
def c82_9 : XC := fun _ => .regionA 6 (fun _ => .step 0 o82_6_2 (fun _ => .step 1 o82_6_0 (fun _ => .both (fun _ => .step 2 o82_6_3 (fun _ => .step 3 o82_6_1 (fun _ => .step 4 o82_6_4 (fun _ => .step 5 o82_6_5 (fun _ => .fin))))) (fun _ => .step 2 o82_6_1 (fun _ => .step 3 o82_6_3 (fun _ => .step 4 o82_6_4 (fun _ => .step 5 o82_6_5 (fun _ => .fin)))))))) [4,5,6]
def c82_10 : XC := fun _ => .region [] [xo 32 (.mv (xt 6)),
 xo 33 (.len false (xt 32)),
 xo 34 (.bin .gtr (xt 33) (xi 0))] [4,5,6,34]
def c82_11 : XC := fun _ => .region [] [xo 35 (.mv (xt 6)),
 xo 36 (.slc false (xt 35) none (some (xi 1)) none 1),
 xo 37 (.fa (xt 5) 3),
 xn (.sto (xt 37) (xt 36) 1)] [4,5]
def c82_12 : XC := fun _ => .cond (xt 34) c82_11 (fun _ => .skip)
def c82_13 : XC := fun _ => .seq c82_10 c82_12
def c82_14 : XC := fun _ => .seq c82_9 c82_13
def c82_15 : XC := fun _ => .cond (xt 26) c82_14 (fun _ => .skip)
def c82_16 : XC := fun _ => .seq c82_8 c82_15
def c82_17 : XC := fun _ => .region [] [xo 38 (.ld (xt 5) 4 true),
 xn (.sto (xt 4) (xt 38) 4)] [4]
def c82_18 : XC := fun _ => .seq c82_17 (fun _ => .ret)
def c82_19 : XC := fun _ => .seq c82_16 c82_18
def c82_20 : XC := fun _ => .seq c82_7 c82_19
def c82_21 : XC := fun _ => .seq c82_3 c82_20
def c82_22 : XC := fun _ => .seq c82_2 c82_21
def c82_23 : XC := fun _ => .seq c82_1 c82_22
def m_spec_l8Config : MCode := c82_23 ()
def h_spec_l8Config : Hints := [(0, [0,1,4], [], [], []), (1, [0,4,5], [], [], []), (2, [0,4,5], [], [9999], [0,2,5]), (3, [0,4,5,20], [], [], []), (4, [0,4,5], [], [], []), (5, [0,4,5,26], [], [], []), (6, [4,5,6], [], [9999], [0,2]), (7, [4,5,6,34], [], [], []), (8, [4,5], [], [], []), (9, [4], [], [], [])]
def r_spec_l8Config : List RV := [.c 4 4 true]
abbrev n_spec_l8Config : Nat := 82
theorem k_spec_l8Config : Known Pr mu n_spec_l8Config m_spec_l8Config r_spec_l8Config Go.Proofs.Try.f82.ntmps := .of h_spec_l8Config hm Go.Proofs.Try.func82
def c83_1 : XC := fun _ => .region [] [xo 2 (.mv (xi 0))] [0]
def c83_2 : XC := fun _ => .region [] [xo 4 (.mv (xt 0)),
 xo 5 (.mv (xt 0)),
 xo 6 (.nck (xt 5)),
 xo 7 (.fa (xt 6) 2),
 xo 8 (.ld (xt 7) 1 false),
 xo 9 (.bin .mul (xt 8) (xi 6364136223846793005)),
 xo 10 (.bin .add (xt 9) (xi 1442695040888963407)),
 xo 11 (.nck (xt 4)),
 xo 12 (.fa (xt 11) 2),
 xn (.sto (xt 12) (xt 10) 1)] [0]
def c83_3 : XC := fun _ => .region [] [xo 13 (.mv (xt 0)),
 xo 14 (.nck (xt 13)),
 xo 15 (.fa (xt 14) 2),
 xo 16 (.ld (xt 15) 1 false),
 xo 17 (.bit .shr (xt 16) (.const (.int .u64 33))),
 xo 18 (.mv (xt 0)),
 xo 19 (.nck (xt 18)),
 ⟨(some 20), .fa (xt 19) 2, none, [0, 1, 2, 3, 4]⟩,
 ⟨(some 21), .ld (xt 20) 1 false, none, [0, 1, 2, 3, 4]⟩,
 xo 22 (.bit .shr (xt 21) (.const (.int .u64 45))),
 xo 23 (.bit .xor (xt 17) (xt 22)),
 xo 24 (.bit .and (xt 23) (xi 255)),
 xo 3 (.mv (xt 24))] [0,3]
def c83_4 : XC := fun _ => .region [] [xo 25 (.mv (xt 0)),
 xo 26 (.nck (xt 25)),
 xo 27 (.fa (xt 26) 1),
 xo 28 (.ld (xt 27) 1 false),
 xo 29 (.mv (xt 0)),
 xo 30 (.nck (xt 29)),
 ⟨(some 31), .fa (xt 30) 0, none, [0, 1, 2, 3]⟩,
 ⟨(some 32), .ld (xt 31) 1 false, none, [0, 1, 2, 3]⟩,
 xo 33 (.len false (xt 32)),
 xo 34 (.bin .lss (xt 28) (xt 33))] [0,3,34]
def c83_5 : XC := fun _ => .region [] [xo 35 (.mv (xt 3)),
 xo 36 (.mv (xt 0)),
 xo 37 (.nck (xt 36)),
 ⟨(some 38), .fa (xt 37) 0, none, [0]⟩,
 ⟨(some 39), .ld (xt 38) 1 false, none, [0]⟩,
 xo 40 (.mv (xt 0)),
 xo 41 (.nck (xt 40)),
 ⟨(some 42), .fa (xt 41) 1, none, [0, 1, 2, 3, 4]⟩,
 ⟨(some 43), .ld (xt 42) 1 false, none, [0, 1, 2, 3, 4]⟩,
 ⟨(some 44), .ia (xt 39) (xt 43) 1, none, [0]⟩,
 ⟨(some 45), .ld (xt 44) 1 false, none, [0]⟩,
 xo 46 (.conv .i64 (xt 45)),
 xo 47 (.bin .add (xt 35) (xt 46)),
 xo 48 (.bit .and (xt 47) (xi 255)),
 xo 3 (.mv (xt 48))] [0,3]
def c83_6 : XC := fun _ => .region [] [xo 49 (.mv (xt 0)),
 xo 50 (.mv (xt 0)),
 xo 51 (.nck (xt 50)),
 xo 52 (.fa (xt 51) 1),
 xo 53 (.ld (xt 52) 1 false),
 xo 54 (.bin .add (xt 53) (xi 1)),
 xo 55 (.nck (xt 49)),
 xo 56 (.fa (xt 55) 1),
 xn (.sto (xt 56) (xt 54) 1)] [3]
def c83_7 : XC := fun _ => .seq c83_5 c83_6
def c83_8 : XC := fun _ => .cond (xt 34) c83_7 (fun _ => .skip)
def c83_9 : XC := fun _ => .seq c83_4 c83_8
def c83_10 : XC := fun _ => .region [] [xo 57 (.mv (xt 3)),
 xo 2 (.mv (xt 57))] [2]
def c83_11 : XC := fun _ => .seq c83_10 (fun _ => .ret)
def c83_12 : XC := fun _ => .seq c83_9 c83_11
def c83_13 : XC := fun _ => .seq c83_3 c83_12
def c83_14 : XC := fun _ => .seq c83_2 c83_13
def c83_15 : XC := fun _ => .seq c83_1 c83_14
def m_spec_l1Byte : MCode := c83_15 ()
def h_spec_l1Byte : Hints := [(0, [0], [], [], []), (1, [0], [], [], []), (2, [0,3], [[],[],[],[],[],[],[],[0,1,2,3,4],[0,1,2,3,4]], [], []), (3, [0,3,34], [[],[],[],[],[],[],[0,1,2,3],[0,1,2,3]], [], []), (4, [0,3], [[],[],[],[0],[0],[],[],[0,1,2,3,4],[0,1,2,3,4],[0],[0]], [], []), (5, [3], [], [], []), (6, [2], [], [], [])]
def r_spec_l1Byte : List RV := [.t 2]
abbrev n_spec_l1Byte : Nat := 83
theorem k_spec_l1Byte : Known Pr mu n_spec_l1Byte m_spec_l1Byte r_spec_l1Byte Go.Proofs.Try.f83.ntmps := .of h_spec_l1Byte hm Go.Proofs.Try.func83
def c86_1 : XC := fun _ => .region [] [xo 4 (.mv (xb false))] [0,1]
def c86_2 : XC := fun _ => .region [] [xo 5 (.mv (xt 0)),
 xo 6 (.mv (xt 1)),
 xo 7 (.call 98 [(xt 5), (xt 6)]),
 xo 8 (.bin .geq (xt 7) (xi 0)),
 xo 4 (.mv (xt 8))] [4]
def c86_3 : XC := fun _ => .seq c86_2 (fun _ => .ret)
def c86_4 : XC := fun _ => .seq c86_1 c86_3
def m_slices_Contains_intint : MCode := c86_4 ()
def h_slices_Contains_intint : Hints := [(0, [0,1], [], [], []), (1, [4], [], [], [])]
def r_slices_Contains_intint : List RV := [.t 4]
abbrev n_slices_Contains_intint : Nat := 86
theorem k_slices_Contains_intint : Known Pr mu n_slices_Contains_intint m_slices_Contains_intint r_slices_Contains_intint Go.Proofs.Try.f86.ntmps := .of h_slices_Contains_intint hm Go.Proofs.Try.func86
def c87_1 : XC := fun _ => .region [] [xo 4 (.mv (xb false))] [0,1]
def c87_2 : XC := fun _ => .region [] [xo 6 (.mv (xt 0)),
 xo 7 (.len false (xt 6)),
 xo 8 (.mv (xt 1)),
 xo 9 (.len false (xt 8)),
 xo 10 (.bin .neq (xt 7) (xt 9))] [0,1,10]
def c87_3 : XC := fun _ => .region [] [xo 4 (.mv (xb false))] [4]
def c87_4 : XC := fun _ => .seq c87_3 (fun _ => .ret)
def c87_5 : XC := fun _ => .cond (xt 10) c87_4 (fun _ => .skip)
def c87_6 : XC := fun _ => .seq c87_2 c87_5
def c87_7 : XC := fun _ => .region [] [xo 11 (.mv (xt 0)),
 xo 12 (.len false (xt 11)),
 xo 13 (.mv (xi 0))] [0,1,12,13]
def c87_8 : XC := fun _ => .region [] [xo 14 (.bin .lss (xt 13) (xt 12))] [0,1,12,13,14]
def c87_9 : XC := fun _ => .cond (xt 14) (fun _ => .skip) (fun _ => .exit 0)
def c87_10 : XC := fun _ => .region [] [xo 15 (.mv (xt 13)),
 xo 5 (.mv (xt 15))] [0,1,5,12,13]
def c87_11 : XC := fun _ => .region [] [xo 16 (.mv (xt 0)),
 xo 17 (.mv (xt 5)),
 xo 18 (.ia (xt 16) (xt 17) 1),
 xo 19 (.ld (xt 18) 1 false),
 xo 20 (.mv (xt 1)),
 xo 21 (.mv (xt 5)),
 ⟨(some 22), .ia (xt 20) (xt 21) 1, none, [0, 1, 2, 3]⟩,
 ⟨(some 23), .ld (xt 22) 1 false, none, [0, 1, 2, 3]⟩,
 xo 24 (.bin .neq (xt 19) (xt 23))] [0,1,12,13,24]
def c87_12 : XC := fun _ => .region [] [xo 4 (.mv (xb false))] [4]
def c87_13 : XC := fun _ => .seq c87_12 (fun _ => .ret)
def c87_14 : XC := fun _ => .cond (xt 24) c87_13 (fun _ => .skip)
def c87_15 : XC := fun _ => .seq c87_11 c87_14
def c87_16 : XC := fun _ => .seq c87_10 c87_15
def c87_17 : XC := fun _ => .block 1 c87_16
def c87_18 : XC := fun _ => .region [] [xo 25 (.bin .add (xt 13) (xi 1)),
 xo 13 (.mv (xt 25))] [0,1,12,13]
def c87_19 : XC := fun _ => .seq c87_17 c87_18
def c87_20 : XC := fun _ => .seq c87_9 c87_19
def c87_21 : XC := fun _ => .seq c87_8 c87_20
def c87_22 : XC := fun _ => .loop c87_21
def c87_23 : XC := fun _ => .block 0 c87_22
def c87_24 : XC := fun _ => .seq c87_7 c87_23
def c87_25 : XC := fun _ => .region [] [xo 4 (.mv (xb true))] [4]
def c87_26 : XC := fun _ => .seq c87_25 (fun _ => .ret)
def c87_27 : XC := fun _ => .seq c87_24 c87_26
def c87_28 : XC := fun _ => .seq c87_6 c87_27
def c87_29 : XC := fun _ => .seq c87_1 c87_28
def m_slices_Equal_intint : MCode := c87_29 ()
def h_slices_Equal_intint : Hints := [(0, [0,1], [], [], []), (1, [0,1,10], [], [], []), (2, [4], [], [], []), (3, [0,1,12,13], [], [], []), (4, [0,1,12,13,14], [], [], []), (5, [0,1,5,12,13], [], [], []), (6, [0,1,12,13,24], [[],[],[],[],[],[],[0,1,2,3],[0,1,2,3]], [], []), (7, [4], [], [], []), (8, [0,1,12,13], [], [], []), (9, [4], [], [], [])]
def r_slices_Equal_intint : List RV := [.t 4]
abbrev n_slices_Equal_intint : Nat := 87
theorem k_slices_Equal_intint : Known Pr mu n_slices_Equal_intint m_slices_Equal_intint r_slices_Equal_intint Go.Proofs.Try.f87.ntmps := .of h_slices_Equal_intint hm Go.Proofs.Try.func87
def c89_1 : XC := fun _ => .region [] [xo 2 (.mv (.const (.slice none 0 0)))] [0]
def c89_2 : XC := fun _ => .region [] [xo 4 (.mv (xt 0)),
 xo 5 (.callp 96 [(xt 4)]),
 xo 3 (.mv (xt 5))] [0,3]
def c89_3 : XC := fun _ => .region [] [xo 6 (.mv (xt 0)),
 xo 7 (.callp 77 [(xt 6), (xi 8)])] [0,3,7]
def c89_4 : XC := fun _ => .region [] [xo 8 (.mv (xt 3)),
 xo 9 (.mv (xt 0)),
 xo 10 (.bsl 1 4 [.int .i64 0] [(0, (xi (-1))), (1, (xi 0)), (2, (xi 4)), (3, (xi 5))]),
 xo 11 (.callp 62 [(xt 9), (xt 10)]),
 xo 12 (.bsl 1 1 [.int .i64 0] [(0, (xt 11))]),
 xo 13 (.app (xt 8) (xt 12) 1 8),
 xo 3 (.mv (xt 13))] [3]
def c89_5 : XC := fun _ => .cond (xt 7) c89_4 (fun _ => .skip)
def c89_6 : XC := fun _ => .seq c89_3 c89_5
def c89_7 : XC := fun _ => .region [] [xo 14 (.mv (xt 3)),
 xo 2 (.mv (xt 14))] [2]
def c89_8 : XC := fun _ => .seq c89_7 (fun _ => .ret)
def c89_9 : XC := fun _ => .seq c89_6 c89_8
def c89_10 : XC := fun _ => .seq c89_2 c89_9
def c89_11 : XC := fun _ => .seq c89_1 c89_10
def m_spec_l2Any : MCode := c89_11 ()
def h_spec_l2Any : Hints := [(0, [0], [], [], []), (1, [0,3], [], [], []), (2, [0,3,7], [], [], []), (3, [3], [], [], []), (4, [2], [], [], [])]
def r_spec_l2Any : List RV := [.t 2]
abbrev n_spec_l2Any : Nat := 89
theorem k_spec_l2Any : Known Pr mu n_spec_l2Any m_spec_l2Any r_spec_l2Any Go.Proofs.Try.f89.ntmps := .of h_spec_l2Any hm Go.Proofs.Try.func89
def c91_1 : XC := fun _ => .region [] [xo 2 (.mv (.const (.slice none 0 0)))] [0]
def c91_2 : XC := fun _ => .region [] [xo 4 (.mv (xt 0)),
 xo 5 (.call 99 [(xt 4)]),
 xo 3 (.mv (xt 5))] [3]
def c91_3 : XC := fun _ => .region [] [xo 6 (.mv (xt 3)),
 xo 7 (.callm 100 [(xt 6)])] [3]
def c91_4 : XC := fun _ => .region [] [xo 8 (.mv (xt 3)),
 xo 9 (.callm 101 [(xt 8)]),
 xo 2 (.mv (xt 9))] [2]
def c91_5 : XC := fun _ => .seq c91_4 (fun _ => .ret)
def c91_6 : XC := fun _ => .seq c91_3 c91_5
def c91_7 : XC := fun _ => .seq c91_2 c91_6
def c91_8 : XC := fun _ => .seq c91_1 c91_7
def m_impl_ascending : MCode := c91_8 ()
def h_impl_ascending : Hints := [(0, [0], [], [], []), (1, [3], [], [], []), (2, [3], [], [], []), (3, [2], [], [], [])]
def r_impl_ascending : List RV := [.t 2]
abbrev n_impl_ascending : Nat := 91
theorem k_impl_ascending : Known Pr mu n_impl_ascending m_impl_ascending r_impl_ascending Go.Proofs.Try.f91.ntmps := .of h_impl_ascending hm Go.Proofs.Try.func91
def c93_1 : XC := fun _ => .region [] [xo 4 (.mv (.const (.slice none 0 0)))] [0,1]
def c93_2 : XC := fun _ => .region [] [xo 5 (.mv (xi 0))] [0,1,5]
def c93_3 : XC := fun _ => .region [] [xo 6 (.mv (xt 5)),
 xo 7 (.mv (xt 0)),
 xo 8 (.len false (xt 7)),
 xo 9 (.bin .lss (xt 6) (xt 8)),
 xo 10 (.mv (xt 9)),
 ⟨(some 11), .mv (xt 0), (some (10, true)), []⟩,
 ⟨(some 12), .mv (xt 5), (some (10, true)), []⟩,
 ⟨(some 13), .ia (xt 11) (xt 12) 1, (some (10, true)), []⟩,
 ⟨(some 14), .ld (xt 13) 1 false, (some (10, true)), []⟩,
 ⟨(some 15), .mv (xt 1), (some (10, true)), []⟩,
 ⟨(some 16), .bin .lss (xt 14) (xt 15), (some (10, true)), []⟩,
 xo 17 (.pick (xt 10) (xt 16) (xb false))] [0,1,5,17]
def c93_4 : XC := fun _ => .cond (xt 17) (fun _ => .skip) (fun _ => .exit 0)
def c93_5 : XC := fun _ => .seq c93_3 c93_4
def c93_6 : XC := fun _ => .region [] [xo 18 (.mv (xt 5)),
 xo 19 (.bin .add (xt 18) (xi 1)),
 xo 5 (.mv (xt 19))] [0,1,5]
def c93_7 : XC := fun _ => .block 1 c93_6
def c93_8 : XC := fun _ => .seq c93_5 c93_7
def c93_9 : XC := fun _ => .loop c93_8
def c93_10 : XC := fun _ => .block 0 c93_9
def c93_11 : XC := fun _ => .region [] [xo 20 (.mv (xt 5)),
 xo 21 (.mv (xt 0)),
 xo 22 (.len false (xt 21)),
 xo 23 (.bin .lss (xt 20) (xt 22)),
 xo 24 (.mv (xt 23)),
 ⟨(some 25), .mv (xt 0), (some (24, true)), []⟩,
 ⟨(some 26), .mv (xt 5), (some (24, true)), []⟩,
 ⟨(some 27), .ia (xt 25) (xt 26) 1, (some (24, true)), []⟩,
 ⟨(some 28), .ld (xt 27) 1 false, (some (24, true)), []⟩,
 ⟨(some 29), .mv (xt 1), (some (24, true)), []⟩,
 ⟨(some 30), .bin .eql (xt 28) (xt 29), (some (24, true)), []⟩,
 xo 31 (.pick (xt 24) (xt 30) (xb false))] [0,1,5,31]
def c93_12 : XC := fun _ => .region [] [xo 32 (.bsl 1 0 [.int .i64 0] []),
 xo 33 (.mv (xt 0)),
 xo 34 (.app (xt 32) (xt 33) 1 8),
 xo 4 (.mv (xt 34))] [4]
def c93_13 : XC := fun _ => .seq c93_12 (fun _ => .ret)
def c93_14 : XC := fun _ => .cond (xt 31) c93_13 (fun _ => .skip)
def c93_15 : XC := fun _ => .seq c93_11 c93_14
def c93_16 : XC := fun _ => .region [xo 43 (.mv (xt 0)), xo 44 (.mv (xt 5)), xo 45 (.slf (xt 43) (some (xt 44)) none 1)] [xo 35 (.bsl 1 0 [.int .i64 0] []),
 xo 36 (.mv (xt 0)),
 xo 37 (.mv (xt 5)),
 ⟨(some 38), .slc false (xt 36) none (some (xt 37)) none 1, none, [0]⟩,
 ⟨(some 39), .appn (xt 35) (xt 38) 1 8, none, [1000000]⟩,
 xo 40 (.mv (xt 1)),
 xo 41 (.bsl 1 1 [.int .i64 0] [(0, (xt 40))]),
 xo 42 (.app (xt 39) (xt 41) 1 8),
 ⟨(some 43), .mv (xt 43), none, []⟩,
 ⟨(some 44), .mv (xt 44), none, []⟩,
 ⟨(some 45), .mv (xt 45), none, []⟩,
 xo 46 (.app (xt 42) (xt 45) 1 8),
 xo 4 (.mv (xt 46))] [4]
def c93_17 : XC := fun _ => .seq c93_16 (fun _ => .ret)
def c93_18 : XC := fun _ => .seq c93_15 c93_17
def c93_19 : XC := fun _ => .seq c93_10 c93_18
def c93_20 : XC := fun _ => .seq c93_2 c93_19
def c93_21 : XC := fun _ => .seq c93_1 c93_20
def m_spec_l2Put : MCode := c93_21 ()
def h_spec_l2Put : Hints := [(0, [0,1], [], [], []), (1, [0,1,5], [], [], []), (2, [0,1,5,17], [], [], []), (3, [0,1,5], [], [], []), (4, [0,1,5,31], [], [], []), (5, [4], [], [], []), (6, [4], [[],[],[],[0],[1000000]], [8,9,10], [])]
def r_spec_l2Put : List RV := [.t 4]
abbrev n_spec_l2Put : Nat := 93
theorem k_spec_l2Put : Known Pr mu n_spec_l2Put m_spec_l2Put r_spec_l2Put Go.Proofs.Try.f93.ntmps := .of h_spec_l2Put hm Go.Proofs.Try.func93
def c94_1 : XC := fun _ => .region [] [xo 3 (.box (xt 1)),
 xo 4 (.mv (.const (.slice none 0 0)))] [0,3]
def c94_2 : XC := fun _ => .region [] [xo 5 (.mv (xt 0)),
 xo 6 (.call 91 [(xt 5)]),
 xo 7 (.mkf 104 [(xt 3)]),
 xo 8 (.callm 103 [(xt 6), (xt 7)]),
 xo 4 (.mv (xt 8))] [4]
def c94_3 : XC := fun _ => .seq c94_2 (fun _ => .ret)
def c94_4 : XC := fun _ => .seq c94_1 c94_3
def m_impl_WithoutServers : MCode := c94_4 ()
def h_impl_WithoutServers : Hints := [(0, [0,3], [], [], []), (1, [4], [], [], [])]
def r_impl_WithoutServers : List RV := [.t 4]
abbrev n_impl_WithoutServers : Nat := 94
theorem k_impl_WithoutServers : Known Pr mu n_impl_WithoutServers m_impl_WithoutServers r_impl_WithoutServers Go.Proofs.Try.f94.ntmps := .of h_impl_WithoutServers hm Go.Proofs.Try.func94
def c95_1 : XC := fun _ => .region [] [xo 2 (.alloc [.slice none 0 0, .int .i64 0])] [0,2]
def c95_2 : XC := fun _ => .region [] [xo 5 (.bld [.slice none 0 0, .int .i64 0] []),
 xo 3 (.alloc [.slice none 0 0, .int .i64 0]),
 xn (.sto (xt 3) (xt 5) 2)] [0,2,3]
def c95_3 : XC := fun _ => .region [] [xo 6 (.mv (xt 0)),
 xo 7 (.callp 51 [(xt 6), (xi 5)]),
 xo 4 (.mv (xt 7))] [0,2,3,4]
def c95_4 : XC := fun _ => .region [] [xo 8 (.mv (xt 4)),
 xo 9 (.bin .gtr (xt 8) (xi 0))] [0,2,3,4,9]
def c95_5 : XC := fun _ => .cond (xt 9) (fun _ => .skip) (fun _ => .exit 0)
def c95_6 : XC := fun _ => .seq c95_4 c95_5
def o95_5_0 : MOper := ⟨(some 13), .ld (xt 3) 2 true, none, []⟩
def o95_5_1 : MOper := xo 14 (.mv (xt 0))
def o95_5_2 : MOper := xo 15 (.faf (xt 3) 0)
def o95_5_3 : MOper := ⟨(some 16), .ld (xt 15) 1 false, none, []⟩
def o95_5_4 : MOper := ⟨(some 17), .len false (xt 16), none, []⟩
def o95_5_5 : MOper := xo 18 (.bin .add (xt 17) (xi 1))
def o95_5_6 : MOper := ⟨(some 19), .callp 82 [(xt 14), (xt 18)], none, []⟩
def o95_5_7 : MOper := ⟨(some 20), .call 38 [(xt 13), (xt 19)], none, []⟩
def o95_5_8 : MOper := xo 12 (.mv (xt 20))
def o95_5_9 : MOper := xo 21 (.ext (xt 12) 0)
def o95_5_10 : MOper := xo 22 (.ext (xt 12) 1)
def o95_5_11 : MOper := ⟨none, .sto (xt 3) (xt 21) 2, none, []⟩
def c95_7 : XC := fun _ => .regionA 12 (fun _ => .step 0 o95_5_2 (fun _ => .step 1 o95_5_1 (fun _ => .both (fun _ => .step 2 o95_5_3 (fun _ => .both (fun _ => .step 3 o95_5_4 (fun _ => .step 4 o95_5_5 (fun _ => .both (fun _ => .step 5 o95_5_6 (fun _ => .step 6 o95_5_0 (fun _ => .step 7 o95_5_7 (fun _ => .step 8 o95_5_8 (fun _ => .step 9 o95_5_10 (fun _ => .step 10 o95_5_9 (fun _ => .step 11 o95_5_11 (fun _ => .fin)))))))) (fun _ => .step 5 o95_5_0 (fun _ => .step 6 o95_5_6 (fun _ => .step 7 o95_5_7 (fun _ => .step 8 o95_5_8 (fun _ => .step 9 o95_5_10 (fun _ => .step 10 o95_5_9 (fun _ => .step 11 o95_5_11 (fun _ => .fin))))))))))) (fun _ => .step 3 o95_5_0 (fun _ => .step 4 o95_5_4 (fun _ => .step 5 o95_5_5 (fun _ => .step 6 o95_5_6 (fun _ => .step 7 o95_5_7 (fun _ => .step 8 o95_5_8 (fun _ => .step 9 o95_5_10 (fun _ => .step 10 o95_5_9 (fun _ => .step 11 o95_5_11 (fun _ => .fin)))))))))))) (fun _ => .step 2 o95_5_0 (fun _ => .step 3 o95_5_3 (fun _ => .step 4 o95_5_4 (fun _ => .step 5 o95_5_5 (fun _ => .step 6 o95_5_6 (fun _ => .step 7 o95_5_7 (fun _ => .step 8 o95_5_8 (fun _ => .step 9 o95_5_10 (fun _ => .step 10 o95_5_9 (fun _ => .step 11 o95_5_11 (fun _ => .fin)))))))))))))) [0,2,3,4]
def c95_8 : XC := fun _ => .region [] [xo 23 (.mv (xt 0)),
 xo 24 (.callp 77 [(xt 23), (xi 2)])] [0,2,3,4,24]
def c95_9 : XC := fun _ => .region [] [xo 26 (.ld (xt 3) 2 true),
 xo 27 (.fa (xt 3) 0),
 xo 28 (.ld (xt 27) 1 false),
 xo 29 (.len false (xt 28)),
 xo 30 (.call 44 [(xt 26), (xt 29)]),
 xo 25 (.mv (xt 30)),
 xo 31 (.ext (xt 25) 0),
 xo 32 (.ext (xt 25) 1),
 xn (.sto (xt 3) (xt 31) 2)] [0,2,3,4]
def c95_10 : XC := fun _ => .cond (xt 24) c95_9 (fun _ => .skip)
def c95_11 : XC := fun _ => .seq c95_8 c95_10
def c95_12 : XC := fun _ => .seq c95_7 c95_11
def c95_13 : XC := fun _ => .block 1 c95_12
def c95_14 : XC := fun _ => .region [] [xo 10 (.mv (xt 4)),
 xo 11 (.bin .sub (xt 10) (xi 1)),
 xo 4 (.mv (xt 11))] [0,2,3,4]
def c95_15 : XC := fun _ => .seq c95_13 c95_14
def c95_16 : XC := fun _ => .seq c95_6 c95_15
def c95_17 : XC := fun _ => .loop c95_16
def c95_18 : XC := fun _ => .block 0 c95_17
def c95_19 : XC := fun _ => .seq c95_3 c95_18
def c95_20 : XC := fun _ => .region [] [xo 33 (.ld (xt 3) 2 true),
 xn (.sto (xt 2) (xt 33) 2)] [2]
def c95_21 : XC := fun _ => .seq c95_20 (fun _ => .ret)
def c95_22 : XC := fun _ => .seq c95_19 c95_21
def c95_23 : XC := fun _ => .seq c95_2 c95_22
def c95_24 : XC := fun _ => .seq c95_1 c95_23
def m_spec_l12Log : MCode := c95_24 ()
def h_spec_l12Log : Hints := [(0, [0,2], [], [], []), (1, [0,2,3], [], [], []), (2, [0,2,3,4], [], [], []), (3, [0,2,3,4,9], [], [], []), (5, [0,2,3,4], [], [9999], [1,2,5,8,9,10]), (6, [0,2,3,4,24], [], [], []), (7, [0,2,3,4], [], [], []), (4, [0,2,3,4], [], [], []), (8, [2], [], [], [])]
def r_spec_l12Log : List RV := [.c 2 2 true]
abbrev n_spec_l12Log : Nat := 95
theorem k_spec_l12Log : Known Pr mu n_spec_l12Log m_spec_l12Log r_spec_l12Log Go.Proofs.Try.f95.ntmps := .of h_spec_l12Log hm Go.Proofs.Try.func95
def c96_1 : XC := fun _ => .region [] [xo 2 (.mv (.const (.slice none 0 0)))] [0]
def c96_2 : XC := fun _ => .region [] [xo 5 (.bsl 1 0 [.int .i64 0] []),
 xo 3 (.mv (xt 5))] [0,3]
def c96_3 : XC := fun _ => .region [] [xo 4 (.mv (xi 0))] [0,3,4]
def c96_4 : XC := fun _ => .region [] [xo 6 (.mv (xt 4)),
 xo 7 (.bin .lss (xt 6) (xi 5))] [0,3,4,7]
def c96_5 : XC := fun _ => .cond (xt 7) (fun _ => .skip) (fun _ => .exit 0)
def c96_6 : XC := fun _ => .seq c96_4 c96_5
def c96_7 : XC := fun _ => .region [] [xo 10 (.mv (xt 0)),
 xo 11 (.callp 77 [(xt 10), (xi 2)])] [0,3,4,11]
def c96_8 : XC := fun _ => .region [] [xo 12 (.mv (xt 3)),
 xo 13 (.mv (xt 4)),
 xo 14 (.bsl 1 1 [.int .i64 0] [(0, (xt 13))]),
 xo 15 (.app (xt 12) (xt 14) 1 8),
 xo 3 (.mv (xt 15))] [0,3,4]
def c96_9 : XC := fun _ => .cond (xt 11) c96_8 (fun _ => .skip)
def c96_10 : XC := fun _ => .seq c96_7 c96_9
def c96_11 : XC := fun _ => .block 1 c96_10
def c96_12 : XC := fun _ => .region [] [xo 8 (.mv (xt 4)),
 xo 9 (.bin .add (xt 8) (xi 1)),
 xo 4 (.mv (xt 9))] [0,3,4]
def c96_13 : XC := fun _ => .seq c96_11 c96_12
def c96_14 : XC := fun _ => .seq c96_6 c96_13
def c96_15 : XC := fun _ => .loop c96_14
def c96_16 : XC := fun _ => .block 0 c96_15
def c96_17 : XC := fun _ => .seq c96_3 c96_16
def c96_18 : XC := fun _ => .region [] [xo 16 (.mv (xt 3)),
 xo 2 (.mv (xt 16))] [2]
def c96_19 : XC := fun _ => .seq c96_18 (fun _ => .ret)
def c96_20 : XC := fun _ => .seq c96_17 c96_19
def c96_21 : XC := fun _ => .seq c96_2 c96_20
def c96_22 : XC := fun _ => .seq c96_1 c96_21
def m_spec_l2Some : MCode := c96_22 ()
def h_spec_l2Some : Hints := [(0, [0], [], [], []), (1, [0,3], [], [], []), (2, [0,3,4], [], [], []), (3, [0,3,4,7], [], [], []), (5, [0,3,4,11], [], [], []), (6, [0,3,4], [], [], []), (4, [0,3,4], [], [], []), (7, [2], [], [], [])]
def r_spec_l2Some : List RV := [.t 2]
abbrev n_spec_l2Some : Nat := 96
theorem k_spec_l2Some : Known Pr mu n_spec_l2Some m_spec_l2Some r_spec_l2Some Go.Proofs.Try.f96.ntmps := .of h_spec_l2Some hm Go.Proofs.Try.func96
def c97_1 : XC := fun _ => .region [] [xo 4 (.mv (.const (.slice none 0 0)))] [0,1]
def c97_2 : XC := fun _ => .region [] [xo 7 (.bsl 1 0 [.int .i64 0] []),
 xo 5 (.mv (xt 7))] [0,1,5]
def c97_3 : XC := fun _ => .region [] [xo 6 (.mv (xi 0))] [0,1,5,6]
def c97_4 : XC := fun _ => .region [] [xo 8 (.mv (xt 6)),
 xo 9 (.mv (xt 0)),
 xo 10 (.len false (xt 9)),
 xo 11 (.bin .lss (xt 8) (xt 10))] [0,1,5,6,11]
def c97_5 : XC := fun _ => .cond (xt 11) (fun _ => .skip) (fun _ => .exit 0)
def c97_6 : XC := fun _ => .seq c97_4 c97_5
def c97_7 : XC := fun _ => .region [] [xo 14 (.mv (xt 1)),
 xo 15 (.mv (xt 0)),
 xo 16 (.mv (xt 6)),
 xo 17 (.ia (xt 15) (xt 16) 1),
 xo 18 (.ld (xt 17) 1 false),
 xo 19 (.call 70 [(xt 14), (xt 18)]),
 xo 20 (.not (xt 19))] [0,1,5,6,20]
def c97_8 : XC := fun _ => .region [] [xo 21 (.mv (xt 5)),
 xo 22 (.mv (xt 0)),
 xo 23 (.mv (xt 6)),
 xo 24 (.ia (xt 22) (xt 23) 1),
 xo 25 (.ld (xt 24) 1 false),
 xo 26 (.call 93 [(xt 21), (xt 25)]),
 xo 5 (.mv (xt 26))] [0,1,5,6]
def c97_9 : XC := fun _ => .cond (xt 20) c97_8 (fun _ => .skip)
def c97_10 : XC := fun _ => .seq c97_7 c97_9
def c97_11 : XC := fun _ => .block 1 c97_10
def c97_12 : XC := fun _ => .region [] [xo 12 (.mv (xt 6)),
 xo 13 (.bin .add (xt 12) (xi 1)),
 xo 6 (.mv (xt 13))] [0,1,5,6]
def c97_13 : XC := fun _ => .seq c97_11 c97_12
def c97_14 : XC := fun _ => .seq c97_6 c97_13
def c97_15 : XC := fun _ => .loop c97_14
def c97_16 : XC := fun _ => .block 0 c97_15
def c97_17 : XC := fun _ => .seq c97_3 c97_16
def c97_18 : XC := fun _ => .region [] [xo 27 (.mv (xt 5)),
 xo 4 (.mv (xt 27))] [4]
def c97_19 : XC := fun _ => .seq c97_18 (fun _ => .ret)
def c97_20 : XC := fun _ => .seq c97_17 c97_19
def c97_21 : XC := fun _ => .seq c97_2 c97_20
def c97_22 : XC := fun _ => .seq c97_1 c97_21
def m_spec_WithoutServers : MCode := c97_22 ()
def h_spec_WithoutServers : Hints := [(0, [0,1], [], [], []), (1, [0,1,5], [], [], []), (2, [0,1,5,6], [], [], []), (3, [0,1,5,6,11], [], [], []), (5, [0,1,5,6,20], [], [], []), (6, [0,1,5,6], [], [], []), (4, [0,1,5,6], [], [], []), (7, [4], [], [], [])]
def r_spec_WithoutServers : List RV := [.t 4]
abbrev n_spec_WithoutServers : Nat := 97
theorem k_spec_WithoutServers : Known Pr mu n_spec_WithoutServers m_spec_WithoutServers r_spec_WithoutServers Go.Proofs.Try.f97.ntmps := .of h_spec_WithoutServers hm Go.Proofs.Try.func97
def c98_1 : XC := fun _ => .region [] [xo 4 (.mv (xi 0))] [0,1]
def c98_2 : XC := fun _ => .region [] [xo 6 (.mv (xt 0)),
 xo 7 (.len false (xt 6)),
 xo 8 (.mv (xi 0))] [0,1,7,8]
def c98_3 : XC := fun _ => .region [] [xo 9 (.bin .lss (xt 8) (xt 7))] [0,1,7,8,9]
def c98_4 : XC := fun _ => .cond (xt 9) (fun _ => .skip) (fun _ => .exit 0)
def c98_5 : XC := fun _ => .region [] [xo 10 (.mv (xt 8)),
 xo 5 (.mv (xt 10))] [0,1,5,7,8]
def c98_6 : XC := fun _ => .region [] [xo 11 (.mv (xt 1)),
 xo 12 (.mv (xt 0)),
 xo 13 (.mv (xt 5)),
 xo 14 (.ia (xt 12) (xt 13) 1),
 xo 15 (.ld (xt 14) 1 false),
 xo 16 (.bin .eql (xt 11) (xt 15))] [0,1,5,7,8,16]
def c98_7 : XC := fun _ => .region [] [xo 17 (.mv (xt 5)),
 xo 4 (.mv (xt 17))] [4]
def c98_8 : XC := fun _ => .seq c98_7 (fun _ => .ret)
def c98_9 : XC := fun _ => .cond (xt 16) c98_8 (fun _ => .skip)
def c98_10 : XC := fun _ => .seq c98_6 c98_9
def c98_11 : XC := fun _ => .seq c98_5 c98_10
def c98_12 : XC := fun _ => .block 1 c98_11
def c98_13 : XC := fun _ => .region [] [xo 18 (.bin .add (xt 8) (xi 1)),
 xo 8 (.mv (xt 18))] [0,1,7,8]
def c98_14 : XC := fun _ => .seq c98_12 c98_13
def c98_15 : XC := fun _ => .seq c98_4 c98_14
def c98_16 : XC := fun _ => .seq c98_3 c98_15
def c98_17 : XC := fun _ => .loop c98_16
def c98_18 : XC := fun _ => .block 0 c98_17
def c98_19 : XC := fun _ => .seq c98_2 c98_18
def c98_20 : XC := fun _ => .region [] [xo 4 (.mv (xi (-1)))] [4]
def c98_21 : XC := fun _ => .seq c98_20 (fun _ => .ret)
def c98_22 : XC := fun _ => .seq c98_19 c98_21
def c98_23 : XC := fun _ => .seq c98_1 c98_22
def m_slices_Index_intint : MCode := c98_23 ()
def h_slices_Index_intint : Hints := [(0, [0,1], [], [], []), (1, [0,1,7,8], [], [], []), (2, [0,1,7,8,9], [], [], []), (3, [0,1,5,7,8], [], [], []), (4, [0,1,5,7,8,16], [], [], []), (5, [4], [], [], []), (6, [0,1,7,8], [], [], []), (7, [4], [], [], [])]
def r_slices_Index_intint : List RV := [.t 4]
abbrev n_slices_Index_intint : Nat := 98
theorem k_slices_Index_intint : Known Pr mu n_slices_Index_intint m_slices_Index_intint r_slices_Index_intint Go.Proofs.Try.f98.ntmps := .of h_slices_Index_intint hm Go.Proofs.Try.func98
def c99_1 : XC := fun _ => .region [] [xo 2 (.mv (.const (.slice none 0 0)))] [0]
def c99_2 : XC := fun _ => .region [] [xo 3 (.mv (xt 0)),
 xo 4 (.nbin .eql (xt 3) (.const (.slice none 0 0)))] [0,4]
def c99_3 : XC := fun _ => .region [] [xo 2 (.mv (.const (.slice none 0 0)))] [2]
def c99_4 : XC := fun _ => .seq c99_3 (fun _ => .ret)
def c99_5 : XC := fun _ => .cond (xt 4) c99_4 (fun _ => .skip)
def c99_6 : XC := fun _ => .seq c99_2 c99_5
def c99_7 : XC := fun _ => .region [] [xo 5 (.bsl 1 0 [.int .i64 0] []),
 xo 6 (.mv (xt 0)),
 xo 7 (.app (xt 5) (xt 6) 1 8),
 xo 2 (.mv (xt 7))] [2]
def c99_8 : XC := fun _ => .seq c99_7 (fun _ => .ret)
def c99_9 : XC := fun _ => .seq c99_6 c99_8
def c99_10 : XC := fun _ => .seq c99_1 c99_9
def m_slices_Clone_intint : MCode := c99_10 ()
def h_slices_Clone_intint : Hints := [(0, [0], [], [], []), (1, [0,4], [], [], []), (2, [2], [], [], []), (3, [2], [], [], [])]
def r_slices_Clone_intint : List RV := [.t 2]
abbrev n_slices_Clone_intint : Nat := 99
theorem k_slices_Clone_intint : Known Pr mu n_slices_Clone_intint m_slices_Clone_intint r_slices_Clone_intint Go.Proofs.Try.f99.ntmps := .of h_slices_Clone_intint hm Go.Proofs.Try.func99
def c100_1 : XC := fun _ => .region [] [xo 3 (.mv (xt 0)),
 xo 4 (.len false (xt 3)),
 xo 2 (.mv (xt 4))] [0,2]
def c100_2 : XC := fun _ => .region [] [xo 5 (.mv (xt 0)),
 xo 6 (.mv (xt 2)),
 xo 7 (.mv (xt 2)),
 xo 8 (.conv .u64 (xt 7)),
 xo 9 (.call 106 [(xt 8)]),
 xo 10 (.callm 105 [(xt 5), (xi 0), (xt 6), (xt 9)])] []
def c100_3 : XC := fun _ => .seq c100_1 c100_2
def m_slices_Sort_intint : MCode := c100_3 ()
def h_slices_Sort_intint : Hints := [(0, [0,2], [], [], []), (1, [], [], [], [])]
def r_slices_Sort_intint : List RV := []
abbrev n_slices_Sort_intint : Nat := 100
theorem k_slices_Sort_intint : Known Pr mu n_slices_Sort_intint m_slices_Sort_intint r_slices_Sort_intint Go.Proofs.Try.f100.ntmps := .of h_slices_Sort_intint hm Go.Proofs.Try.func100
def c101_1 : XC := fun _ => .region [] [xo 2 (.mv (.const (.slice none 0 0)))] [0]
def c101_2 : XC := fun _ => .region [] [xo 6 (.mv (xt 0)),
 xo 7 (.len false (xt 6)),
 xo 8 (.bin .lss (xt 7) (xi 2))] [0,8]
def c101_3 : XC := fun _ => .region [] [xo 9 (.mv (xt 0)),
 xo 2 (.mv (xt 9))] [2]
def c101_4 : XC := fun _ => .seq c101_3 (fun _ => .ret)
def c101_5 : XC := fun _ => .cond (xt 8) c101_4 (fun _ => .skip)
def c101_6 : XC := fun _ => .seq c101_2 c101_5
def c101_7 : XC := fun _ => .region [] [xo 3 (.mv (xi 1))] [0,3]
def c101_8 : XC := fun _ => .region [] [xo 10 (.mv (xt 3)),
 xo 11 (.mv (xt 0)),
 xo 12 (.len false (xt 11)),
 xo 13 (.bin .lss (xt 10) (xt 12))] [0,3,13]
def c101_9 : XC := fun _ => .cond (xt 13) (fun _ => .skip) (fun _ => .exit 0)
def c101_10 : XC := fun _ => .seq c101_8 c101_9
def c101_11 : XC := fun _ => .region [] [xo 16 (.mv (xt 0)),
 xo 17 (.mv (xt 3)),
 xo 18 (.ia (xt 16) (xt 17) 1),
 xo 19 (.ld (xt 18) 1 false),
 xo 20 (.mv (xt 0)),
 xo 21 (.mv (xt 3)),
 xo 22 (.bin .sub (xt 21) (xi 1)),
 ⟨(some 23), .ia (xt 20) (xt 22) 1, none, [0, 1, 2, 3]⟩,
 ⟨(some 24), .ld (xt 23) 1 false, none, [0, 1, 2, 3]⟩,
 xo 25 (.bin .eql (xt 19) (xt 24))] [0,3,25]
def c101_12 : XC := fun _ => .region [] [xo 26 (.mv (xt 0)),
 xo 27 (.mv (xt 3)),
 xo 28 (.slc false (xt 26) (some (xt 27)) none none 1),
 xo 4 (.mv (xt 28))] [0,3,4]
def c101_13 : XC := fun _ => .region [] [xo 5 (.mv (xi 1))] [0,3,4,5]
def c101_14 : XC := fun _ => .region [] [xo 29 (.mv (xt 5)),
 xo 30 (.mv (xt 4)),
 xo 31 (.len false (xt 30)),
 xo 32 (.bin .lss (xt 29) (xt 31))] [0,3,4,5,32]
def c101_15 : XC := fun _ => .cond (xt 32) (fun _ => .skip) (fun _ => .exit 2)
def c101_16 : XC := fun _ => .seq c101_14 c101_15
def c101_17 : XC := fun _ => .region [] [xo 35 (.mv (xt 4)),
 xo 36 (.mv (xt 5)),
 xo 37 (.ia (xt 35) (xt 36) 1),
 xo 38 (.ld (xt 37) 1 false),
 xo 39 (.mv (xt 4)),
 xo 40 (.mv (xt 5)),
 xo 41 (.bin .sub (xt 40) (xi 1)),
 ⟨(some 42), .ia (xt 39) (xt 41) 1, none, [0, 1, 2, 3]⟩,
 ⟨(some 43), .ld (xt 42) 1 false, none, [0, 1, 2, 3]⟩,
 xo 44 (.bin .neq (xt 38) (xt 43))] [0,3,4,5,44]
def c101_18 : XC := fun _ => .region [] [xo 45 (.mv (xt 0)),
 xo 46 (.mv (xt 3)),
 xo 47 (.mv (xt 4)),
 xo 48 (.mv (xt 5)),
 xo 49 (.ia (xt 47) (xt 48) 1),
 xo 50 (.ld (xt 49) 1 false),
 xo 51 (.ia (xt 45) (xt 46) 1),
 xn (.sto (xt 51) (xt 50) 1)] [0,3,4,5]
def c101_19 : XC := fun _ => .region [] [xo 52 (.mv (xt 3)),
 xo 53 (.bin .add (xt 52) (xi 1)),
 xo 3 (.mv (xt 53))] [0,3,4,5]
def c101_20 : XC := fun _ => .seq c101_18 c101_19
def c101_21 : XC := fun _ => .cond (xt 44) c101_20 (fun _ => .skip)
def c101_22 : XC := fun _ => .seq c101_17 c101_21
def c101_23 : XC := fun _ => .block 3 c101_22
def c101_24 : XC := fun _ => .region [] [xo 33 (.mv (xt 5)),
 xo 34 (.bin .add (xt 33) (xi 1)),
 xo 5 (.mv (xt 34))] [0,3,4,5]
def c101_25 : XC := fun _ => .seq c101_23 c101_24
def c101_26 : XC := fun _ => .seq c101_16 c101_25
def c101_27 : XC := fun _ => .loop c101_26
def c101_28 : XC := fun _ => .block 2 c101_27
def c101_29 : XC := fun _ => .seq c101_13 c101_28
def c101_30 : XC := fun _ => .region [] [xo 54 (.mv (xt 0)),
 xo 55 (.mv (xt 3)),
 xo 56 (.slc false (xt 54) (some (xt 55)) none none 1),
 xn (.clr (xt 56) 1 [.int .i64 0])] [0,3]
def c101_31 : XC := fun _ => .region [] [xo 57 (.mv (xt 0)),
 xo 58 (.mv (xt 3)),
 xo 59 (.slc false (xt 57) none (some (xt 58)) none 1),
 xo 2 (.mv (xt 59))] [2]
def c101_32 : XC := fun _ => .seq c101_31 (fun _ => .ret)
def c101_33 : XC := fun _ => .seq c101_30 c101_32
def c101_34 : XC := fun _ => .seq c101_29 c101_33
def c101_35 : XC := fun _ => .seq c101_12 c101_34
def c101_36 : XC := fun _ => .cond (xt 25) c101_35 (fun _ => .skip)
def c101_37 : XC := fun _ => .seq c101_11 c101_36
def c101_38 : XC := fun _ => .block 1 c101_37
def c101_39 : XC := fun _ => .region [] [xo 14 (.mv (xt 3)),
 xo 15 (.bin .add (xt 14) (xi 1)),
 xo 3 (.mv (xt 15))] [0,3]
def c101_40 : XC := fun _ => .seq c101_38 c101_39
def c101_41 : XC := fun _ => .seq c101_10 c101_40
def c101_42 : XC := fun _ => .loop c101_41
def c101_43 : XC := fun _ => .block 0 c101_42
def c101_44 : XC := fun _ => .seq c101_7 c101_43
def c101_45 : XC := fun _ => .region [] [xo 60 (.mv (xt 0)),
 xo 2 (.mv (xt 60))] [2]
def c101_46 : XC := fun _ => .seq c101_45 (fun _ => .ret)
def c101_47 : XC := fun _ => .seq c101_44 c101_46
def c101_48 : XC := fun _ => .seq c101_6 c101_47
def c101_49 : XC := fun _ => .seq c101_1 c101_48
def m_slices_Compact_intint : MCode := c101_49 ()
def h_slices_Compact_intint : Hints := [(0, [0], [], [], []), (1, [0,8], [], [], []), (2, [2], [], [], []), (3, [0,3], [], [], []), (4, [0,3,13], [], [], []), (6, [0,3,25], [[],[],[],[],[],[],[],[0,1,2,3],[0,1,2,3]], [], []), (7, [0,3,4], [], [], []), (8, [0,3,4,5], [], [], []), (9, [0,3,4,5,32], [], [], []), (11, [0,3,4,5,44], [[],[],[],[],[],[],[],[0,1,2,3],[0,1,2,3]], [], []), (12, [0,3,4,5], [], [], []), (13, [0,3,4,5], [], [], []), (10, [0,3,4,5], [], [], []), (14, [0,3], [], [], []), (15, [2], [], [], []), (5, [0,3], [], [], []), (16, [2], [], [], [])]
def r_slices_Compact_intint : List RV := [.t 2]
abbrev n_slices_Compact_intint : Nat := 101
theorem k_slices_Compact_intint : Known Pr mu n_slices_Compact_intint m_slices_Compact_intint r_slices_Compact_intint Go.Proofs.Try.f101.ntmps := .of h_slices_Compact_intint hm Go.Proofs.Try.func101
def c103_1 : XC := fun _ => .region [] [xo 4 (.mv (.const (.slice none 0 0)))] [0,1]
def c103_2 : XC := fun _ => .region [] [xo 8 (.mv (xt 0)),
 xo 9 (.mv (xt 1)),
 xo 10 (.call 107 [(xt 8), (xt 9)]),
 xo 5 (.mv (xt 10))] [0,1,5]
def c103_3 : XC := fun _ => .region [] [xo 11 (.mv (xt 5)),
 xo 12 (.bin .eql (xt 11) (xi (-1)))] [0,1,5,12]
def c103_4 : XC := fun _ => .region [] [xo 13 (.mv (xt 0)),
 xo 4 (.mv (xt 13))] [4]
def c103_5 : XC := fun _ => .seq c103_4 (fun _ => .ret)
def c103_6 : XC := fun _ => .cond (xt 12) c103_5 (fun _ => .skip)
def c103_7 : XC := fun _ => .seq c103_3 c103_6
def c103_8 : XC := fun _ => .region [] [xo 14 (.mv (xt 5)),
 xo 15 (.bin .add (xt 14) (xi 1)),
 xo 6 (.mv (xt 15))] [0,1,5,6]
def c103_9 : XC := fun _ => .region [] [xo 16 (.mv (xt 6)),
 xo 17 (.mv (xt 0)),
 xo 18 (.len false (xt 17)),
 xo 19 (.bin .lss (xt 16) (xt 18))] [0,1,5,6,19]
def c103_10 : XC := fun _ => .cond (xt 19) (fun _ => .skip) (fun _ => .exit 0)
def c103_11 : XC := fun _ => .seq c103_9 c103_10
def c103_12 : XC := fun _ => .region [] [xo 22 (.mv (xt 0)),
 xo 23 (.mv (xt 6)),
 xo 24 (.ia (xt 22) (xt 23) 1),
 xo 25 (.ld (xt 24) 1 false),
 xo 7 (.mv (xt 25))] [0,1,5,6,7]
def c103_13 : XC := fun _ => .region [] [xo 26 (.mv (xt 1)),
 xo 27 (.mv (xt 7)),
 xo 28 (.callv (xt 26) [(xt 27)]),
 xo 29 (.not (xt 28))] [0,1,5,6,7,29]
def c103_14 : XC := fun _ => .region [] [xo 30 (.mv (xt 0)),
 xo 31 (.mv (xt 5)),
 xo 32 (.mv (xt 7)),
 xo 33 (.ia (xt 30) (xt 31) 1),
 xn (.sto (xt 33) (xt 32) 1)] [0,1,5,6]
def c103_15 : XC := fun _ => .region [] [xo 34 (.mv (xt 5)),
 xo 35 (.bin .add (xt 34) (xi 1)),
 xo 5 (.mv (xt 35))] [0,1,5,6]
def c103_16 : XC := fun _ => .seq c103_14 c103_15
def c103_17 : XC := fun _ => .cond (xt 29) c103_16 (fun _ => .skip)
def c103_18 : XC := fun _ => .seq c103_13 c103_17
def c103_19 : XC := fun _ => .seq c103_12 c103_18
def c103_20 : XC := fun _ => .block 1 c103_19
def c103_21 : XC := fun _ => .region [] [xo 20 (.mv (xt 6)),
 xo 21 (.bin .add (xt 20) (xi 1)),
 xo 6 (.mv (xt 21))] [0,1,5,6]
def c103_22 : XC := fun _ => .seq c103_20 c103_21
def c103_23 : XC := fun _ => .seq c103_11 c103_22
def c103_24 : XC := fun _ => .loop c103_23
def c103_25 : XC := fun _ => .block 0 c103_24
def c103_26 : XC := fun _ => .seq c103_8 c103_25
def c103_27 : XC := fun _ => .region [] [xo 36 (.mv (xt 0)),
 xo 37 (.mv (xt 5)),
 xo 38 (.slc false (xt 36) (some (xt 37)) none none 1),
 xn (.clr (xt 38) 1 [.int .i64 0])] [0,5]
def c103_28 : XC := fun _ => .region [] [xo 39 (.mv (xt 0)),
 xo 40 (.mv (xt 5)),
 xo 41 (.slc false (xt 39) none (some (xt 40)) none 1),
 xo 4 (.mv (xt 41))] [4]
def c103_29 : XC := fun _ => .seq c103_28 (fun _ => .ret)
def c103_30 : XC := fun _ => .seq c103_27 c103_29
def c103_31 : XC := fun _ => .seq c103_26 c103_30
def c103_32 : XC := fun _ => .seq c103_7 c103_31
def c103_33 : XC := fun _ => .seq c103_2 c103_32
def c103_34 : XC := fun _ => .seq c103_1 c103_33
def m_slices_DeleteFunc_intint : MCode := c103_34 ()
def h_slices_DeleteFunc_intint : Hints := [(0, [0,1], [], [], []), (1, [0,1,5], [], [], []), (2, [0,1,5,12], [], [], []), (3, [4], [], [], []), (4, [0,1,5,6], [], [], []), (5, [0,1,5,6,19], [], [], []), (7, [0,1,5,6,7], [], [], []), (8, [0,1,5,6,7,29], [], [], []), (9, [0,1,5,6], [], [], []), (10, [0,1,5,6], [], [], []), (6, [0,1,5,6], [], [], []), (11, [0,5], [], [], []), (12, [4], [], [], [])]
def r_slices_DeleteFunc_intint : List RV := [.t 4]
abbrev n_slices_DeleteFunc_intint : Nat := 103
theorem k_slices_DeleteFunc_intint : Known Pr mu n_slices_DeleteFunc_intint m_slices_DeleteFunc_intint r_slices_DeleteFunc_intint Go.Proofs.Try.f103.ntmps := .of h_slices_DeleteFunc_intint hm Go.Proofs.Try.func103
def c104_1 : XC := fun _ => .region [] [xo 3 (.mv (xb false))] [0,1]
def c104_2 : XC := fun _ => .region [] [xo 4 (.ld (xt 1) 1 false),
 xo 5 (.mv (xt 0)),
 xo 6 (.call 56 [(xt 4), (xt 5)]),
 xo 3 (.mv (xt 6))] [3]
def c104_3 : XC := fun _ => .seq c104_2 (fun _ => .ret)
def c104_4 : XC := fun _ => .seq c104_1 c104_3
def m_impl_WithoutServers_c1 : MCode := c104_4 ()
def h_impl_WithoutServers_c1 : Hints := [(0, [0,1], [], [], []), (1, [3], [], [], [])]
def r_impl_WithoutServers_c1 : List RV := [.t 3]
abbrev n_impl_WithoutServers_c1 : Nat := 104
theorem k_impl_WithoutServers_c1 : Known Pr mu n_impl_WithoutServers_c1 m_impl_WithoutServers_c1 r_impl_WithoutServers_c1 Go.Proofs.Try.f104.ntmps := .of h_impl_WithoutServers_c1 hm Go.Proofs.Try.func104
def c105_1 : XC := fun _ => .region [] [xo 8 (.mv (xb true))] [0,1,2,3,8]
def c105_2 : XC := fun _ => .region [] [xo 9 (.mv (xb true))] [0,1,2,3,8,9]
def c105_3 : XC := fun _ => .region [] [xo 19 (.mv (xt 2)),
 xo 20 (.mv (xt 1)),
 xo 21 (.bin .sub (xt 19) (xt 20)),
 xo 10 (.mv (xt 21))] [0,1,2,3,8,9,10]
def c105_4 : XC := fun _ => .region [] [xo 22 (.mv (xt 10)),
 xo 23 (.bin .leq (xt 22) (xi 12))] [0,1,2,3,8,9,10,23]
def c105_5 : XC := fun _ => .region [] [xo 24 (.mv (xt 0)),
 xo 25 (.mv (xt 1)),
 xo 26 (.mv (xt 2)),
 xo 27 (.callm 108 [(xt 24), (xt 25), (xt 26)])] []
def c105_6 : XC := fun _ => .seq c105_5 (fun _ => .ret)
def c105_7 : XC := fun _ => .cond (xt 23) c105_6 (fun _ => .skip)
def c105_8 : XC := fun _ => .seq c105_4 c105_7
def c105_9 : XC := fun _ => .region [] [xo 28 (.mv (xt 3)),
 xo 29 (.bin .eql (xt 28) (xi 0))] [0,1,2,3,8,9,10,29]
def c105_10 : XC := fun _ => .region [] [xo 30 (.mv (xt 0)),
 xo 31 (.mv (xt 1)),
 xo 32 (.mv (xt 2)),
 xo 33 (.callm 109 [(xt 30), (xt 31), (xt 32)])] []
def c105_11 : XC := fun _ => .seq c105_10 (fun _ => .ret)
def c105_12 : XC := fun _ => .cond (xt 29) c105_11 (fun _ => .skip)
def c105_13 : XC := fun _ => .seq c105_9 c105_12
def c105_14 : XC := fun _ => .region [] [xo 34 (.mv (xt 8)),
 xo 35 (.not (xt 34))] [0,1,2,3,8,9,10,35]
def c105_15 : XC := fun _ => .region [] [xo 36 (.mv (xt 0)),
 xo 37 (.mv (xt 1)),
 xo 38 (.mv (xt 2)),
 xo 39 (.callm 110 [(xt 36), (xt 37), (xt 38)])] [0,1,2,3,8,9,10]
def c105_16 : XC := fun _ => .region [] [xo 40 (.mv (xt 3)),
 xo 41 (.bin .sub (xt 40) (xi 1)),
 xo 3 (.mv (xt 41))] [0,1,2,3,8,9,10]
def c105_17 : XC := fun _ => .seq c105_15 c105_16
def c105_18 : XC := fun _ => .cond (xt 35) c105_17 (fun _ => .skip)
def c105_19 : XC := fun _ => .seq c105_14 c105_18
def c105_20 : XC := fun _ => .region [] [xo 43 (.mv (xt 0)),
 xo 44 (.mv (xt 1)),
 xo 45 (.mv (xt 2)),
 xo 46 (.call 111 [(xt 43), (xt 44), (xt 45)]),
 xo 42 (.mv (xt 46)),
 xo 47 (.ext (xt 42) 0),
 xo 48 (.ext (xt 42) 1),
 xo 11 (.mv (xt 47)),
 xo 12 (.mv (xt 48))] [0,1,2,3,8,9,10,11,12]
def c105_21 : XC := fun _ => .region [] [xo 49 (.mv (xt 12)),
 xo 50 (.bin .eql (xt 49) (xi 2))] [0,1,2,3,8,9,10,11,12,50]
def c105_22 : XC := fun _ => .region [] [xo 51 (.mv (xt 0)),
 xo 52 (.mv (xt 1)),
 xo 53 (.mv (xt 2)),
 xo 54 (.callm 112 [(xt 51), (xt 52), (xt 53)])] [0,1,2,3,8,9,10,11]
def c105_23 : XC := fun _ => .region [] [xo 55 (.mv (xt 2)),
 xo 56 (.bin .sub (xt 55) (xi 1)),
 xo 57 (.mv (xt 11)),
 xo 58 (.mv (xt 1)),
 xo 59 (.bin .sub (xt 57) (xt 58)),
 xo 60 (.bin .sub (xt 56) (xt 59)),
 xo 11 (.mv (xt 60))] [0,1,2,3,8,9,10,11]
def c105_24 : XC := fun _ => .region [] [xo 12 (.mv (xi 1))] [0,1,2,3,8,9,10,11,12]
def c105_25 : XC := fun _ => .seq c105_23 c105_24
def c105_26 : XC := fun _ => .seq c105_22 c105_25
def c105_27 : XC := fun _ => .cond (xt 50) c105_26 (fun _ => .skip)
def c105_28 : XC := fun _ => .seq c105_21 c105_27
def c105_29 : XC := fun _ => .region [] [xo 61 (.mv (xt 8)),
 xo 62 (.mv (xt 61)),
 ⟨(some 63), .mv (xt 9), (some (62, true)), []⟩,
 xo 64 (.pick (xt 62) (xt 63) (xb false)),
 xo 65 (.mv (xt 64)),
 ⟨(some 66), .mv (xt 12), (some (65, true)), []⟩,
 ⟨(some 67), .bin .eql (xt 66) (xi 1), (some (65, true)), []⟩,
 xo 68 (.pick (xt 65) (xt 67) (xb false))] [0,1,2,3,8,9,10,11,68]
def c105_30 : XC := fun _ => .region [] [xo 69 (.mv (xt 0)),
 xo 70 (.mv (xt 1)),
 xo 71 (.mv (xt 2)),
 xo 72 (.callm 113 [(xt 69), (xt 70), (xt 71)])] [0,1,2,3,8,9,10,11,72]
def c105_31 : XC := fun _ => .cond (xt 72) (fun _ => .ret) (fun _ => .skip)
def c105_32 : XC := fun _ => .seq c105_30 c105_31
def c105_33 : XC := fun _ => .cond (xt 68) c105_32 (fun _ => .skip)
def c105_34 : XC := fun _ => .seq c105_29 c105_33
def c105_35 : XC := fun _ => .region [] [xo 73 (.mv (xt 1)),
 xo 74 (.bin .gtr (xt 73) (xi 0)),
 xo 75 (.mv (xt 74)),
 ⟨(some 76), .mv (xt 0), (some (75, true)), []⟩,
 ⟨(some 77), .mv (xt 1), (some (75, true)), []⟩,
 ⟨(some 78), .bin .sub (xt 77) (xi 1), (some (75, true)), []⟩,
 ⟨(some 79), .ia (xt 76) (xt 78) 1, (some (75, true)), []⟩,
 ⟨(some 80), .ld (xt 79) 1 false, (some (75, true)), []⟩,
 ⟨(some 81), .mv (xt 0), (some (75, true)), []⟩,
 ⟨(some 82), .mv (xt 11), (some (75, true)), []⟩,
 ⟨(some 83), .ia (xt 81) (xt 82) 1, (some (75, true)), [3, 4, 5, 6, 7]⟩,
 ⟨(some 84), .ld (xt 83) 1 false, (some (75, true)), [3, 4, 5, 6, 7]⟩,
 ⟨(some 85), .call 114 [(xt 80), (xt 84)], (some (75, true)), []⟩,
 ⟨(some 86), .not (xt 85), (some (75, true)), []⟩,
 xo 87 (.pick (xt 75) (xt 86) (xb false))] [0,1,2,3,8,9,10,11,87]
def c105_36 : XC := fun _ => .region [] [xo 88 (.mv (xt 0)),
 xo 89 (.mv (xt 1)),
 xo 90 (.mv (xt 2)),
 xo 91 (.mv (xt 11)),
 xo 92 (.callm 115 [(xt 88), (xt 89), (xt 90), (xt 91)]),
 xo 13 (.mv (xt 92))] [0,2,3,8,9,13]
def c105_37 : XC := fun _ => .region [] [xo 93 (.mv (xt 13)),
 xo 1 (.mv (xt 93))] [0,1,2,3,8,9]
def c105_38 : XC := fun _ => .seq c105_37 (fun _ => .exit 1)
def c105_39 : XC := fun _ => .seq c105_36 c105_38
def c105_40 : XC := fun _ => .cond (xt 87) c105_39 (fun _ => .skip)
def c105_41 : XC := fun _ => .seq c105_35 c105_40
def c105_42 : XC := fun _ => .region [] [xo 95 (.mv (xt 0)),
 xo 96 (.mv (xt 1)),
 xo 97 (.mv (xt 2)),
 xo 98 (.mv (xt 11)),
 xo 99 (.callm 116 [(xt 95), (xt 96), (xt 97), (xt 98)]),
 xo 94 (.mv (xt 99)),
 xo 100 (.ext (xt 94) 0),
 xo 101 (.ext (xt 94) 1),
 xo 14 (.mv (xt 100)),
 xo 15 (.mv (xt 101))] [0,1,2,3,10,14,15]
def c105_43 : XC := fun _ => .region [] [xo 102 (.mv (xt 15)),
 xo 9 (.mv (xt 102))] [0,1,2,3,9,10,14]
def c105_44 : XC := fun _ => .region [] [xo 103 (.mv (xt 14)),
 xo 104 (.mv (xt 1)),
 xo 105 (.bin .sub (xt 103) (xt 104)),
 xo 106 (.mv (xt 2)),
 xo 107 (.mv (xt 14)),
 xo 108 (.bin .sub (xt 106) (xt 107)),
 xo 16 (.mv (xt 105)),
 xo 17 (.mv (xt 108))] [0,1,2,3,9,10,14,16,17]
def c105_45 : XC := fun _ => .region [] [xo 109 (.mv (xt 10)),
 xo 110 (.bin .quo (xt 109) (xi 8)),
 xo 18 (.mv (xt 110))] [0,1,2,3,9,14,16,17,18]
def c105_46 : XC := fun _ => .region [] [xo 111 (.mv (xt 16)),
 xo 112 (.mv (xt 17)),
 xo 113 (.bin .lss (xt 111) (xt 112))] [0,1,2,3,9,14,16,17,18,113]
def c105_47 : XC := fun _ => .region [] [xo 114 (.mv (xt 16)),
 xo 115 (.mv (xt 18)),
 xo 116 (.bin .geq (xt 114) (xt 115)),
 xo 8 (.mv (xt 116))] [0,1,2,3,8,9,14]
def c105_48 : XC := fun _ => .region [] [xo 117 (.mv (xt 0)),
 xo 118 (.mv (xt 1)),
 xo 119 (.mv (xt 14)),
 xo 120 (.mv (xt 3)),
 xo 121 (.callm 105 [(xt 117), (xt 118), (xt 119), (xt 120)])] [0,2,3,8,9,14]
def c105_49 : XC := fun _ => .region [] [xo 122 (.mv (xt 14)),
 xo 123 (.bin .add (xt 122) (xi 1)),
 xo 1 (.mv (xt 123))] [0,1,2,3,8,9]
def c105_50 : XC := fun _ => .seq c105_48 c105_49
def c105_51 : XC := fun _ => .seq c105_47 c105_50
def c105_52 : XC := fun _ => .region [] [xo 124 (.mv (xt 17)),
 xo 125 (.mv (xt 18)),
 xo 126 (.bin .geq (xt 124) (xt 125)),
 xo 8 (.mv (xt 126))] [0,1,2,3,8,9,14]
def c105_53 : XC := fun _ => .region [] [xo 127 (.mv (xt 0)),
 xo 128 (.mv (xt 14)),
 xo 129 (.bin .add (xt 128) (xi 1)),
 xo 130 (.mv (xt 2)),
 xo 131 (.mv (xt 3)),
 xo 132 (.callm 105 [(xt 127), (xt 129), (xt 130), (xt 131)])] [0,1,3,8,9,14]
def c105_54 : XC := fun _ => .region [] [xo 133 (.mv (xt 14)),
 xo 2 (.mv (xt 133))] [0,1,2,3,8,9]
def c105_55 : XC := fun _ => .seq c105_53 c105_54
def c105_56 : XC := fun _ => .seq c105_52 c105_55
def c105_57 : XC := fun _ => .cond (xt 113) c105_51 c105_56
def c105_58 : XC := fun _ => .seq c105_46 c105_57
def c105_59 : XC := fun _ => .seq c105_45 c105_58
def c105_60 : XC := fun _ => .seq c105_44 c105_59
def c105_61 : XC := fun _ => .seq c105_43 c105_60
def c105_62 : XC := fun _ => .seq c105_42 c105_61
def c105_63 : XC := fun _ => .seq c105_41 c105_62
def c105_64 : XC := fun _ => .seq c105_34 c105_63
def c105_65 : XC := fun _ => .seq c105_28 c105_64
def c105_66 : XC := fun _ => .seq c105_20 c105_65
def c105_67 : XC := fun _ => .seq c105_19 c105_66
def c105_68 : XC := fun _ => .seq c105_13 c105_67
def c105_69 : XC := fun _ => .seq c105_8 c105_68
def c105_70 : XC := fun _ => .seq c105_3 c105_69
def c105_71 : XC := fun _ => .block 1 c105_70
def c105_72 : XC := fun _ => .loop c105_71
def c105_73 : XC := fun _ => .block 0 c105_72
def c105_74 : XC := fun _ => .seq c105_2 c105_73
def c105_75 : XC := fun _ => .seq c105_1 c105_74
def m_slices_pdqsortOrdered_int : MCode := c105_75 ()
def h_slices_pdqsortOrdered_int : Hints := [(0, [0,1,2,3,8], [], [], []), (1, [0,1,2,3,8,9], [], [], []), (2, [0,1,2,3,8,9,10], [], [], []), (3, [0,1,2,3,8,9,10,23], [], [], []), (4, [], [], [], []), (5, [0,1,2,3,8,9,10,29], [], [], []), (6, [], [], [], []), (7, [0,1,2,3,8,9,10,35], [], [], []), (8, [0,1,2,3,8,9,10], [], [], []), (9, [0,1,2,3,8,9,10], [], [], []), (10, [0,1,2,3,8,9,10,11,12], [], [], []), (11, [0,1,2,3,8,9,10,11,12,50], [], [], []), (12, [0,1,2,3,8,9,10,11], [], [], []), (13, [0,1,2,3,8,9,10,11], [], [], []), (14, [0,1,2,3,8,9,10,11,12], [], [], []), (15, [0,1,2,3,8,9,10,11,68], [], [], []), (16, [0,1,2,3,8,9,10,11,72], [], [], []), (17, [0,1,2,3,8,9,10,11,87], [[],[],[],[],[],[],[],[],[],[],[3,4,5,6,7],[3,4,5,6,7]], [], []), (18, [0,2,3,8,9,13], [], [], []), (19, [0,1,2,3,8,9], [], [], []), (20, [0,1,2,3,10,14,15], [], [], []), (21, [0,1,2,3,9,10,14], [], [], []), (22, [0,1,2,3,9,10,14,16,17], [], [], []), (23, [0,1,2,3,9,14,16,17,18], [], [], []), (24, [0,1,2,3,9,14,16,17,18,113], [], [], []), (25, [0,1,2,3,8,9,14], [], [], []), (26, [0,2,3,8,9,14], [], [], []), (27, [0,1,2,3,8,9], [], [], []), (28, [0,1,2,3,8,9,14], [], [], []), (29, [0,1,3,8,9,14], [], [], []), (30, [0,1,2,3,8,9], [], [], [])]
def r_slices_pdqsortOrdered_int : List RV := []
abbrev n_slices_pdqsortOrdered_int : Nat := 105
theorem k_slices_pdqsortOrdered_int : Known Pr mu n_slices_pdqsortOrdered_int m_slices_pdqsortOrdered_int r_slices_pdqsortOrdered_int Go.Proofs.Try.f105.ntmps := .of h_slices_pdqsortOrdered_int hm Go.Proofs.Try.func105
def c106_1 : XC := fun _ => .region [] [xo 2 (.mv (xi 0))] [0]
def c106_2 : XC := fun _ => .region [] [xo 3 (.mv (xt 0)),
 xo 4 (.conv .u32 (xt 3)),
 xo 5 (.call 117 [(xt 4)]),
 xo 2 (.mv (xt 5))] [2]
def c106_3 : XC := fun _ => .seq c106_2 (fun _ => .ret)
def c106_4 : XC := fun _ => .cond (xb false) c106_3 (fun _ => .skip)
def c106_5 : XC := fun _ => .region [] [xo 6 (.mv (xt 0)),
 xo 7 (.call 118 [(xt 6)]),
 xo 2 (.mv (xt 7))] [2]
def c106_6 : XC := fun _ => .seq c106_5 (fun _ => .ret)
def c106_7 : XC := fun _ => .seq c106_4 c106_6
def c106_8 : XC := fun _ => .seq c106_1 c106_7
def m_math_bits_Len : MCode := c106_8 ()
def h_math_bits_Len : Hints := [(0, [0], [], [], []), (1, [2], [], [], []), (2, [2], [], [], [])]
def r_math_bits_Len : List RV := [.t 2]
abbrev n_math_bits_Len : Nat := 106
theorem k_math_bits_Len : Known Pr mu n_math_bits_Len m_math_bits_Len r_math_bits_Len Go.Proofs.Try.f106.ntmps := .of h_math_bits_Len hm Go.Proofs.Try.func106
def c107_1 : XC := fun _ => .region [] [xo 4 (.mv (xi 0))] [0,1]
def c107_2 : XC := fun _ => .region [] [xo 6 (.mv (xt 0)),
 xo 7 (.len false (xt 6)),
 xo 8 (.mv (xi 0))] [0,1,7,8]
def c107_3 : XC := fun _ => .region [] [xo 9 (.bin .lss (xt 8) (xt 7))] [0,1,7,8,9]
def c107_4 : XC := fun _ => .cond (xt 9) (fun _ => .skip) (fun _ => .exit 0)
def c107_5 : XC := fun _ => .region [] [xo 10 (.mv (xt 8)),
 xo 5 (.mv (xt 10))] [0,1,5,7,8]
def c107_6 : XC := fun _ => .region [] [xo 11 (.mv (xt 1)),
 xo 12 (.mv (xt 0)),
 xo 13 (.mv (xt 5)),
 xo 14 (.ia (xt 12) (xt 13) 1),
 xo 15 (.ld (xt 14) 1 false),
 xo 16 (.callv (xt 11) [(xt 15)])] [0,1,5,7,8,16]
def c107_7 : XC := fun _ => .region [] [xo 17 (.mv (xt 5)),
 xo 4 (.mv (xt 17))] [4]
def c107_8 : XC := fun _ => .seq c107_7 (fun _ => .ret)
def c107_9 : XC := fun _ => .cond (xt 16) c107_8 (fun _ => .skip)
def c107_10 : XC := fun _ => .seq c107_6 c107_9
def c107_11 : XC := fun _ => .seq c107_5 c107_10
def c107_12 : XC := fun _ => .block 1 c107_11
def c107_13 : XC := fun _ => .region [] [xo 18 (.bin .add (xt 8) (xi 1)),
 xo 8 (.mv (xt 18))] [0,1,7,8]
def c107_14 : XC := fun _ => .seq c107_12 c107_13
def c107_15 : XC := fun _ => .seq c107_4 c107_14
def c107_16 : XC := fun _ => .seq c107_3 c107_15
def c107_17 : XC := fun _ => .loop c107_16
def c107_18 : XC := fun _ => .block 0 c107_17
def c107_19 : XC := fun _ => .seq c107_2 c107_18
def c107_20 : XC := fun _ => .region [] [xo 4 (.mv (xi (-1)))] [4]
def c107_21 : XC := fun _ => .seq c107_20 (fun _ => .ret)
def c107_22 : XC := fun _ => .seq c107_19 c107_21
def c107_23 : XC := fun _ => .seq c107_1 c107_22
def m_slices_IndexFunc_intint : MCode := c107_23 ()
def h_slices_IndexFunc_intint : Hints := [(0, [0,1], [], [], []), (1, [0,1,7,8], [], [], []), (2, [0,1,7,8,9], [], [], []), (3, [0,1,5,7,8], [], [], []), (4, [0,1,5,7,8,16], [], [], []), (5, [4], [], [], []), (6, [0,1,7,8], [], [], []), (7, [4], [], [], [])]
def r_slices_IndexFunc_intint : List RV := [.t 4]
abbrev n_slices_IndexFunc_intint : Nat := 107
theorem k_slices_IndexFunc_intint : Known Pr mu n_slices_IndexFunc_intint m_slices_IndexFunc_intint r_slices_IndexFunc_intint Go.Proofs.Try.f107.ntmps := .of h_slices_IndexFunc_intint hm Go.Proofs.Try.func107
def c108_1 : XC := fun _ => .region [] [xo 8 (.mv (xt 1)),
 xo 9 (.bin .add (xt 8) (xi 1)),
 xo 6 (.mv (xt 9))] [0,1,2,6]
def c108_2 : XC := fun _ => .region [] [xo 10 (.mv (xt 6)),
 xo 11 (.mv (xt 2)),
 xo 12 (.bin .lss (xt 10) (xt 11))] [0,1,2,6,12]
def c108_3 : XC := fun _ => .cond (xt 12) (fun _ => .skip) (fun _ => .exit 0)
def c108_4 : XC := fun _ => .seq c108_2 c108_3
def c108_5 : XC := fun _ => .region [] [xo 15 (.mv (xt 6)),
 xo 7 (.mv (xt 15))] [0,1,2,6,7]
def c108_6 : XC := fun _ => .region [] [xo 16 (.mv (xt 7)),
 xo 17 (.mv (xt 1)),
 xo 18 (.bin .gtr (xt 16) (xt 17)),
 xo 19 (.mv (xt 18)),
 ⟨(some 20), .mv (xt 0), (some (19, true)), []⟩,
 ⟨(some 21), .mv (xt 7), (some (19, true)), []⟩,
 ⟨(some 22), .ia (xt 20) (xt 21) 1, (some (19, true)), []⟩,
 ⟨(some 23), .ld (xt 22) 1 false, (some (19, true)), []⟩,
 ⟨(some 24), .mv (xt 0), (some (19, true)), []⟩,
 ⟨(some 25), .mv (xt 7), (some (19, true)), []⟩,
 ⟨(some 26), .bin .sub (xt 25) (xi 1), (some (19, true)), []⟩,
 ⟨(some 27), .ia (xt 24) (xt 26) 1, (some (19, true)), [4, 5, 6, 7]⟩,
 ⟨(some 28), .ld (xt 27) 1 false, (some (19, true)), [4, 5, 6, 7]⟩,
 ⟨(some 29), .call 114 [(xt 23), (xt 28)], (some (19, true)), []⟩,
 xo 30 (.pick (xt 19) (xt 29) (xb false))] [0,1,2,6,7,30]
def c108_7 : XC := fun _ => .cond (xt 30) (fun _ => .skip) (fun _ => .exit 2)
def c108_8 : XC := fun _ => .seq c108_6 c108_7
def c108_9 : XC := fun _ => .region [] [xo 33 (.mv (xt 0)),
 xo 34 (.mv (xt 7)),
 xo 35 (.mv (xt 0)),
 xo 36 (.mv (xt 7)),
 xo 37 (.bin .sub (xt 36) (xi 1)),
 xo 38 (.mv (xt 0)),
 xo 39 (.mv (xt 7)),
 xo 40 (.bin .sub (xt 39) (xi 1)),
 ⟨(some 41), .ia (xt 38) (xt 40) 1, none, [0, 1, 2, 3, 4]⟩,
 ⟨(some 42), .ld (xt 41) 1 false, none, [0, 1, 2, 3, 4]⟩,
 xo 43 (.mv (xt 0)),
 xo 44 (.mv (xt 7)),
 ⟨(some 45), .ia (xt 43) (xt 44) 1, none, [0, 1, 2, 3, 4, 5, 6, 7, 8, 9]⟩,
 ⟨(some 46), .ld (xt 45) 1 false, none, [0, 1, 2, 3, 4, 5, 6, 7, 8, 9]⟩,
 ⟨(some 47), .ia (xt 33) (xt 34) 1, none, [2, 3, 4]⟩,
 xn (.sto (xt 47) (xt 42) 1),
 xo 48 (.ia (xt 35) (xt 37) 1),
 xn (.sto (xt 48) (xt 46) 1)] [0,1,2,6,7]
def c108_10 : XC := fun _ => .block 3 c108_9
def c108_11 : XC := fun _ => .region [] [xo 31 (.mv (xt 7)),
 xo 32 (.bin .sub (xt 31) (xi 1)),
 xo 7 (.mv (xt 32))] [0,1,2,6,7]
def c108_12 : XC := fun _ => .seq c108_10 c108_11
def c108_13 : XC := fun _ => .seq c108_8 c108_12
def c108_14 : XC := fun _ => .loop c108_13
def c108_15 : XC := fun _ => .block 2 c108_14
def c108_16 : XC := fun _ => .seq c108_5 c108_15
def c108_17 : XC := fun _ => .block 1 c108_16
def c108_18 : XC := fun _ => .region [] [xo 13 (.mv (xt 6)),
 xo 14 (.bin .add (xt 13) (xi 1)),
 xo 6 (.mv (xt 14))] [0,1,2,6]
def c108_19 : XC := fun _ => .seq c108_17 c108_18
def c108_20 : XC := fun _ => .seq c108_4 c108_19
def c108_21 : XC := fun _ => .loop c108_20
def c108_22 : XC := fun _ => .block 0 c108_21
def c108_23 : XC := fun _ => .seq c108_1 c108_22
def m_slices_insertionSortOrdered_int : MCode := c108_23 ()
def h_slices_insertionSortOrdered_int : Hints := [(0, [0,1,2,6], [], [], []), (1, [0,1,2,6,12], [], [], []), (3, [0,1,2,6,7], [], [], []), (4, [0,1,2,6,7,30], [[],[],[],[],[],[],[],[],[],[],[],[4,5,6,7],[4,5,6,7]], [], []), (6, [0,1,2,6,7], [[],[],[],[],[],[],[],[],[0,1,2,3,4],[0,1,2,3,4],[],[],[0,1,2,3,4,5,6,7,8,9],[0,1,2,3,4,5,6,7,8,9],[2,3,4]], [], [2,3,4]), (5, [0,1,2,6,7], [], [], []), (2, [0,1,2,6], [], [], [])]
def r_slices_insertionSortOrdered_int : List RV := []
abbrev n_slices_insertionSortOrdered_int : Nat := 108
theorem k_slices_insertionSortOrdered_int : Known Pr mu n_slices_insertionSortOrdered_int m_slices_insertionSortOrdered_int r_slices_insertionSortOrdered_int Go.Proofs.Try.f108.ntmps := .of h_slices_insertionSortOrdered_int hm Go.Proofs.Try.func108
def c114_1 : XC := fun _ => .region [] [xo 4 (.mv (xb false))] [0,1]
def c114_2 : XC := fun _ => .region [] [xo 5 (.mv (xt 0)),
 xo 6 (.call 124 [(xt 5)]),
 xo 7 (.mv (xt 6)),
 ⟨(some 8), .mv (xt 1), (some (7, true)), []⟩,
 ⟨(some 9), .call 124 [(xt 8)], (some (7, true)), []⟩,
 ⟨(some 10), .not (xt 9), (some (7, true)), []⟩,
 xo 11 (.pick (xt 7) (xt 10) (xb false)),
 xo 12 (.mv (xt 11)),
 ⟨(some 13), .mv (xt 0), (some (12, false)), []⟩,
 ⟨(some 14), .mv (xt 1), (some (12, false)), []⟩,
 ⟨(some 15), .bin .lss (xt 13) (xt 14), (some (12, false)), []⟩,
 xo 16 (.pick (xt 12) (xb true) (xt 15)),
 xo 4 (.mv (xt 16))] [4]
def c114_3 : XC := fun _ => .seq c114_2 (fun _ => .ret)
def c114_4 : XC := fun _ => .seq c114_1 c114_3
def m_cmp_Less_int : MCode := c114_4 ()
def h_cmp_Less_int : Hints := [(0, [0,1], [], [], []), (1, [4], [], [], [])]
def r_cmp_Less_int : List RV := [.t 4]
abbrev n_cmp_Less_int : Nat := 114
theorem k_cmp_Less_int : Known Pr mu n_cmp_Less_int m_cmp_Less_int r_cmp_Less_int Go.Proofs.Try.f114.ntmps := .of h_cmp_Less_int hm Go.Proofs.Try.func114
def c118_1 : XC := fun _ => .region [] [xo 2 (.mv (xi 0))] [0,2]
def c118_2 : XC := fun _ => .region [] [xo 3 (.mv (xt 0)),
 xo 4 (.bin .geq (xt 3) (.const (.int .u64 4294967296)))] [0,2,4]
def c118_3 : XC := fun _ => .region [] [xo 5 (.mv (xt 0)),
 xo 6 (.bit .shr (xt 5) (.const (.int .u64 32))),
 xo 0 (.mv (xt 6))] [0]
def c118_4 : XC := fun _ => .region [] [xo 2 (.mv (xi 32))] [0,2]
def c118_5 : XC := fun _ => .seq c118_3 c118_4
def c118_6 : XC := fun _ => .cond (xt 4) c118_5 (fun _ => .skip)
def c118_7 : XC := fun _ => .seq c118_2 c118_6
def c118_8 : XC := fun _ => .region [] [xo 7 (.mv (xt 0)),
 xo 8 (.bin .geq (xt 7) (.const (.int .u64 65536)))] [0,2,8]
def c118_9 : XC := fun _ => .region [] [xo 9 (.mv (xt 0)),
 xo 10 (.bit .shr (xt 9) (.const (.int .u64 16))),
 xo 0 (.mv (xt 10))] [0,2]
def c118_10 : XC := fun _ => .region [] [xo 11 (.mv (xt 2)),
 xo 12 (.bin .add (xt 11) (xi 16)),
 xo 2 (.mv (xt 12))] [0,2]
def c118_11 : XC := fun _ => .seq c118_9 c118_10
def c118_12 : XC := fun _ => .cond (xt 8) c118_11 (fun _ => .skip)
def c118_13 : XC := fun _ => .seq c118_8 c118_12
def c118_14 : XC := fun _ => .region [] [xo 13 (.mv (xt 0)),
 xo 14 (.bin .geq (xt 13) (.const (.int .u64 256)))] [0,2,14]
def c118_15 : XC := fun _ => .region [] [xo 15 (.mv (xt 0)),
 xo 16 (.bit .shr (xt 15) (.const (.int .u64 8))),
 xo 0 (.mv (xt 16))] [0,2]
def c118_16 : XC := fun _ => .region [] [xo 17 (.mv (xt 2)),
 xo 18 (.bin .add (xt 17) (xi 8)),
 xo 2 (.mv (xt 18))] [0,2]
def c118_17 : XC := fun _ => .seq c118_15 c118_16
def c118_18 : XC := fun _ => .cond (xt 14) c118_17 (fun _ => .skip)
def c118_19 : XC := fun _ => .seq c118_14 c118_18
def c118_20 : XC := fun _ => .region [] [xo 19 (.mv (xt 2)),
 xo 20 (.mv (xt 0)),
 xo 21 (.conv .u8 (xt 20)),
 xo 22 (.sidx (.const (.string ⟨#[0, 1, 2, 2, 3, 3, 3, 3, 4, 4, 4, 4, 4, 4, 4, 4, 5, 5, 5, 5, 5, 5, 5, 5, 5, 5, 5, 5, 5, 5, 5, 5, 6, 6, 6, 6, 6, 6, 6, 6, 6, 6, 6, 6, 6, 6, 6, 6, 6, 6, 6, 6, 6, 6, 6, 6, 6, 6, 6, 6, 6, 6, 6, 6, 7, 7, 7, 7, 7, 7, 7, 7, 7, 7, 7, 7, 7, 7, 7, 7, 7, 7, 7, 7, 7, 7, 7, 7, 7, 7, 7, 7, 7, 7, 7, 7, 7, 7, 7, 7, 7, 7, 7, 7, 7, 7, 7, 7, 7, 7, 7, 7, 7, 7, 7, 7, 7, 7, 7, 7, 7, 7, 7, 7, 7, 7, 7, 7, 8, 8, 8, 8, 8, 8, 8, 8, 8, 8, 8, 8, 8, 8, 8, 8, 8, 8, 8, 8, 8, 8, 8, 8, 8, 8, 8, 8, 8, 8, 8, 8, 8, 8, 8, 8, 8, 8, 8, 8, 8, 8, 8, 8, 8, 8, 8, 8, 8, 8, 8, 8, 8, 8, 8, 8, 8, 8, 8, 8, 8, 8, 8, 8, 8, 8, 8, 8, 8, 8, 8, 8, 8, 8, 8, 8, 8, 8, 8, 8, 8, 8, 8, 8, 8, 8, 8, 8, 8, 8, 8, 8, 8, 8, 8, 8, 8, 8, 8, 8, 8, 8, 8, 8, 8, 8, 8, 8, 8, 8, 8, 8, 8, 8, 8, 8, 8, 8, 8, 8, 8, 8, 8, 8, 8, 8, 8, 8]⟩)) (xt 21)),
 xo 23 (.conv .i64 (xt 22)),
 xo 24 (.bin .add (xt 19) (xt 23)),
 xo 2 (.mv (xt 24))] [2]
def c118_21 : XC := fun _ => .seq c118_20 (fun _ => .ret)
def c118_22 : XC := fun _ => .seq c118_19 c118_21
def c118_23 : XC := fun _ => .seq c118_13 c118_22
def c118_24 : XC := fun _ => .seq c118_7 c118_23
def c118_25 : XC := fun _ => .seq c118_1 c118_24
def m_math_bits_Len64 : MCode := c118_25 ()
def h_math_bits_Len64 : Hints := [(0, [0,2], [], [], []), (1, [0,2,4], [], [], []), (2, [0], [], [], []), (3, [0,2], [], [], []), (4, [0,2,8], [], [], []), (5, [0,2], [], [], []), (6, [0,2], [], [], []), (7, [0,2,14], [], [], []), (8, [0,2], [], [], []), (9, [0,2], [], [], []), (10, [2], [], [], [])]
def r_math_bits_Len64 : List RV := [.t 2]
abbrev n_math_bits_Len64 : Nat := 118
theorem k_math_bits_Len64 : Known Pr mu n_math_bits_Len64 m_math_bits_Len64 r_math_bits_Len64 Go.Proofs.Try.f118.ntmps := .of h_math_bits_Len64 hm Go.Proofs.Try.func118
def c124_1 : XC := fun _ => .region [] [xo 2 (.mv (xb false))] [0]
def c124_2 : XC := fun _ => .region [] [xo 3 (.mv (xt 0)),
 xo 4 (.mv (xt 0)),
 xo 5 (.bin .neq (xt 3) (xt 4)),
 xo 2 (.mv (xt 5))] [2]
def c124_3 : XC := fun _ => .seq c124_2 (fun _ => .ret)
def c124_4 : XC := fun _ => .seq c124_1 c124_3
def m_cmp_isNaN_int : MCode := c124_4 ()
def h_cmp_isNaN_int : Hints := [(0, [0], [], [], []), (1, [2], [], [], [])]
def r_cmp_isNaN_int : List RV := [.t 2]
abbrev n_cmp_isNaN_int : Nat := 124
theorem k_cmp_isNaN_int : Known Pr mu n_cmp_isNaN_int m_cmp_isNaN_int r_cmp_isNaN_int Go.Proofs.Try.f124.ntmps := .of h_cmp_isNaN_int hm Go.Proofs.Try.func124
end Go.V.T
