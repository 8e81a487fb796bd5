/- The short code of the functions that FnTails reaches, held against the program. Conditions: none. -/
import Derived.Test.YtdkphkbpeiojlabV6
import Derived.Test.YtdkphkbpeiojlabProg
namespace Go.V.T
open Go Go.V
noncomputable abbrev Pr := Go.Proofs.Try.prog
def mu : Nat → Bool := fun n => Nat.beq n 1000005 || Nat.beq n 1000009 || Nat.beq n 1000014 || Nat.beq n 1000018 || Nat.beq n 1000019 || Nat.beq n 1000020 || Nat.beq n 1000033 || Nat.beq n 1000034 || Nat.beq n 1000037 || Nat.beq n 1000039 || Nat.beq n 1000040 || Nat.beq n 1000043 || Nat.beq n 2000017
def muc : Nat → Bool := fun n => Nat.beq n 3000000 || mu n
abbrev XC := Unit → MCode
def xt (n : Nat) : Operand := .tmp n
def xi (n : Int) : Operand := .const (.int .i64 n)
def xb (b : Bool) : Operand := .const (.bool b)
def xo (d : Nat) (m : MOp) : MOper := ⟨some d, m, none, []⟩
def xn (m : MOp) : MOper := ⟨none, m, none, []⟩
theorem hm : Pr.follows .mixedOrders = true := by kernel_rfl
def c3_1 : XC := fun _ => .region [] [xo 2 (.mv (xb false))] [0]
def c3_2 : XC := fun _ => .region [] [xo 25 (.mv (xt 0)),
 xo 26 (.call 4 [(xt 25)])] [0,26]
def c3_3 : XC := fun _ => .region [] [xo 2 (.mv (xb true))] [2]
def c3_4 : XC := fun _ => .seq c3_3 (fun _ => .ret)
def c3_5 : XC := fun _ => .cond (xt 26) c3_4 (fun _ => .skip)
def c3_6 : XC := fun _ => .seq c3_2 c3_5
def c3_7 : XC := fun _ => .region [] [xo 28 (.mv (xt 0)),
 xo 29 (.callp 5 [(xt 28)]),
 xo 27 (.mv (xt 29)),
 xo 30 (.ext (xt 27) 0),
 xo 31 (.ext (xt 27) 1),
 xo 32 (.ext (xt 27) 2),
 xo 3 (.mv (xt 30)),
 xo 4 (.mv (xt 31)),
 xo 5 (.mv (xt 32))] [0,3,4,5]
def c3_8 : XC := fun _ => .region [] [xo 34 (.mv (xt 3)),
 xo 35 (.mv (xt 4)),
 xo 36 (.mv (xt 5)),
 xo 37 (.call 6 [(xt 34), (xt 35), (xt 36)]),
 xo 33 (.mv (xt 37)),
 xo 38 (.ext (xt 33) 0),
 xo 39 (.ext (xt 33) 1),
 xo 6 (.mv (xt 38)),
 xo 7 (.mv (xt 39))] [0,3,4,5,6,7]
def c3_9 : XC := fun _ => .region [] [xo 41 (.mv (xt 3)),
 xo 42 (.mv (xt 4)),
 xo 43 (.mv (xt 5)),
 xo 44 (.call 7 [(xt 41), (xt 42), (xt 43)]),
 xo 40 (.mv (xt 44)),
 xo 45 (.ext (xt 40) 0),
 xo 46 (.ext (xt 40) 1),
 xo 8 (.mv (xt 45)),
 xo 9 (.mv (xt 46))] [0,3,6,7,8,9]
def c3_10 : XC := fun _ => .region [] [xo 47 (.mv (xt 7)),
 xo 48 (.mv (xt 9)),
 xo 49 (.bbin .neq (xt 47) (xt 48)),
 xo 50 (.mv (xt 49)),
 ⟨(some 51), .mv (xt 6), (some (50, false)), []⟩,
 ⟨(some 52), .len false (xt 51), (some (50, false)), []⟩,
 ⟨(some 53), .mv (xt 8), (some (50, false)), []⟩,
 ⟨(some 54), .len false (xt 53), (some (50, false)), []⟩,
 ⟨(some 55), .bin .neq (xt 52) (xt 54), (some (50, false)), []⟩,
 xo 56 (.pick (xt 50) (xb true) (xt 55)),
 xo 57 (.mv (xt 56)),
 ⟨(some 58), .mv (xt 6), (some (57, false)), []⟩,
 ⟨(some 59), .mv (xt 8), (some (57, false)), []⟩,
 ⟨(some 60), .call 8 [(xt 58), (xt 59)], (some (57, false)), []⟩,
 ⟨(some 61), .not (xt 60), (some (57, false)), []⟩,
 xo 62 (.pick (xt 57) (xb true) (xt 61)),
 xo 63 (.mv (xt 62)),
 ⟨(some 64), .mv (xt 7), (some (63, false)), []⟩,
 ⟨(some 65), .mv (xt 64), (some (63, false)), []⟩,
 ⟨(some 66), .mv (xt 3), (some (65, true)), []⟩,
 ⟨(some 67), .mv (xt 6), (some (65, true)), []⟩,
 ⟨(some 68), .call 8 [(xt 66), (xt 67)], (some (65, true)), []⟩,
 ⟨(some 69), .not (xt 68), (some (65, true)), []⟩,
 ⟨(some 70), .pick (xt 65) (xt 69) (xb false), (some (63, false)), []⟩,
 xo 71 (.pick (xt 63) (xb true) (xt 70))] [0,71]
def c3_11 : XC := fun _ => .region [] [xo 2 (.mv (xb false))] [2]
def c3_12 : XC := fun _ => .seq c3_11 (fun _ => .ret)
def c3_13 : XC := fun _ => .cond (xt 71) c3_12 (fun _ => .skip)
def c3_14 : XC := fun _ => .seq c3_10 c3_13
def c3_15 : XC := fun _ => .region [] [xo 72 (.mv (xt 0)),
 xo 73 (.callp 9 [(xt 72)]),
 xo 10 (.mv (xt 73))] [0,10]
def c3_16 : XC := fun _ => .region [] [xo 75 (.mv (xt 10)),
 xo 76 (.call 10 [(xt 75)]),
 xo 74 (.mv (xt 76)),
 xo 77 (.ext (xt 74) 0),
 xo 78 (.ext (xt 74) 1),
 xo 11 (.mv (xt 77)),
 xo 12 (.mv (xt 78))] [0,10,11,12]
def c3_17 : XC := fun _ => .region [] [xo 79 (.mv (xt 10)),
 xo 80 (.call 11 [(xt 79)])] [0,10,11,12,80]
def c3_18 : XC := fun _ => .region [] [xo 81 (.mv (xt 11)),
 xo 82 (.bin .lss (xt 81) (xi 0)),
 xo 83 (.mv (xt 82)),
 ⟨(some 84), .mv (xt 11), (some (83, false)), []⟩,
 ⟨(some 85), .mv (xt 10), (some (83, false)), []⟩,
 ⟨(some 86), .len false (xt 85), (some (83, false)), []⟩,
 ⟨(some 87), .bin .gtr (xt 84) (xt 86), (some (83, false)), []⟩,
 xo 88 (.pick (xt 83) (xb true) (xt 87))] [0,10,11,12,88]
def c3_19 : XC := fun _ => .region [] [xo 2 (.mv (xb false))] [2]
def c3_20 : XC := fun _ => .seq c3_19 (fun _ => .ret)
def c3_21 : XC := fun _ => .cond (xt 88) c3_20 (fun _ => .skip)
def c3_22 : XC := fun _ => .seq c3_18 c3_21
def c3_23 : XC := fun _ => .region [] [xo 89 (.mv (xt 11)),
 xo 90 (.mv (xt 0)),
 xo 91 (.call 12 [(xt 90), (xi 2)]),
 xo 92 (.mv (xt 10)),
 xo 93 (.len false (xt 92)),
 xo 94 (.mv (xt 11)),
 xo 95 (.bin .sub (xt 93) (xt 94)),
 xo 96 (.bin .add (xt 95) (xi 1)),
 xo 97 (.bin .rem (xt 91) (xt 96)),
 xo 98 (.bin .add (xt 89) (xt 97)),
 xo 13 (.mv (xt 98))] [0,10,11,12,13]
def c3_24 : XC := fun _ => .region [] [xo 100 (.mv (xt 10)),
 xo 101 (.mv (xt 13)),
 xo 102 (.slc false (xt 100) none (some (xt 101)) none 7),
 xo 103 (.mv (xt 11)),
 xo 104 (.mv (xt 12)),
 xo 105 (.call 6 [(xt 102), (xt 103), (xt 104)]),
 xo 99 (.mv (xt 105)),
 xo 106 (.ext (xt 99) 0),
 xo 107 (.ext (xt 99) 1),
 xo 14 (.mv (xt 106)),
 xo 15 (.mv (xt 107))] [0,10,11,12,14,15]
def c3_25 : XC := fun _ => .region [] [xo 108 (.mv (xt 12)),
 xo 109 (.len false (xt 108)),
 xo 110 (.bin .gtr (xt 109) (xi 3)),
 xo 111 (.mv (xt 110)),
 ⟨(some 112), .mv (xt 15), (some (111, false)), []⟩,
 ⟨(some 113), .not (xt 112), (some (111, false)), []⟩,
 xo 114 (.pick (xt 111) (xb true) (xt 113)),
 xo 115 (.mv (xt 114)),
 ⟨(some 116), .mv (xt 14), (some (115, false)), []⟩,
 ⟨(some 117), .len false (xt 116), (some (115, false)), []⟩,
 ⟨(some 118), .mv (xt 10), (some (115, false)), []⟩,
 ⟨(some 119), .len false (xt 118), (some (115, false)), []⟩,
 ⟨(some 120), .bin .neq (xt 117) (xt 119), (some (115, false)), []⟩,
 xo 121 (.pick (xt 115) (xb true) (xt 120)),
 xo 122 (.mv (xt 121)),
 ⟨(some 123), .mv (xt 14), (some (122, false)), []⟩,
 ⟨(some 124), .mv (xt 10), (some (122, false)), []⟩,
 ⟨(some 125), .call 8 [(xt 123), (xt 124)], (some (122, false)), []⟩,
 ⟨(some 126), .not (xt 125), (some (122, false)), []⟩,
 xo 127 (.pick (xt 122) (xb true) (xt 126)),
 xo 128 (.mv (xt 127)),
 ⟨(some 129), .mv (xt 11), (some (128, false)), []⟩,
 ⟨(some 130), .mv (xt 12), (some (128, false)), []⟩,
 ⟨(some 131), .mv (xt 10), (some (128, false)), []⟩,
 ⟨(some 132), .len false (xt 131), (some (128, false)), []⟩,
 ⟨(some 133), .call 13 [(xt 129), (xt 130), (xt 132)], (some (128, false)), []⟩,
 ⟨(some 134), .not (xt 133), (some (128, false)), []⟩,
 xo 135 (.pick (xt 128) (xb true) (xt 134))] [0,135]
def c3_26 : XC := fun _ => .region [] [xo 2 (.mv (xb false))] [2]
def c3_27 : XC := fun _ => .seq c3_26 (fun _ => .ret)
def c3_28 : XC := fun _ => .cond (xt 135) c3_27 (fun _ => .skip)
def c3_29 : XC := fun _ => .seq c3_25 c3_28
def c3_30 : XC := fun _ => .seq c3_24 c3_29
def c3_31 : XC := fun _ => .seq c3_23 c3_30
def c3_32 : XC := fun _ => .seq c3_22 c3_31
def c3_33 : XC := fun _ => .cond (xt 80) c3_32 (fun _ => .skip)
def c3_34 : XC := fun _ => .seq c3_17 c3_33
def c3_35 : XC := fun _ => .region [] [xo 137 (.mv (xt 0)),
 xo 138 (.callp 14 [(xt 137)]),
 xo 136 (.mv (xt 138)),
 xo 139 (.ext (xt 136) 0),
 xo 140 (.ext (xt 136) 1),
 xo 141 (.ext (xt 136) 2),
 xo 18 (.alloc [.int .i64 0, .int .i64 0, .int .i64 0, .int .i64 0, .int .i64 0, .int .i64 0, .int .i64 0]),
 xo 16 (.mv (xt 139)),
 xo 17 (.mv (xt 140)),
 xn (.sto (xt 18) (xt 141) 7)] [16,17,18]
def c3_36 : XC := fun _ => .region [] [xo 143 (.mv (xt 16)),
 xo 144 (.mv (xt 17)),
 xo 145 (.ld (xt 18) 7 true),
 xo 146 (.call 15 [(xt 143), (xt 144), (xt 145)]),
 xo 142 (.mv (xt 146)),
 xo 147 (.ext (xt 142) 0),
 xo 148 (.ext (xt 142) 1),
 xo 149 (.ext (xt 142) 2),
 xo 19 (.mv (xt 147)),
 xo 20 (.mv (xt 148)),
 xo 21 (.mv (xt 149))] [16,17,18,19,20,21]
def c3_37 : XC := fun _ => .region [] [xo 151 (.mv (xt 16)),
 xo 152 (.mv (xt 17)),
 xo 153 (.ld (xt 18) 7 true),
 xo 154 (.call 16 [(xt 151), (xt 152), (xt 153)]),
 xo 150 (.mv (xt 154)),
 xo 155 (.ext (xt 150) 0),
 xo 156 (.ext (xt 150) 1),
 xo 157 (.ext (xt 150) 2),
 xo 22 (.mv (xt 155)),
 xo 23 (.mv (xt 156)),
 xo 24 (.mv (xt 157))] [19,20,21,22,23,24]
def c3_38 : XC := fun _ => .region [] [xo 158 (.mv (xt 21)),
 xo 159 (.mv (xt 24)),
 xo 160 (.bbin .eql (xt 158) (xt 159)),
 xo 161 (.mv (xt 160)),
 ⟨(some 162), .mv (xt 19), (some (161, true)), []⟩,
 ⟨(some 163), .mv (xt 22), (some (161, true)), []⟩,
 ⟨(some 164), .bin .eql (xt 162) (xt 163), (some (161, true)), []⟩,
 xo 165 (.pick (xt 161) (xt 164) (xb false)),
 xo 166 (.mv (xt 165)),
 ⟨(some 167), .mv (xt 20), (some (166, true)), []⟩,
 ⟨(some 168), .len false (xt 167), (some (166, true)), []⟩,
 ⟨(some 169), .mv (xt 23), (some (166, true)), []⟩,
 ⟨(some 170), .len false (xt 169), (some (166, true)), []⟩,
 ⟨(some 171), .bin .eql (xt 168) (xt 170), (some (166, true)), []⟩,
 xo 172 (.pick (xt 166) (xt 171) (xb false)),
 xo 173 (.mv (xt 172)),
 ⟨(some 174), .mv (xt 20), (some (173, true)), []⟩,
 ⟨(some 175), .mv (xt 23), (some (173, true)), []⟩,
 ⟨(some 176), .call 8 [(xt 174), (xt 175)], (some (173, true)), []⟩,
 xo 177 (.pick (xt 173) (xt 176) (xb false)),
 xo 2 (.mv (xt 177))] [2]
def c3_39 : XC := fun _ => .seq c3_38 (fun _ => .ret)
def c3_40 : XC := fun _ => .seq c3_37 c3_39
def c3_41 : XC := fun _ => .seq c3_36 c3_40
def c3_42 : XC := fun _ => .seq c3_35 c3_41
def c3_43 : XC := fun _ => .seq c3_34 c3_42
def c3_44 : XC := fun _ => .seq c3_16 c3_43
def c3_45 : XC := fun _ => .seq c3_15 c3_44
def c3_46 : XC := fun _ => .seq c3_14 c3_45
def c3_47 : XC := fun _ => .seq c3_9 c3_46
def c3_48 : XC := fun _ => .seq c3_8 c3_47
def c3_49 : XC := fun _ => .seq c3_7 c3_48
def c3_50 : XC := fun _ => .seq c3_6 c3_49
def c3_51 : XC := fun _ => .seq c3_1 c3_50
def m_laws_FnTails : MCode := c3_51 ()
def h_laws_FnTails : Hints := [(0, [0], [], [], []), (1, [0,26], [], [], []), (2, [2], [], [], []), (3, [0,3,4,5], [], [], []), (4, [0,3,4,5,6,7], [], [], []), (5, [0,3,6,7,8,9], [], [], []), (6, [0,71], [], [], []), (7, [2], [], [], []), (8, [0,10], [], [], []), (9, [0,10,11,12], [], [], []), (10, [0,10,11,12,80], [], [], []), (11, [0,10,11,12,88], [], [], []), (12, [2], [], [], []), (13, [0,10,11,12,13], [], [], []), (14, [0,10,11,12,14,15], [], [], []), (15, [0,135], [], [], []), (16, [2], [], [], []), (17, [16,17,18], [], [], []), (18, [16,17,18,19,20,21], [], [], []), (19, [19,20,21,22,23,24], [], [], []), (20, [2], [], [], [])]
def r_laws_FnTails : List RV := [.t 2]
abbrev n_laws_FnTails : Nat := 3
theorem k_laws_FnTails : Known Pr mu n_laws_FnTails m_laws_FnTails r_laws_FnTails Go.Proofs.Try.f3.ntmps := .of h_laws_FnTails hm Go.Proofs.Try.func3
def c4_1 : XC := fun _ => .region [] [xo 2 (.mv (xb false))] [0]
def c4_2 : XC := fun _ => .region [] [xo 3 (.mv (xt 0)),
 xo 4 (.len false (xt 3)),
 xo 5 (.bin .gtr (xt 4) (xi 1048576)),
 xo 2 (.mv (xt 5))] [2]
def c4_3 : XC := fun _ => .seq c4_2 (fun _ => .ret)
def c4_4 : XC := fun _ => .seq c4_1 c4_3
def m_laws_big : MCode := c4_4 ()
def h_laws_big : Hints := [(0, [0], [], [], []), (1, [2], [], [], [])]
def r_laws_big : List RV := [.t 2]
abbrev n_laws_big : Nat := 4
theorem k_laws_big : Known Pr mu n_laws_big m_laws_big r_laws_big Go.Proofs.Try.f4.ntmps := .of h_laws_big hm Go.Proofs.Try.func4
def c5_1 : XC := fun _ => .region [] [xo 2 (.mv (.const (.slice none 0 0))),
 xo 3 (.mv (xi 0)),
 xo 4 (.mv (.const (.slice none 0 0)))] [0]
def c5_2 : XC := fun _ => .region [] [xo 9 (.mv (xt 0)),
 xo 10 (.calln 17 [(xt 9)]),
 xo 5 (.mv (xt 10))] [5]
def c5_3 : XC := fun _ => .region [] [xo 12 (.mv (xt 5)),
 xo 13 (.callp 18 [(xt 12)]),
 xo 11 (.mv (xt 13)),
 xo 14 (.ext (xt 11) 0),
 xo 15 (.ext (xt 11) 1),
 xo 16 (.ext (xt 11) 2),
 xo 6 (.mv (xt 14)),
 xo 7 (.mv (xt 15)),
 xo 8 (.mv (xt 16))] [5,6,7,8]
def c5_4 : XC := fun _ => .region [] [xo 17 (.mv (xt 5)),
 xo 18 (.callp 19 [(xt 17), (xi 5)])] [5,6,7,8,18]
def c5_5 : XC := fun _ => .region [] [xo 20 (.bin .eql (xt 18) (xi 0)),
 xo 19 (.mv (xt 20))] [5,6,7,8,18,19]
def c5_6 : XC := fun _ => .region [] [xo 21 (.mv (xt 5)),
 xo 22 (.callp 20 [(xt 21)]),
 xo 23 (.mv (xt 7)),
 xo 24 (.mv (xt 8)),
 xo 2 (.mv (xt 22)),
 xo 3 (.mv (xt 23)),
 xo 4 (.mv (xt 24))] [2,3,4]
def c5_7 : XC := fun _ => .seq c5_6 (fun _ => .ret)
def c5_8 : XC := fun _ => .region [] [xo 26 (.bin .eql (xt 18) (xi 1)),
 xo 25 (.mv (xt 26))] [5,6,7,8,25]
def c5_9 : XC := fun _ => .region [] [xo 27 (.mv (xt 6)),
 xo 28 (.mv (xt 7)),
 xo 29 (.mv (xt 8)),
 xo 2 (.mv (xt 27)),
 xo 3 (.mv (xt 28)),
 xo 4 (.mv (xt 29))] [2,3,4]
def c5_10 : XC := fun _ => .seq c5_9 (fun _ => .ret)
def c5_11 : XC := fun _ => .cond (xt 25) c5_10 (fun _ => .skip)
def c5_12 : XC := fun _ => .seq c5_8 c5_11
def c5_13 : XC := fun _ => .cond (xt 19) c5_7 c5_12
def c5_14 : XC := fun _ => .seq c5_5 c5_13
def c5_15 : XC := fun _ => .block 0 c5_14
def c5_16 : XC := fun _ => .seq c5_4 c5_15
def c5_17 : XC := fun _ => .region [] [xo 30 (.mv (xt 6)),
 xo 31 (.mv (xt 5)),
 xo 32 (.mv (xt 6)),
 xo 33 (.len false (xt 32)),
 xo 34 (.bin .add (xt 33) (xi 1)),
 xo 35 (.callp 19 [(xt 31), (xt 34)]),
 xo 36 (.slc false (xt 30) none (some (xt 35)) none 7),
 xo 37 (.call 21 [(xt 36)]),
 xo 38 (.mv (xt 7)),
 xo 39 (.mv (xt 8)),
 xo 2 (.mv (xt 37)),
 xo 3 (.mv (xt 38)),
 xo 4 (.mv (xt 39))] [2,3,4]
def c5_18 : XC := fun _ => .seq c5_17 (fun _ => .ret)
def c5_19 : XC := fun _ => .seq c5_16 c5_18
def c5_20 : XC := fun _ => .seq c5_3 c5_19
def c5_21 : XC := fun _ => .seq c5_2 c5_20
def c5_22 : XC := fun _ => .seq c5_1 c5_21
def m_spec_DrawJoinTail : MCode := c5_22 ()
def h_spec_DrawJoinTail : Hints := [(0, [0], [], [], []), (1, [5], [], [], []), (2, [5,6,7,8], [], [], []), (3, [5,6,7,8,18], [], [], []), (4, [5,6,7,8,18,19], [], [], []), (5, [2,3,4], [], [], []), (6, [5,6,7,8,25], [], [], []), (7, [2,3,4], [], [], []), (8, [2,3,4], [], [], [])]
def r_spec_DrawJoinTail : List RV := [.t 2, .t 3, .t 4]
abbrev n_spec_DrawJoinTail : Nat := 5
theorem k_spec_DrawJoinTail : Known Pr muc n_spec_DrawJoinTail m_spec_DrawJoinTail r_spec_DrawJoinTail Go.Proofs.Try.f5.ntmps := .of h_spec_DrawJoinTail hm Go.Proofs.Try.func5
def c6_1 : XC := fun _ => .region [] [xo 6 (.mv (.const (.slice none 0 0))),
 xo 7 (.mv (xb false))] [0,1,2]
def c6_2 : XC := fun _ => .region [] [xo 10 (.mv (xt 0)),
 xo 11 (.call 22 [(xt 10)]),
 xo 12 (.not (xt 11)),
 xo 13 (.mv (xt 12)),
 ⟨(some 14), .mv (xt 1), (some (13, false)), []⟩,
 ⟨(some 15), .mv (xt 2), (some (13, false)), []⟩,
 ⟨(some 16), .call 23 [(xt 14), (xt 15)], (some (13, false)), []⟩,
 ⟨(some 17), .not (xt 16), (some (13, false)), []⟩,
 xo 18 (.pick (xt 13) (xb true) (xt 17)),
 xo 19 (.mv (xt 18)),
 ⟨(some 20), .mv (xt 1), (some (19, false)), []⟩,
 ⟨(some 21), .mv (xt 0), (some (19, false)), []⟩,
 ⟨(some 22), .len false (xt 21), (some (19, false)), []⟩,
 ⟨(some 23), .bin .gtr (xt 20) (xt 22), (some (19, false)), []⟩,
 xo 24 (.pick (xt 19) (xb true) (xt 23))] [0,1,2,24]
def c6_3 : XC := fun _ => .region [] [xo 6 (.mv (.const (.slice none 0 0))),
 xo 7 (.mv (xb false))] [6,7]
def c6_4 : XC := fun _ => .seq c6_3 (fun _ => .ret)
def c6_5 : XC := fun _ => .cond (xt 24) c6_4 (fun _ => .skip)
def c6_6 : XC := fun _ => .seq c6_2 c6_5
def c6_7 : XC := fun _ => .region [] [xo 25 (.mv (xt 2)),
 xo 26 (.len false (xt 25)),
 xo 27 (.mv (xt 0)),
 xo 28 (.len false (xt 27)),
 xo 29 (.mv (xt 1)),
 xo 30 (.bin .sub (xt 28) (xt 29)),
 xo 31 (.mx false (xt 26) (xt 30)),
 xo 8 (.mv (xt 31))] [0,1,2,8]
def c6_8 : XC := fun _ => .region [] [xo 32 (.mv (xt 0)),
 xo 33 (.mv (xt 2)),
 xo 34 (.mv (xt 8)),
 xo 35 (.slc false (xt 33) (some (xt 34)) none none 7),
 xo 36 (.bsl 1 2 [.slice none 0 0] [(0, (xt 32)), (1, (xt 35))]),
 xo 37 (.call 24 [(xt 36)]),
 xo 9 (.mv (xt 37))] [0,1,2,8,9]
def c6_9 : XC := fun _ => .region [] [xo 38 (.mv (xt 0)),
 xo 39 (.mv (xt 1)),
 xo 40 (.mv (xt 1)),
 xo 41 (.mv (xt 8)),
 xo 42 (.bin .add (xt 40) (xt 41)),
 xo 43 (.slc false (xt 38) (some (xt 39)) (some (xt 42)) none 7),
 xo 44 (.mv (xt 2)),
 xo 45 (.mv (xt 8)),
 ⟨(some 46), .slc false (xt 44) none (some (xt 45)) none 7, none, [0, 1, 2, 3, 4, 5]⟩,
 xo 47 (.call 25 [(xt 43), (xt 46)]),
 xo 48 (.not (xt 47)),
 xo 49 (.mv (xt 48)),
 ⟨(some 50), .mv (xt 9), (some (49, false)), []⟩,
 ⟨(some 51), .call 22 [(xt 50)], (some (49, false)), []⟩,
 ⟨(some 52), .not (xt 51), (some (49, false)), []⟩,
 xo 53 (.pick (xt 49) (xb true) (xt 52))] [9,53]
def c6_10 : XC := fun _ => .region [] [xo 6 (.mv (.const (.slice none 0 0))),
 xo 7 (.mv (xb false))] [6,7]
def c6_11 : XC := fun _ => .seq c6_10 (fun _ => .ret)
def c6_12 : XC := fun _ => .cond (xt 53) c6_11 (fun _ => .skip)
def c6_13 : XC := fun _ => .seq c6_9 c6_12
def c6_14 : XC := fun _ => .region [] [xo 54 (.mv (xt 9)),
 xo 6 (.mv (xt 54)),
 xo 7 (.mv (xb true))] [6,7]
def c6_15 : XC := fun _ => .seq c6_14 (fun _ => .ret)
def c6_16 : XC := fun _ => .seq c6_13 c6_15
def c6_17 : XC := fun _ => .seq c6_8 c6_16
def c6_18 : XC := fun _ => .seq c6_7 c6_17
def c6_19 : XC := fun _ => .seq c6_6 c6_18
def c6_20 : XC := fun _ => .seq c6_1 c6_19
def m_impl_JoinTail : MCode := c6_20 ()
def h_impl_JoinTail : Hints := [(0, [0,1,2], [], [], []), (1, [0,1,2,24], [], [], []), (2, [6,7], [], [], []), (3, [0,1,2,8], [], [], []), (4, [0,1,2,8,9], [], [], []), (5, [9,53], [[],[],[],[],[],[],[],[],[0,1,2,3,4,5]], [], []), (6, [6,7], [], [], []), (7, [6,7], [], [], [])]
def r_impl_JoinTail : List RV := [.t 6, .t 7]
abbrev n_impl_JoinTail : Nat := 6
theorem k_impl_JoinTail : Known Pr mu n_impl_JoinTail m_impl_JoinTail r_impl_JoinTail Go.Proofs.Try.f6.ntmps := .of h_impl_JoinTail hm Go.Proofs.Try.func6
def c7_1 : XC := fun _ => .region [] [xo 6 (.mv (.const (.slice none 0 0))),
 xo 7 (.mv (xb false))] [0,1,2]
def c7_2 : XC := fun _ => .region [] [xo 10 (.mv (xt 0)),
 xo 11 (.call 11 [(xt 10)]),
 xo 12 (.not (xt 11)),
 xo 13 (.mv (xt 12)),
 ⟨(some 14), .mv (xt 1), (some (13, false)), []⟩,
 ⟨(some 15), .mv (xt 2), (some (13, false)), []⟩,
 ⟨(some 16), .call 26 [(xt 14), (xt 15)], (some (13, false)), []⟩,
 ⟨(some 17), .not (xt 16), (some (13, false)), []⟩,
 xo 18 (.pick (xt 13) (xb true) (xt 17)),
 xo 19 (.mv (xt 18)),
 ⟨(some 20), .mv (xt 1), (some (19, false)), []⟩,
 ⟨(some 21), .mv (xt 0), (some (19, false)), []⟩,
 ⟨(some 22), .len false (xt 21), (some (19, false)), []⟩,
 ⟨(some 23), .bin .gtr (xt 20) (xt 22), (some (19, false)), []⟩,
 xo 24 (.pick (xt 19) (xb true) (xt 23))] [0,1,2,24]
def c7_3 : XC := fun _ => .region [] [xo 25 (.bsl 7 0 [.int .i64 0, .int .i64 0, .int .i64 0, .int .i64 0, .int .i64 0, .int .i64 0, .int .i64 0] []),
 xo 6 (.mv (xt 25)),
 xo 7 (.mv (xb false))] [6,7]
def c7_4 : XC := fun _ => .seq c7_3 (fun _ => .ret)
def c7_5 : XC := fun _ => .cond (xt 24) c7_4 (fun _ => .skip)
def c7_6 : XC := fun _ => .seq c7_2 c7_5
def c7_7 : XC := fun _ => .region [] [xo 26 (.mv (xt 0)),
 xo 27 (.mv (xt 1)),
 xo 28 (.slc false (xt 26) (some (xt 27)) none none 7),
 xo 29 (.mv (xt 2)),
 xo 30 (.call 27 [(xt 28), (xt 29)]),
 xo 8 (.mv (xt 30))] [0,1,2,8]
def c7_8 : XC := fun _ => .region [] [xo 31 (.mv (xt 8)),
 xo 32 (.mv (xt 0)),
 xo 33 (.len false (xt 32)),
 xo 34 (.mv (xt 1)),
 xo 35 (.bin .sub (xt 33) (xt 34)),
 xo 36 (.mv (xt 2)),
 xo 37 (.len false (xt 36)),
 xo 38 (.mx false (xt 35) (xt 37)),
 xo 39 (.bin .lss (xt 31) (xt 38))] [0,2,8,39]
def c7_9 : XC := fun _ => .region [] [xo 40 (.bsl 7 0 [.int .i64 0, .int .i64 0, .int .i64 0, .int .i64 0, .int .i64 0, .int .i64 0, .int .i64 0] []),
 xo 6 (.mv (xt 40)),
 xo 7 (.mv (xb false))] [6,7]
def c7_10 : XC := fun _ => .seq c7_9 (fun _ => .ret)
def c7_11 : XC := fun _ => .cond (xt 39) c7_10 (fun _ => .skip)
def c7_12 : XC := fun _ => .seq c7_8 c7_11
def c7_13 : XC := fun _ => .region [] [xo 41 (.mv (xt 0)),
 xo 42 (.call 21 [(xt 41)]),
 xo 43 (.mv (xt 2)),
 xo 44 (.mv (xt 8)),
 ⟨(some 45), .slc false (xt 43) (some (xt 44)) none none 7, none, [0, 1]⟩,
 xo 46 (.app (xt 42) (xt 45) 7 56),
 xo 9 (.mv (xt 46))] [9]
def c7_14 : XC := fun _ => .region [] [xo 47 (.mv (xt 9)),
 xo 48 (.call 11 [(xt 47)]),
 xo 49 (.not (xt 48))] [9,49]
def c7_15 : XC := fun _ => .region [] [xo 50 (.bsl 7 0 [.int .i64 0, .int .i64 0, .int .i64 0, .int .i64 0, .int .i64 0, .int .i64 0, .int .i64 0] []),
 xo 6 (.mv (xt 50)),
 xo 7 (.mv (xb false))] [6,7]
def c7_16 : XC := fun _ => .seq c7_15 (fun _ => .ret)
def c7_17 : XC := fun _ => .cond (xt 49) c7_16 (fun _ => .skip)
def c7_18 : XC := fun _ => .seq c7_14 c7_17
def c7_19 : XC := fun _ => .region [] [xo 51 (.mv (xt 9)),
 xo 6 (.mv (xt 51)),
 xo 7 (.mv (xb true))] [6,7]
def c7_20 : XC := fun _ => .seq c7_19 (fun _ => .ret)
def c7_21 : XC := fun _ => .seq c7_18 c7_20
def c7_22 : XC := fun _ => .seq c7_13 c7_21
def c7_23 : XC := fun _ => .seq c7_12 c7_22
def c7_24 : XC := fun _ => .seq c7_7 c7_23
def c7_25 : XC := fun _ => .seq c7_6 c7_24
def c7_26 : XC := fun _ => .seq c7_1 c7_25
def m_spec_JoinTail : MCode := c7_26 ()
def h_spec_JoinTail : Hints := [(0, [0,1,2], [], [], []), (1, [0,1,2,24], [], [], []), (2, [6,7], [], [], []), (3, [0,1,2,8], [], [], []), (4, [0,2,8,39], [], [], []), (5, [6,7], [], [], []), (6, [9], [[],[],[],[],[0,1]], [], []), (7, [9,49], [], [], []), (8, [6,7], [], [], []), (9, [6,7], [], [], [])]
def r_spec_JoinTail : List RV := [.t 6, .t 7]
abbrev n_spec_JoinTail : Nat := 7
theorem k_spec_JoinTail : Known Pr mu n_spec_JoinTail m_spec_JoinTail r_spec_JoinTail Go.Proofs.Try.f7.ntmps := .of h_spec_JoinTail hm Go.Proofs.Try.func7
def c8_1 : XC := fun _ => .region [] [xo 4 (.mv (xb false))] [0,1]
def c8_2 : XC := fun _ => .region [] [xo 5 (.mv (xt 0)),
 xo 6 (.mv (xt 1)),
 xo 7 (.call 28 [(xt 5), (xt 6)]),
 xo 8 (.mv (xt 0)),
 xo 9 (.len false (xt 8)),
 xo 10 (.bin .eql (xt 7) (xt 9)),
 xo 4 (.mv (xt 10))] [4]
def c8_3 : XC := fun _ => .seq c8_2 (fun _ => .ret)
def c8_4 : XC := fun _ => .seq c8_1 c8_3
def m_impl_IsPrefix : MCode := c8_4 ()
def h_impl_IsPrefix : Hints := [(0, [0,1], [], [], []), (1, [4], [], [], [])]
def r_impl_IsPrefix : List RV := [.t 4]
abbrev n_impl_IsPrefix : Nat := 8
theorem k_impl_IsPrefix : Known Pr mu n_impl_IsPrefix m_impl_IsPrefix r_impl_IsPrefix Go.Proofs.Try.f8.ntmps := .of h_impl_IsPrefix hm Go.Proofs.Try.func8
def c9_1 : XC := fun _ => .region [] [xo 2 (.mv (.const (.slice none 0 0)))] [0]
def c9_2 : XC := fun _ => .region [] [xo 3 (.mv (xt 0)),
 xo 4 (.calln 17 [(xt 3)]),
 xo 5 (.callp 20 [(xt 4)]),
 xo 2 (.mv (xt 5))] [2]
def c9_3 : XC := fun _ => .seq c9_2 (fun _ => .ret)
def c9_4 : XC := fun _ => .seq c9_1 c9_3
def m_spec_DrawCutTail : MCode := c9_4 ()
def h_spec_DrawCutTail : Hints := [(0, [0], [], [], []), (1, [2], [], [], [])]
def r_spec_DrawCutTail : List RV := [.t 2]
abbrev n_spec_DrawCutTail : Nat := 9
theorem k_spec_DrawCutTail : Known Pr muc n_spec_DrawCutTail m_spec_DrawCutTail r_spec_DrawCutTail Go.Proofs.Try.f9.ntmps := .of h_spec_DrawCutTail hm Go.Proofs.Try.func9
def c10_1 : XC := fun _ => .region [] [xo 2 (.mv (xi 0)),
 xo 3 (.mv (.const (.slice none 0 0)))] [0]
def c10_2 : XC := fun _ => .region [] [xo 5 (.mv (xt 0)),
 xo 6 (.call 22 [(xt 5)]),
 xo 7 (.not (xt 6))] [0,7]
def c10_3 : XC := fun _ => .region [] [xo 8 (.bsl 7 0 [.int .i64 0, .int .i64 0, .int .i64 0, .int .i64 0, .int .i64 0, .int .i64 0, .int .i64 0] []),
 xo 2 (.mv (xi 0)),
 xo 3 (.mv (xt 8))] [2,3]
def c10_4 : XC := fun _ => .seq c10_3 (fun _ => .ret)
def c10_5 : XC := fun _ => .cond (xt 7) c10_4 (fun _ => .skip)
def c10_6 : XC := fun _ => .seq c10_2 c10_5
def c10_7 : XC := fun _ => .region [] [xo 9 (.mv (xt 0)),
 xo 10 (.len false (xt 9)),
 xo 11 (.bin .sub (xt 10) (xi 3)),
 xo 12 (.mx true (xi 0) (xt 11)),
 xo 4 (.mv (xt 12))] [0,4]
def c10_8 : XC := fun _ => .region [] [xo 13 (.mv (xt 4)),
 xo 14 (.mv (xt 0)),
 xo 15 (.mv (xt 4)),
 xo 16 (.slc false (xt 14) (some (xt 15)) none none 7),
 xo 17 (.call 29 [(xt 16)]),
 xo 2 (.mv (xt 13)),
 xo 3 (.mv (xt 17))] [2,3]
def c10_9 : XC := fun _ => .seq c10_8 (fun _ => .ret)
def c10_10 : XC := fun _ => .seq c10_7 c10_9
def c10_11 : XC := fun _ => .seq c10_6 c10_10
def c10_12 : XC := fun _ => .seq c10_1 c10_11
def m_impl_CutTail : MCode := c10_12 ()
def h_impl_CutTail : Hints := [(0, [0], [], [], []), (1, [0,7], [], [], []), (2, [2,3], [], [], []), (3, [0,4], [], [], []), (4, [2,3], [], [], [])]
def r_impl_CutTail : List RV := [.t 2, .t 3]
abbrev n_impl_CutTail : Nat := 10
theorem k_impl_CutTail : Known Pr mu n_impl_CutTail m_impl_CutTail r_impl_CutTail Go.Proofs.Try.f10.ntmps := .of h_impl_CutTail hm Go.Proofs.Try.func10
def c11_1 : XC := fun _ => .region [] [xo 2 (.mv (xb false))] [0]
def c11_2 : XC := fun _ => .region [] [xo 3 (.mv (xi 0))] [0,3]
def c11_3 : XC := fun _ => .region [] [xo 4 (.mv (xt 3)),
 xo 5 (.mv (xt 0)),
 xo 6 (.len false (xt 5)),
 xo 7 (.bin .lss (xt 4) (xt 6))] [0,3,7]
def c11_4 : XC := fun _ => .cond (xt 7) (fun _ => .skip) (fun _ => .exit 0)
def c11_5 : XC := fun _ => .seq c11_3 c11_4
def c11_6 : XC := fun _ => .region [] [xo 10 (.mv (xt 0)),
 xo 11 (.mv (xt 3)),
 xo 12 (.ia (xt 10) (xt 11) 7),
 xo 13 (.fa (xt 12) 0),
 xo 14 (.ld (xt 13) 1 false),
 xo 15 (.call 30 [(xt 14), (xi 1), (xi 20)]),
 xo 16 (.not (xt 15)),
 xo 17 (.mv (xt 16)),
 ⟨(some 18), .mv (xt 0), (some (17, false)), []⟩,
 ⟨(some 19), .mv (xt 3), (some (17, false)), []⟩,
 ⟨(some 20), .ia (xt 18) (xt 19) 7, (some (17, false)), []⟩,
 ⟨(some 21), .fa (xt 20) 1, (some (17, false)), []⟩,
 ⟨(some 22), .ld (xt 21) 6 true, (some (17, false)), []⟩,
 ⟨(some 23), .call 31 [(xt 22)], (some (17, false)), []⟩,
 ⟨(some 24), .not (xt 23), (some (17, false)), []⟩,
 xo 25 (.pick (xt 17) (xb true) (xt 24)),
 xo 26 (.mv (xt 25)),
 ⟨(some 27), .mv (xt 3), (some (26, false)), []⟩,
 ⟨(some 28), .bin .gtr (xt 27) (xi 0), (some (26, false)), []⟩,
 ⟨(some 29), .mv (xt 28), (some (26, false)), []⟩,
 ⟨(some 30), .mv (xt 0), (some (29, true)), []⟩,
 ⟨(some 31), .mv (xt 3), (some (29, true)), []⟩,
 ⟨(some 32), .bin .sub (xt 31) (xi 1), (some (29, true)), []⟩,
 ⟨(some 33), .ia (xt 30) (xt 32) 7, (some (29, true)), []⟩,
 ⟨(some 34), .fa (xt 33) 0, (some (29, true)), []⟩,
 ⟨(some 35), .ld (xt 34) 1 false, (some (29, true)), []⟩,
 ⟨(some 36), .mv (xt 0), (some (29, true)), []⟩,
 ⟨(some 37), .mv (xt 3), (some (29, true)), []⟩,
 ⟨(some 38), .ia (xt 36) (xt 37) 7, (some (29, true)), [20, 21, 22, 23, 24, 25]⟩,
 ⟨(some 39), .fa (xt 38) 0, (some (29, true)), [20, 21, 22, 23, 24, 25]⟩,
 ⟨(some 40), .ld (xt 39) 1 false, (some (29, true)), [20, 21, 22, 23, 24, 25]⟩,
 ⟨(some 41), .bin .gtr (xt 35) (xt 40), (some (29, true)), []⟩,
 ⟨(some 42), .pick (xt 29) (xt 41) (xb false), (some (26, false)), []⟩,
 xo 43 (.pick (xt 26) (xb true) (xt 42))] [0,3,43]
def c11_7 : XC := fun _ => .region [] [xo 2 (.mv (xb false))] [2]
def c11_8 : XC := fun _ => .seq c11_7 (fun _ => .ret)
def c11_9 : XC := fun _ => .cond (xt 43) c11_8 (fun _ => .skip)
def c11_10 : XC := fun _ => .seq c11_6 c11_9
def c11_11 : XC := fun _ => .block 1 c11_10
def c11_12 : XC := fun _ => .region [] [xo 8 (.mv (xt 3)),
 xo 9 (.bin .add (xt 8) (xi 1)),
 xo 3 (.mv (xt 9))] [0,3]
def c11_13 : XC := fun _ => .seq c11_11 c11_12
def c11_14 : XC := fun _ => .seq c11_5 c11_13
def c11_15 : XC := fun _ => .loop c11_14
def c11_16 : XC := fun _ => .block 0 c11_15
def c11_17 : XC := fun _ => .seq c11_2 c11_16
def c11_18 : XC := fun _ => .region [] [xo 44 (.mv (xt 0)),
 xo 45 (.len false (xt 44)),
 xo 46 (.bin .leq (xt 45) (xi 16)),
 xo 2 (.mv (xt 46))] [2]
def c11_19 : XC := fun _ => .seq c11_18 (fun _ => .ret)
def c11_20 : XC := fun _ => .seq c11_17 c11_19
def c11_21 : XC := fun _ => .seq c11_1 c11_20
def m_spec_IsLog : MCode := c11_21 ()
def h_spec_IsLog : Hints := [(0, [0], [], [], []), (1, [0,3], [], [], []), (2, [0,3,7], [], [], []), (4, [0,3,43], [[],[],[],[],[],[],[],[],[],[],[],[],[],[],[],[],[],[],[],[],[],[],[],[],[],[],[],[],[20,21,22,23,24,25],[20,21,22,23,24,25],[20,21,22,23,24,25]], [], []), (5, [2], [], [], []), (3, [0,3], [], [], []), (6, [2], [], [], [])]
def r_spec_IsLog : List RV := [.t 2]
abbrev n_spec_IsLog : Nat := 11
theorem k_spec_IsLog : Known Pr mu n_spec_IsLog m_spec_IsLog r_spec_IsLog Go.Proofs.Try.f11.ntmps := .of h_spec_IsLog hm Go.Proofs.Try.func11
def c12_1 : XC := fun _ => .region [] [xo 4 (.mv (xi 0))] [0,1]
def c12_2 : XC := fun _ => .region [] [xo 5 (.mv (xt 1)),
 xo 6 (.mv (xt 0)),
 xo 7 (.len false (xt 6)),
 xo 8 (.bin .lss (xt 5) (xt 7))] [0,1,8]
def c12_3 : XC := fun _ => .region [] [xo 9 (.mv (xt 0)),
 xo 10 (.mv (xt 1)),
 xo 11 (.ia (xt 9) (xt 10) 1),
 xo 12 (.ld (xt 11) 1 false),
 xo 13 (.conv .i64 (xt 12)),
 xo 4 (.mv (xt 13))] [4]
def c12_4 : XC := fun _ => .seq c12_3 (fun _ => .ret)
def c12_5 : XC := fun _ => .cond (xt 8) c12_4 (fun _ => .skip)
def c12_6 : XC := fun _ => .seq c12_2 c12_5
def c12_7 : XC := fun _ => .region [] [xo 14 (.mv (xt 1)),
 xo 15 (.bin .mul (xt 14) (xi 37)),
 xo 16 (.mv (xt 0)),
 xo 17 (.len false (xt 16)),
 xo 18 (.bin .mul (xt 17) (xi 11)),
 xo 19 (.bin .add (xt 15) (xt 18)),
 xo 20 (.bin .rem (xt 19) (xi 256)),
 xo 4 (.mv (xt 20))] [4]
def c12_8 : XC := fun _ => .seq c12_7 (fun _ => .ret)
def c12_9 : XC := fun _ => .seq c12_6 c12_8
def c12_10 : XC := fun _ => .seq c12_1 c12_9
def m_laws_at : MCode := c12_10 ()
def h_laws_at : Hints := [(0, [0,1], [], [], []), (1, [0,1,8], [], [], []), (2, [4], [], [], []), (3, [4], [], [], [])]
def r_laws_at : List RV := [.t 4]
abbrev n_laws_at : Nat := 12
theorem k_laws_at : Known Pr mu n_laws_at m_laws_at r_laws_at Go.Proofs.Try.f12.ntmps := .of h_laws_at hm Go.Proofs.Try.func12
def c13_1 : XC := fun _ => .region [] [xo 6 (.mv (xb false))] [0,1,2]
def c13_2 : XC := fun _ => .region [] [xo 7 (.mv (xt 0)),
 xo 8 (.mv (xt 1)),
 xo 9 (.call 23 [(xt 7), (xt 8)]),
 xo 10 (.mv (xt 9)),
 ⟨(some 11), .mv (xt 2), (some (10, true)), []⟩,
 ⟨(some 12), .mv (xt 0), (some (10, true)), []⟩,
 ⟨(some 13), .mv (xt 0), (some (10, true)), []⟩,
 ⟨(some 14), .mv (xt 1), (some (10, true)), []⟩,
 ⟨(some 15), .len false (xt 14), (some (10, true)), []⟩,
 ⟨(some 16), .bin .add (xt 13) (xt 15), (some (10, true)), []⟩,
 ⟨(some 17), .call 32 [(xt 11), (xt 12), (xt 16)], (some (10, true)), []⟩,
 xo 18 (.pick (xt 10) (xt 17) (xb false)),
 xo 6 (.mv (xt 18))] [6]
def c13_3 : XC := fun _ => .seq c13_2 (fun _ => .ret)
def c13_4 : XC := fun _ => .seq c13_1 c13_3
def m_impl_TailCovers : MCode := c13_4 ()
def h_impl_TailCovers : Hints := [(0, [0,1,2], [], [], []), (1, [6], [], [], [])]
def r_impl_TailCovers : List RV := [.t 6]
abbrev n_impl_TailCovers : Nat := 13
theorem k_impl_TailCovers : Known Pr mu n_impl_TailCovers m_impl_TailCovers r_impl_TailCovers Go.Proofs.Try.f13.ntmps := .of h_impl_TailCovers hm Go.Proofs.Try.func13
def c14_1 : XC := fun _ => .region [] [xo 2 (.mv (xi 0)),
 xo 3 (.mv (.const (.slice none 0 0))),
 xo 4 (.alloc [.int .i64 0, .int .i64 0, .int .i64 0, .int .i64 0, .int .i64 0, .int .i64 0, .int .i64 0])] [0,4]
def c14_2 : XC := fun _ => .region [] [xo 9 (.mv (xt 0)),
 xo 10 (.calln 17 [(xt 9)]),
 xo 5 (.mv (xt 10))] [4,5]
def c14_3 : XC := fun _ => .region [] [xo 12 (.mv (xt 5)),
 xo 13 (.callp 18 [(xt 12)]),
 xo 11 (.mv (xt 13)),
 xo 14 (.ext (xt 11) 0),
 xo 15 (.ext (xt 11) 1),
 xo 16 (.ext (xt 11) 2),
 xo 6 (.mv (xt 14)),
 xo 7 (.mv (xt 15)),
 xo 8 (.mv (xt 16))] [4,5,7,8]
def c14_4 : XC := fun _ => .region [] [xo 17 (.mv (xt 7)),
 xo 18 (.mv (xt 8)),
 xo 19 (.mv (xt 5)),
 xo 20 (.bsl 1 5 [.int .i64 0] [(0, (xi 1)), (1, (xi 9)), (2, (xi 9)), (3, (xi 20)), (4, (xi 21))]),
 xo 21 (.callp 33 [(xt 19), (xt 20)]),
 xo 22 (.mv (xt 5)),
 xo 23 (.callp 34 [(xt 22)]),
 xo 24 (.bld [.int .i64 0, .int .i64 0, .int .i64 0, .int .i64 0, .int .i64 0, .int .i64 0, .int .i64 0] [(0, 1, (xt 21)), (1, 6, (xt 23))]),
 xo 2 (.mv (xt 17)),
 xo 3 (.mv (xt 18)),
 xn (.stoc (xt 4) (xt 24) 7)] [2,3,4]
def c14_5 : XC := fun _ => .seq c14_4 (fun _ => .ret)
def c14_6 : XC := fun _ => .seq c14_3 c14_5
def c14_7 : XC := fun _ => .seq c14_2 c14_6
def c14_8 : XC := fun _ => .seq c14_1 c14_7
def m_spec_DrawPushTail : MCode := c14_8 ()
def h_spec_DrawPushTail : Hints := [(0, [0,4], [], [], []), (1, [4,5], [], [], []), (2, [4,5,7,8], [], [], []), (3, [2,3,4], [], [], [])]
def r_spec_DrawPushTail : List RV := [.t 2, .t 3, .c 4 7 true]
abbrev n_spec_DrawPushTail : Nat := 14
theorem k_spec_DrawPushTail : Known Pr muc n_spec_DrawPushTail m_spec_DrawPushTail r_spec_DrawPushTail Go.Proofs.Try.f14.ntmps := .of h_spec_DrawPushTail hm Go.Proofs.Try.func14
def c15_1 : XC := fun _ => .region [] [xo 5 (.box (xt 2)),
 xo 6 (.mv (xi 0)),
 xo 7 (.mv (.const (.slice none 0 0))),
 xo 8 (.mv (xb false))] [0,1,5]
def c15_2 : XC := fun _ => .region [] [xo 12 (.mv (xt 1)),
 xo 13 (.ld (xt 5) 7 true),
 xo 14 (.call 35 [(xt 12), (xt 13)]),
 xo 11 (.mv (xt 14)),
 xo 15 (.ext (xt 11) 0),
 xo 16 (.ext (xt 11) 1),
 xo 9 (.mv (xt 15)),
 xo 10 (.mv (xt 16))] [0,1,9,10]
def c15_3 : XC := fun _ => .region [] [xo 17 (.mv (xt 0)),
 xo 18 (.mv (xt 1)),
 xo 19 (.call 23 [(xt 17), (xt 18)]),
 xo 20 (.not (xt 19)),
 xo 21 (.mv (xt 20)),
 ⟨(some 22), .mv (xt 10), (some (21, false)), []⟩,
 ⟨(some 23), .not (xt 22), (some (21, false)), []⟩,
 xo 24 (.pick (xt 21) (xb true) (xt 23)),
 xo 25 (.mv (xt 24)),
 ⟨(some 26), .mv (xt 0), (some (25, false)), []⟩,
 ⟨(some 27), .mv (xt 9), (some (25, false)), []⟩,
 ⟨(some 28), .len false (xt 27), (some (25, false)), []⟩,
 ⟨(some 29), .bin .add (xt 26) (xt 28), (some (25, false)), []⟩,
 ⟨(some 30), .bin .gtr (xt 29) (xi 16), (some (25, false)), []⟩,
 xo 31 (.pick (xt 25) (xb true) (xt 30))] [0,1,9,31]
def c15_4 : XC := fun _ => .region [] [xo 32 (.mv (xt 0)),
 xo 33 (.mv (xt 1)),
 xo 34 (.call 29 [(xt 33)]),
 xo 6 (.mv (xt 32)),
 xo 7 (.mv (xt 34)),
 xo 8 (.mv (xb false))] [6,7,8]
def c15_5 : XC := fun _ => .seq c15_4 (fun _ => .ret)
def c15_6 : XC := fun _ => .cond (xt 31) c15_5 (fun _ => .skip)
def c15_7 : XC := fun _ => .seq c15_3 c15_6
def c15_8 : XC := fun _ => .region [] [xo 35 (.mv (xt 9)),
 xo 36 (.len false (xt 35)),
 xo 37 (.bin .gtr (xt 36) (xi 3))] [0,9,37]
def c15_9 : XC := fun _ => .region [] [xo 38 (.mv (xt 0)),
 xo 39 (.bin .add (xt 38) (xi 1)),
 xo 40 (.mv (xt 9)),
 ⟨(some 41), .slc false (xt 40) (some (xi 1)) none none 7, none, [0, 1]⟩,
 xo 6 (.mv (xt 39)),
 xo 7 (.mv (xt 41)),
 xo 8 (.mv (xb true))] [6,7,8]
def c15_10 : XC := fun _ => .seq c15_9 (fun _ => .ret)
def c15_11 : XC := fun _ => .cond (xt 37) c15_10 (fun _ => .skip)
def c15_12 : XC := fun _ => .seq c15_8 c15_11
def c15_13 : XC := fun _ => .region [] [xo 42 (.mv (xt 0)),
 xo 43 (.mv (xt 9)),
 xo 6 (.mv (xt 42)),
 xo 7 (.mv (xt 43)),
 xo 8 (.mv (xb true))] [6,7,8]
def c15_14 : XC := fun _ => .seq c15_13 (fun _ => .ret)
def c15_15 : XC := fun _ => .seq c15_12 c15_14
def c15_16 : XC := fun _ => .seq c15_7 c15_15
def c15_17 : XC := fun _ => .seq c15_2 c15_16
def c15_18 : XC := fun _ => .seq c15_1 c15_17
def m_impl_PushTail : MCode := c15_18 ()
def h_impl_PushTail : Hints := [(0, [0,1,5], [], [], []), (1, [0,1,9,10], [], [], []), (2, [0,1,9,31], [], [], []), (3, [6,7,8], [], [], []), (4, [0,9,37], [], [], []), (5, [6,7,8], [[],[],[],[0,1]], [], []), (6, [6,7,8], [], [], [])]
def r_impl_PushTail : List RV := [.t 6, .t 7, .t 8]
abbrev n_impl_PushTail : Nat := 15
theorem k_impl_PushTail : Known Pr mu n_impl_PushTail m_impl_PushTail r_impl_PushTail Go.Proofs.Try.f15.ntmps := .of h_impl_PushTail hm Go.Proofs.Try.func15
def c16_1 : XC := fun _ => .region [] [xo 5 (.box (xt 2)),
 xo 6 (.mv (xi 0)),
 xo 7 (.mv (.const (.slice none 0 0))),
 xo 8 (.mv (xb false))] [0,1,5]
def c16_2 : XC := fun _ => .region [] [xo 12 (.mv (xt 1)),
 xo 13 (.ld (xt 5) 7 true),
 xo 14 (.call 36 [(xt 12), (xt 13)]),
 xo 11 (.mv (xt 14)),
 xo 15 (.ext (xt 11) 0),
 xo 16 (.ext (xt 11) 1),
 xo 9 (.mv (xt 15)),
 xo 10 (.mv (xt 16))] [0,1,9,10]
def c16_3 : XC := fun _ => .region [] [xo 17 (.mv (xt 0)),
 xo 18 (.mv (xt 1)),
 xo 19 (.call 26 [(xt 17), (xt 18)]),
 xo 20 (.not (xt 19)),
 xo 21 (.mv (xt 20)),
 ⟨(some 22), .mv (xt 10), (some (21, false)), []⟩,
 ⟨(some 23), .not (xt 22), (some (21, false)), []⟩,
 xo 24 (.pick (xt 21) (xb true) (xt 23)),
 xo 25 (.mv (xt 24)),
 ⟨(some 26), .mv (xt 0), (some (25, false)), []⟩,
 ⟨(some 27), .mv (xt 9), (some (25, false)), []⟩,
 ⟨(some 28), .len false (xt 27), (some (25, false)), []⟩,
 ⟨(some 29), .bin .add (xt 26) (xt 28), (some (25, false)), []⟩,
 ⟨(some 30), .bin .gtr (xt 29) (xi 16), (some (25, false)), []⟩,
 xo 31 (.pick (xt 25) (xb true) (xt 30))] [0,1,9,31]
def c16_4 : XC := fun _ => .region [] [xo 32 (.mv (xt 0)),
 xo 33 (.mv (xt 1)),
 xo 34 (.call 21 [(xt 33)]),
 xo 6 (.mv (xt 32)),
 xo 7 (.mv (xt 34)),
 xo 8 (.mv (xb false))] [6,7,8]
def c16_5 : XC := fun _ => .seq c16_4 (fun _ => .ret)
def c16_6 : XC := fun _ => .cond (xt 31) c16_5 (fun _ => .skip)
def c16_7 : XC := fun _ => .seq c16_3 c16_6
def c16_8 : XC := fun _ => .region [] [xo 35 (.mv (xt 9)),
 xo 36 (.len false (xt 35)),
 xo 37 (.bin .gtr (xt 36) (xi 3))] [0,9,37]
def c16_9 : XC := fun _ => .region [] [xo 38 (.mv (xt 0)),
 xo 39 (.bin .add (xt 38) (xi 1)),
 xo 40 (.mv (xt 9)),
 xo 41 (.slc false (xt 40) (some (xi 1)) none none 7),
 xo 42 (.call 21 [(xt 41)]),
 xo 6 (.mv (xt 39)),
 xo 7 (.mv (xt 42)),
 xo 8 (.mv (xb true))] [6,7,8]
def c16_10 : XC := fun _ => .seq c16_9 (fun _ => .ret)
def c16_11 : XC := fun _ => .cond (xt 37) c16_10 (fun _ => .skip)
def c16_12 : XC := fun _ => .seq c16_8 c16_11
def c16_13 : XC := fun _ => .region [] [xo 43 (.mv (xt 0)),
 xo 44 (.mv (xt 9)),
 xo 6 (.mv (xt 43)),
 xo 7 (.mv (xt 44)),
 xo 8 (.mv (xb true))] [6,7,8]
def c16_14 : XC := fun _ => .seq c16_13 (fun _ => .ret)
def c16_15 : XC := fun _ => .seq c16_12 c16_14
def c16_16 : XC := fun _ => .seq c16_7 c16_15
def c16_17 : XC := fun _ => .seq c16_2 c16_16
def c16_18 : XC := fun _ => .seq c16_1 c16_17
def m_spec_PushTail : MCode := c16_18 ()
def h_spec_PushTail : Hints := [(0, [0,1,5], [], [], []), (1, [0,1,9,10], [], [], []), (2, [0,1,9,31], [], [], []), (3, [6,7,8], [], [], []), (4, [0,9,37], [], [], []), (5, [6,7,8], [], [], []), (6, [6,7,8], [], [], [])]
def r_spec_PushTail : List RV := [.t 6, .t 7, .t 8]
abbrev n_spec_PushTail : Nat := 16
theorem k_spec_PushTail : Known Pr mu n_spec_PushTail m_spec_PushTail r_spec_PushTail Go.Proofs.Try.f16.ntmps := .of h_spec_PushTail hm Go.Proofs.Try.func16
def c17_1 : XC := fun _ => .region [] [xo 2 (.mv (.const (.pointer none)))] [0]
def c17_2 : XC := fun _ => .region [] [xo 5 (.mv (xt 0)),
 xo 6 (.len false (xt 5)),
 xo 7 (.bin .add (xi 10101) (xt 6)),
 xo 3 (.mv (xt 7))] [0,3]
def c17_3 : XC := fun _ => .region [] [xo 4 (.mv (xi 0))] [0,3,4]
def c17_4 : XC := fun _ => .region [] [xo 8 (.mv (xt 4)),
 xo 9 (.mv (xt 0)),
 xo 10 (.len false (xt 9)),
 xo 11 (.bin .lss (xt 8) (xt 10)),
 xo 12 (.mv (xt 11)),
 ⟨(some 13), .mv (xt 4), (some (12, true)), []⟩,
 ⟨(some 14), .bin .lss (xt 13) (xi 4000), (some (12, true)), []⟩,
 xo 15 (.pick (xt 12) (xt 14) (xb false))] [0,3,4,15]
def c17_5 : XC := fun _ => .cond (xt 15) (fun _ => .skip) (fun _ => .exit 0)
def c17_6 : XC := fun _ => .seq c17_4 c17_5
def c17_7 : XC := fun _ => .region [] [xo 18 (.mv (xt 3)),
 xo 19 (.bin .mul (xt 18) (xi 131)),
 xo 20 (.mv (xt 0)),
 xo 21 (.mv (xt 4)),
 xo 22 (.ia (xt 20) (xt 21) 1),
 xo 23 (.ld (xt 22) 1 false),
 xo 24 (.conv .i64 (xt 23)),
 xo 25 (.bin .add (xt 19) (xt 24)),
 xo 26 (.bin .add (xt 25) (xi 7)),
 xo 27 (.bit .and (xt 26) (xi 1073741823)),
 xo 3 (.mv (xt 27))] [0,3,4]
def c17_8 : XC := fun _ => .block 1 c17_7
def c17_9 : XC := fun _ => .region [] [xo 16 (.mv (xt 4)),
 xo 17 (.bin .add (xt 16) (xi 1)),
 xo 4 (.mv (xt 17))] [0,3,4]
def c17_10 : XC := fun _ => .seq c17_8 c17_9
def c17_11 : XC := fun _ => .seq c17_6 c17_10
def c17_12 : XC := fun _ => .loop c17_11
def c17_13 : XC := fun _ => .block 0 c17_12
def c17_14 : XC := fun _ => .seq c17_3 c17_13
def c17_15 : XC := fun _ => .region [] [xo 28 (.mv (xt 0)),
 xo 29 (.mv (xt 3)),
 xo 30 (.bld [.slice none 0 0, .int .i64 0, .int .i64 0] [(0, 1, (xt 28)), (2, 1, (xt 29))]),
 xo 31 (.box (xt 30)),
 xo 2 (.mv (xt 31))] [2]
def c17_16 : XC := fun _ => .seq c17_15 (fun _ => .ret)
def c17_17 : XC := fun _ => .seq c17_14 c17_16
def c17_18 : XC := fun _ => .seq c17_2 c17_17
def c17_19 : XC := fun _ => .seq c17_1 c17_18
def m_spec_l1New : MCode := c17_19 ()
def h_spec_l1New : Hints := [(0, [0], [], [], []), (1, [0,3], [], [], []), (2, [0,3,4], [], [], []), (3, [0,3,4,15], [], [], []), (5, [0,3,4], [], [], []), (4, [0,3,4], [], [], []), (6, [2], [], [], [])]
def r_spec_l1New : List RV := [.t 2]
abbrev n_spec_l1New : Nat := 17
theorem k_spec_l1New : Known Pr mu n_spec_l1New m_spec_l1New r_spec_l1New Go.Proofs.Try.f17.ntmps := .of h_spec_l1New hm Go.Proofs.Try.func17
def c18_1 : XC := fun _ => .region [] [xo 2 (.mv (.const (.slice none 0 0))),
 xo 3 (.mv (xi 0)),
 xo 4 (.mv (.const (.slice none 0 0)))] [0]
def c18_2 : XC := fun _ => .region [] [xo 8 (.mv (xt 0)),
 xo 9 (.callp 37 [(xt 8)]),
 xo 5 (.mv (xt 9))] [0,5]
def c18_3 : XC := fun _ => .region [] [xo 11 (.mv (xt 5)),
 xo 12 (.call 38 [(xt 11)]),
 xo 10 (.mv (xt 12)),
 xo 13 (.ext (xt 10) 0),
 xo 14 (.ext (xt 10) 1),
 xo 6 (.mv (xt 13)),
 xo 7 (.mv (xt 14))] [0,5,6,7]
def c18_4 : XC := fun _ => .region [] [xo 15 (.mv (xt 0)),
 xo 16 (.callp 19 [(xt 15), (xi 14)])] [0,5,6,7,16]
def c18_5 : XC := fun _ => .region [] [xo 18 (.bin .eql (xt 16) (xi 0)),
 xo 17 (.mv (xt 18))] [0,5,6,7,16,17]
def c18_6 : XC := fun _ => .region [] [xo 19 (.mv (xt 0)),
 xo 20 (.bsl 1 5 [.int .i64 0] [(0, (xi (-1))), (1, (xi 0)), (2, (xi 1)), (3, (xi 14)), (4, (xi 9223372036854775807))]),
 xo 21 (.callp 33 [(xt 19), (xt 20)]),
 xo 6 (.mv (xt 21))] [5,6,7]
def c18_7 : XC := fun _ => .region [] [xo 23 (.bin .eql (xt 16) (xi 1)),
 xo 22 (.mv (xt 23))] [0,5,6,7,22]
def c18_8 : XC := fun _ => .region [] [xo 24 (.mv (xt 0)),
 xo 25 (.callp 20 [(xt 24)]),
 xo 7 (.mv (xt 25))] [5,6,7]
def c18_9 : XC := fun _ => .cond (xt 22) c18_8 (fun _ => .skip)
def c18_10 : XC := fun _ => .seq c18_7 c18_9
def c18_11 : XC := fun _ => .cond (xt 17) c18_6 c18_10
def c18_12 : XC := fun _ => .seq c18_5 c18_11
def c18_13 : XC := fun _ => .block 0 c18_12
def c18_14 : XC := fun _ => .seq c18_4 c18_13
def c18_15 : XC := fun _ => .region [] [xo 26 (.mv (xt 5)),
 xo 27 (.mv (xt 6)),
 xo 28 (.mv (xt 7)),
 xo 2 (.mv (xt 26)),
 xo 3 (.mv (xt 27)),
 xo 4 (.mv (xt 28))] [2,3,4]
def c18_16 : XC := fun _ => .seq c18_15 (fun _ => .ret)
def c18_17 : XC := fun _ => .seq c18_14 c18_16
def c18_18 : XC := fun _ => .seq c18_3 c18_17
def c18_19 : XC := fun _ => .seq c18_2 c18_18
def c18_20 : XC := fun _ => .seq c18_1 c18_19
def m_spec_l15Tail : MCode := c18_20 ()
def h_spec_l15Tail : Hints := [(0, [0], [], [], []), (1, [0,5], [], [], []), (2, [0,5,6,7], [], [], []), (3, [0,5,6,7,16], [], [], []), (4, [0,5,6,7,16,17], [], [], []), (5, [5,6,7], [], [], []), (6, [0,5,6,7,22], [], [], []), (7, [5,6,7], [], [], []), (8, [2,3,4], [], [], [])]
def r_spec_l15Tail : List RV := [.t 2, .t 3, .t 4]
abbrev n_spec_l15Tail : Nat := 18
theorem k_spec_l15Tail : Known Pr mu n_spec_l15Tail m_spec_l15Tail r_spec_l15Tail Go.Proofs.Try.f18.ntmps := .of h_spec_l15Tail hm Go.Proofs.Try.func18
def c19_1 : XC := fun _ => .region [] [xo 4 (.mv (xi 0))] [0,1]
def c19_2 : XC := fun _ => .region [] [xo 9 (.mv (xt 1)),
 xo 10 (.bin .leq (xt 9) (xi 0))] [0,1,10]
def c19_3 : XC := fun _ => .region [] [xo 4 (.mv (xi 0))] [4]
def c19_4 : XC := fun _ => .seq c19_3 (fun _ => .ret)
def c19_5 : XC := fun _ => .cond (xt 10) c19_4 (fun _ => .skip)
def c19_6 : XC := fun _ => .seq c19_2 c19_5
def c19_7 : XC := fun _ => .region [] [xo 11 (.mv (xt 1)),
 xo 12 (.bin .leq (xt 11) (xi 256))] [0,1,12]
def c19_8 : XC := fun _ => .region [] [xo 13 (.mv (xt 0)),
 xo 14 (.callp 39 [(xt 13)]),
 xo 15 (.mv (xt 1)),
 xo 16 (.bin .rem (xt 14) (xt 15)),
 xo 4 (.mv (xt 16))] [4]
def c19_9 : XC := fun _ => .seq c19_8 (fun _ => .ret)
def c19_10 : XC := fun _ => .cond (xt 12) c19_9 (fun _ => .skip)
def c19_11 : XC := fun _ => .seq c19_7 c19_10
def c19_12 : XC := fun _ => .region [] [xo 17 (.mv (xt 0)),
 xo 18 (.callp 39 [(xt 17)]),
 xo 5 (.mv (xt 18))] [0,1,5]
def c19_13 : XC := fun _ => .region [] [xo 19 (.mv (xt 0)),
 xo 20 (.callp 39 [(xt 19)]),
 xo 6 (.mv (xt 20))] [0,1,5,6]
def c19_14 : XC := fun _ => .region [] [xo 21 (.mv (xt 0)),
 xo 22 (.callp 39 [(xt 21)]),
 xo 7 (.mv (xt 22))] [0,1,5,6,7]
def c19_15 : XC := fun _ => .region [] [xo 23 (.mv (xt 0)),
 xo 24 (.callp 39 [(xt 23)]),
 xo 8 (.mv (xt 24))] [1,5,6,7,8]
def c19_16 : XC := fun _ => .region [] [xo 25 (.mv (xt 5)),
 xo 26 (.bin .mul (xt 25) (xi 16777216)),
 xo 27 (.mv (xt 6)),
 xo 28 (.bin .mul (xt 27) (xi 65536)),
 xo 29 (.bin .add (xt 26) (xt 28)),
 xo 30 (.mv (xt 7)),
 xo 31 (.bin .mul (xt 30) (xi 256)),
 xo 32 (.bin .add (xt 29) (xt 31)),
 xo 33 (.mv (xt 8)),
 xo 34 (.bin .add (xt 32) (xt 33)),
 xo 35 (.mv (xt 1)),
 xo 36 (.bin .rem (xt 34) (xt 35)),
 xo 4 (.mv (xt 36))] [4]
def c19_17 : XC := fun _ => .seq c19_16 (fun _ => .ret)
def c19_18 : XC := fun _ => .seq c19_15 c19_17
def c19_19 : XC := fun _ => .seq c19_14 c19_18
def c19_20 : XC := fun _ => .seq c19_13 c19_19
def c19_21 : XC := fun _ => .seq c19_12 c19_20
def c19_22 : XC := fun _ => .seq c19_11 c19_21
def c19_23 : XC := fun _ => .seq c19_6 c19_22
def c19_24 : XC := fun _ => .seq c19_1 c19_23
def m_spec_l1Below : MCode := c19_24 ()
def h_spec_l1Below : Hints := [(0, [0,1], [], [], []), (1, [0,1,10], [], [], []), (2, [4], [], [], []), (3, [0,1,12], [], [], []), (4, [4], [], [], []), (5, [0,1,5], [], [], []), (6, [0,1,5,6], [], [], []), (7, [0,1,5,6,7], [], [], []), (8, [1,5,6,7,8], [], [], []), (9, [4], [], [], [])]
def r_spec_l1Below : List RV := [.t 4]
abbrev n_spec_l1Below : Nat := 19
theorem k_spec_l1Below : Known Pr mu n_spec_l1Below m_spec_l1Below r_spec_l1Below Go.Proofs.Try.f19.ntmps := .of h_spec_l1Below hm Go.Proofs.Try.func19
def c20_1 : XC := fun _ => .region [] [xo 2 (.mv (.const (.slice none 0 0)))] [0]
def c20_2 : XC := fun _ => .region [] [xo 5 (.mv (xt 0)),
 xo 6 (.callp 37 [(xt 5)]),
 xo 3 (.mv (xt 6))] [0,3]
def c20_3 : XC := fun _ => .region [] [xo 7 (.mv (xt 0)),
 xo 8 (.callp 19 [(xt 7), (xi 14)])] [0,3,8]
def c20_4 : XC := fun _ => .region [] [xo 10 (.bin .eql (xt 8) (xi 0)),
 xo 9 (.mv (xt 10))] [0,3,8,9]
def c20_5 : XC := fun _ => .region [] [xo 11 (.mv (xt 3)),
 xo 12 (.mv (xt 0)),
 xo 13 (.bsl 1 4 [.int .i64 0] [(0, (xi 0)), (1, (xi 1)), (2, (xi 20)), (3, (xi 21))]),
 xo 14 (.callp 33 [(xt 12), (xt 13)]),
 xo 15 (.mv (xt 0)),
 xo 16 (.callp 34 [(xt 15)]),
 xo 17 (.bld [.int .i64 0, .int .i64 0, .int .i64 0, .int .i64 0, .int .i64 0, .int .i64 0, .int .i64 0] [(0, 1, (xt 14)), (1, 6, (xt 16))]),
 xo 18 (.bsl 7 1 [.int .i64 0, .int .i64 0, .int .i64 0, .int .i64 0, .int .i64 0, .int .i64 0, .int .i64 0] [(0, (xt 17))]),
 xo 19 (.app (xt 11) (xt 18) 7 56),
 xo 3 (.mv (xt 19))] [3]
def c20_6 : XC := fun _ => .region [] [xo 21 (.bin .eql (xt 8) (xi 1)),
 xo 20 (.mv (xt 21))] [0,3,20]
def c20_7 : XC := fun _ => .region [] [xo 22 (.mv (xt 3)),
 xo 23 (.len false (xt 22)),
 xo 24 (.bin .lss (xt 23) (xi 17))] [0,3,24]
def c20_8 : XC := fun _ => .cond (xt 24) (fun _ => .skip) (fun _ => .exit 1)
def c20_9 : XC := fun _ => .seq c20_7 c20_8
def c20_10 : XC := fun _ => .region [] [xo 25 (.mv (xt 0)),
 xo 26 (.callp 40 [(xt 25)]),
 xo 4 (.alloc [.int .i64 0, .int .i64 0, .int .i64 0, .int .i64 0, .int .i64 0, .int .i64 0]),
 xn (.sto (xt 4) (xt 26) 6)] [0,3,4]
def c20_11 : XC := fun _ => .region [] [xo 27 (.mv (xt 3)),
 xo 28 (.ld (xt 4) 6 true),
 xo 29 (.bld [.int .i64 0, .int .i64 0, .int .i64 0, .int .i64 0, .int .i64 0, .int .i64 0, .int .i64 0] [(0, 1, (xi 20)), (1, 6, (xt 28))]),
 xo 30 (.bsl 7 1 [.int .i64 0, .int .i64 0, .int .i64 0, .int .i64 0, .int .i64 0, .int .i64 0, .int .i64 0] [(0, (xt 29))]),
 xo 31 (.app (xt 27) (xt 30) 7 56),
 xo 3 (.mv (xt 31))] [0,3]
def c20_12 : XC := fun _ => .seq c20_10 c20_11
def c20_13 : XC := fun _ => .block 2 c20_12
def c20_14 : XC := fun _ => .seq c20_9 c20_13
def c20_15 : XC := fun _ => .loop c20_14
def c20_16 : XC := fun _ => .block 1 c20_15
def c20_17 : XC := fun _ => .cond (xt 20) c20_16 (fun _ => .skip)
def c20_18 : XC := fun _ => .seq c20_6 c20_17
def c20_19 : XC := fun _ => .cond (xt 9) c20_5 c20_18
def c20_20 : XC := fun _ => .seq c20_4 c20_19
def c20_21 : XC := fun _ => .block 0 c20_20
def c20_22 : XC := fun _ => .seq c20_3 c20_21
def c20_23 : XC := fun _ => .region [] [xo 32 (.mv (xt 3)),
 xo 2 (.mv (xt 32))] [2]
def c20_24 : XC := fun _ => .seq c20_23 (fun _ => .ret)
def c20_25 : XC := fun _ => .seq c20_22 c20_24
def c20_26 : XC := fun _ => .seq c20_2 c20_25
def c20_27 : XC := fun _ => .seq c20_1 c20_26
def m_spec_l5Any : MCode := c20_27 ()
def h_spec_l5Any : Hints := [(0, [0], [], [], []), (1, [0,3], [], [], []), (2, [0,3,8], [], [], []), (3, [0,3,8,9], [], [], []), (4, [3], [], [], []), (5, [0,3,20], [], [], []), (6, [0,3,24], [], [], []), (7, [0,3,4], [], [], []), (8, [0,3], [], [], []), (9, [2], [], [], [])]
def r_spec_l5Any : List RV := [.t 2]
abbrev n_spec_l5Any : Nat := 20
theorem k_spec_l5Any : Known Pr mu n_spec_l5Any m_spec_l5Any r_spec_l5Any Go.Proofs.Try.f20.ntmps := .of h_spec_l5Any hm Go.Proofs.Try.func20
def c21_1 : XC := fun _ => .region [] [xo 2 (.mv (.const (.slice none 0 0)))] [0]
def c21_2 : XC := fun _ => .region [] [xo 3 (.bsl 7 0 [.int .i64 0, .int .i64 0, .int .i64 0, .int .i64 0, .int .i64 0, .int .i64 0, .int .i64 0] []),
 xo 4 (.mv (xt 0)),
 xo 5 (.app (xt 3) (xt 4) 7 56),
 xo 2 (.mv (xt 5))] [2]
def c21_3 : XC := fun _ => .seq c21_2 (fun _ => .ret)
def c21_4 : XC := fun _ => .seq c21_1 c21_3
def m_spec_l5Copy : MCode := c21_4 ()
def h_spec_l5Copy : Hints := [(0, [0], [], [], []), (1, [2], [], [], [])]
def r_spec_l5Copy : List RV := [.t 2]
abbrev n_spec_l5Copy : Nat := 21
theorem k_spec_l5Copy : Known Pr mu n_spec_l5Copy m_spec_l5Copy r_spec_l5Copy Go.Proofs.Try.f21.ntmps := .of h_spec_l5Copy hm Go.Proofs.Try.func21
def c22_1 : XC := fun _ => .region [] [xo 2 (.mv (xb false))] [0]
def c22_2 : XC := fun _ => .region [] [xo 5 (.mv (xt 0)),
 xo 6 (.len false (xt 5)),
 xo 7 (.mv (xi 0))] [0,5,6,7]
def c22_3 : XC := fun _ => .region [] [xo 8 (.bin .lss (xt 7) (xt 6))] [0,5,6,7,8]
def c22_4 : XC := fun _ => .cond (xt 8) (fun _ => .skip) (fun _ => .exit 0)
def c22_5 : XC := fun _ => .region [] [xo 9 (.mv (xt 7)),
 xo 10 (.ia (xt 5) (xt 7) 7),
 xo 11 (.ld (xt 10) 7 true),
 xo 4 (.alloc [.int .i64 0, .int .i64 0, .int .i64 0, .int .i64 0, .int .i64 0, .int .i64 0, .int .i64 0]),
 xo 3 (.mv (xt 9)),
 xn (.sto (xt 4) (xt 11) 7)] [0,3,4,5,6,7]
def c22_6 : XC := fun _ => .region [] [xo 12 (.fa (xt 4) 0),
 xo 13 (.ld (xt 12) 1 false),
 xo 14 (.call 32 [(xt 13), (xi 1), (xi 20)]),
 xo 15 (.not (xt 14)),
 xo 16 (.mv (xt 15)),
 ⟨(some 17), .mv (xt 3), (some (16, false)), []⟩,
 ⟨(some 18), .bin .gtr (xt 17) (xi 0), (some (16, false)), []⟩,
 ⟨(some 19), .mv (xt 18), (some (16, false)), []⟩,
 ⟨(some 20), .fa (xt 4) 0, (some (19, true)), []⟩,
 ⟨(some 21), .ld (xt 20) 1 false, (some (19, true)), []⟩,
 ⟨(some 22), .mv (xt 0), (some (19, true)), []⟩,
 ⟨(some 23), .mv (xt 3), (some (19, true)), []⟩,
 ⟨(some 24), .bin .sub (xt 23) (xi 1), (some (19, true)), []⟩,
 ⟨(some 25), .ia (xt 22) (xt 24) 7, (some (19, true)), [8, 9]⟩,
 ⟨(some 26), .fa (xt 25) 0, (some (19, true)), [8, 9]⟩,
 ⟨(some 27), .ld (xt 26) 1 false, (some (19, true)), [8, 9]⟩,
 ⟨(some 28), .bin .lss (xt 21) (xt 27), (some (19, true)), []⟩,
 ⟨(some 29), .pick (xt 19) (xt 28) (xb false), (some (16, false)), []⟩,
 xo 30 (.pick (xt 16) (xb true) (xt 29)),
 xo 31 (.mv (xt 30)),
 ⟨(some 32), .fa (xt 4) 1, (some (31, false)), []⟩,
 ⟨(some 33), .ld (xt 32) 6 true, (some (31, false)), []⟩,
 ⟨(some 34), .call 41 [(xt 33)], (some (31, false)), []⟩,
 ⟨(some 35), .not (xt 34), (some (31, false)), []⟩,
 xo 36 (.pick (xt 31) (xb true) (xt 35))] [0,5,6,7,36]
def c22_7 : XC := fun _ => .region [] [xo 2 (.mv (xb false))] [2]
def c22_8 : XC := fun _ => .seq c22_7 (fun _ => .ret)
def c22_9 : XC := fun _ => .cond (xt 36) c22_8 (fun _ => .skip)
def c22_10 : XC := fun _ => .seq c22_6 c22_9
def c22_11 : XC := fun _ => .seq c22_5 c22_10
def c22_12 : XC := fun _ => .block 1 c22_11
def c22_13 : XC := fun _ => .region [] [xo 37 (.bin .add (xt 7) (xi 1)),
 xo 7 (.mv (xt 37))] [0,5,6,7]
def c22_14 : XC := fun _ => .seq c22_12 c22_13
def c22_15 : XC := fun _ => .seq c22_4 c22_14
def c22_16 : XC := fun _ => .seq c22_3 c22_15
def c22_17 : XC := fun _ => .loop c22_16
def c22_18 : XC := fun _ => .block 0 c22_17
def c22_19 : XC := fun _ => .seq c22_2 c22_18
def c22_20 : XC := fun _ => .region [] [xo 38 (.mv (xt 0)),
 xo 39 (.len false (xt 38)),
 xo 40 (.bin .leq (xt 39) (xi 16)),
 xo 2 (.mv (xt 40))] [2]
def c22_21 : XC := fun _ => .seq c22_20 (fun _ => .ret)
def c22_22 : XC := fun _ => .seq c22_19 c22_21
def c22_23 : XC := fun _ => .seq c22_1 c22_22
def m_impl_IsLog : MCode := c22_23 ()
def h_impl_IsLog : Hints := [(0, [0], [], [], []), (1, [0,5,6,7], [], [], []), (2, [0,5,6,7,8], [], [], []), (3, [0,3,4,5,6,7], [], [], []), (4, [0,5,6,7,36], [[],[],[],[],[],[],[],[],[],[],[],[],[],[8,9],[8,9],[8,9]], [], []), (5, [2], [], [], []), (6, [0,5,6,7], [], [], []), (7, [2], [], [], [])]
def r_impl_IsLog : List RV := [.t 2]
abbrev n_impl_IsLog : Nat := 22
theorem k_impl_IsLog : Known Pr mu n_impl_IsLog m_impl_IsLog r_impl_IsLog Go.Proofs.Try.f22.ntmps := .of h_impl_IsLog hm Go.Proofs.Try.func22
def c23_1 : XC := fun _ => .region [] [xo 4 (.mv (xb false))] [0,1]
def c23_2 : XC := fun _ => .region [] [xo 5 (.mv (xt 1)),
 xo 6 (.call 22 [(xt 5)]),
 xo 7 (.mv (xt 6)),
 ⟨(some 8), .mv (xt 1), (some (7, true)), []⟩,
 ⟨(some 9), .len false (xt 8), (some (7, true)), []⟩,
 ⟨(some 10), .bin .leq (xt 9) (xi 3), (some (7, true)), []⟩,
 xo 11 (.pick (xt 7) (xt 10) (xb false)),
 xo 12 (.mv (xt 11)),
 ⟨(some 13), .mv (xt 0), (some (12, true)), []⟩,
 ⟨(some 14), .mv (xt 1), (some (12, true)), []⟩,
 ⟨(some 15), .len false (xt 14), (some (12, true)), []⟩,
 ⟨(some 16), .bin .sub (xi 16) (xt 15), (some (12, true)), []⟩,
 ⟨(some 17), .call 32 [(xt 13), (xi 0), (xt 16)], (some (12, true)), []⟩,
 xo 18 (.pick (xt 12) (xt 17) (xb false)),
 xo 19 (.mv (xt 18)),
 ⟨(some 20), .mv (xt 0), (some (19, true)), []⟩,
 ⟨(some 21), .bin .eql (xt 20) (xi 0), (some (19, true)), []⟩,
 ⟨(some 22), .mv (xt 21), (some (19, true)), []⟩,
 ⟨(some 23), .mv (xt 1), (some (22, false)), []⟩,
 ⟨(some 24), .len false (xt 23), (some (22, false)), []⟩,
 ⟨(some 25), .bin .eql (xt 24) (xi 3), (some (22, false)), []⟩,
 ⟨(some 26), .pick (xt 22) (xb true) (xt 25), (some (19, true)), []⟩,
 xo 27 (.pick (xt 19) (xt 26) (xb false)),
 xo 4 (.mv (xt 27))] [4]
def c23_3 : XC := fun _ => .seq c23_2 (fun _ => .ret)
def c23_4 : XC := fun _ => .seq c23_1 c23_3
def m_impl_isTail : MCode := c23_4 ()
def h_impl_isTail : Hints := [(0, [0,1], [], [], []), (1, [4], [], [], [])]
def r_impl_isTail : List RV := [.t 4]
abbrev n_impl_isTail : Nat := 23
theorem k_impl_isTail : Known Pr mu n_impl_isTail m_impl_isTail r_impl_isTail Go.Proofs.Try.f23.ntmps := .of h_impl_isTail hm Go.Proofs.Try.func23
def c24_1 : XC := fun _ => .region [] [xo 2 (.mv (.const (.slice none 0 0)))] [0]
def c24_2 : XC := fun _ => .region [] [xo 3 (.mv (xi 0))] [0,3]
def c24_3 : XC := fun _ => .region [] [xo 9 (.mv (xt 0)),
 xo 10 (.len false (xt 9)),
 xo 11 (.mv (xi 0))] [0,3,9,10,11]
def c24_4 : XC := fun _ => .region [] [xo 12 (.bin .lss (xt 11) (xt 10))] [0,3,9,10,11,12]
def c24_5 : XC := fun _ => .cond (xt 12) (fun _ => .skip) (fun _ => .exit 0)
def c24_6 : XC := fun _ => .region [] [xo 13 (.ia (xt 9) (xt 11) 1),
 xo 14 (.ld (xt 13) 1 false),
 xo 5 (.mv (xt 14))] [0,3,5,9,10,11]
def c24_7 : XC := fun _ => .region [] [xo 15 (.mv (xt 3)),
 xo 16 (.mv (xt 5)),
 xo 17 (.len false (xt 16)),
 xo 18 (.bin .add (xt 15) (xt 17)),
 xo 3 (.mv (xt 18))] [0,3,9,10,11]
def c24_8 : XC := fun _ => .region [] [xo 19 (.mv (xt 3)),
 xo 20 (.bin .lss (xt 19) (xi 0))] [0,3,9,10,11,20]
def c24_9 : XC := fun _ => .region [] [xo 21 (.no),
 xn (.no)] [0,3,9,10,11]
def c24_10 : XC := fun _ => .cond (xt 20) c24_9 (fun _ => .skip)
def c24_11 : XC := fun _ => .seq c24_8 c24_10
def c24_12 : XC := fun _ => .seq c24_7 c24_11
def c24_13 : XC := fun _ => .seq c24_6 c24_12
def c24_14 : XC := fun _ => .block 1 c24_13
def c24_15 : XC := fun _ => .region [] [xo 22 (.bin .add (xt 11) (xi 1)),
 xo 11 (.mv (xt 22))] [0,3,9,10,11]
def c24_16 : XC := fun _ => .seq c24_14 c24_15
def c24_17 : XC := fun _ => .seq c24_5 c24_16
def c24_18 : XC := fun _ => .seq c24_4 c24_17
def c24_19 : XC := fun _ => .loop c24_18
def c24_20 : XC := fun _ => .block 0 c24_19
def c24_21 : XC := fun _ => .seq c24_3 c24_20
def c24_22 : XC := fun _ => .region [] [xo 23 (.mv (xt 3)),
 xo 24 (.call 42 [(.const (.slice none 0 0)), (xt 23)]),
 xo 6 (.mv (xt 24))] [0,6]
def c24_23 : XC := fun _ => .region [] [xo 25 (.mv (xt 0)),
 xo 26 (.len false (xt 25)),
 xo 27 (.mv (xi 0))] [6,25,26,27]
def c24_24 : XC := fun _ => .region [] [xo 28 (.bin .lss (xt 27) (xt 26))] [6,25,26,27,28]
def c24_25 : XC := fun _ => .cond (xt 28) (fun _ => .skip) (fun _ => .exit 2)
def c24_26 : XC := fun _ => .region [] [xo 29 (.ia (xt 25) (xt 27) 1),
 xo 30 (.ld (xt 29) 1 false),
 xo 8 (.mv (xt 30))] [6,8,25,26,27]
def c24_27 : XC := fun _ => .region [] [xo 31 (.mv (xt 6)),
 xo 32 (.mv (xt 8)),
 xo 33 (.app (xt 31) (xt 32) 7 56),
 xo 6 (.mv (xt 33))] [6,25,26,27]
def c24_28 : XC := fun _ => .seq c24_26 c24_27
def c24_29 : XC := fun _ => .block 3 c24_28
def c24_30 : XC := fun _ => .region [] [xo 34 (.bin .add (xt 27) (xi 1)),
 xo 27 (.mv (xt 34))] [6,25,26,27]
def c24_31 : XC := fun _ => .seq c24_29 c24_30
def c24_32 : XC := fun _ => .seq c24_25 c24_31
def c24_33 : XC := fun _ => .seq c24_24 c24_32
def c24_34 : XC := fun _ => .loop c24_33
def c24_35 : XC := fun _ => .block 2 c24_34
def c24_36 : XC := fun _ => .seq c24_23 c24_35
def c24_37 : XC := fun _ => .region [] [xo 35 (.mv (xt 6)),
 xo 2 (.mv (xt 35))] [2]
def c24_38 : XC := fun _ => .seq c24_37 (fun _ => .ret)
def c24_39 : XC := fun _ => .seq c24_36 c24_38
def c24_40 : XC := fun _ => .seq c24_22 c24_39
def c24_41 : XC := fun _ => .seq c24_21 c24_40
def c24_42 : XC := fun _ => .seq c24_2 c24_41
def c24_43 : XC := fun _ => .seq c24_1 c24_42
def m_slices_Concat_implEntryimplEntry : MCode := c24_43 ()
def h_slices_Concat_implEntryimplEntry : Hints := [(0, [0], [], [], []), (1, [0,3], [], [], []), (2, [0,3,9,10,11], [], [], []), (3, [0,3,9,10,11,12], [], [], []), (4, [0,3,5,9,10,11], [], [], []), (5, [0,3,9,10,11], [], [], []), (6, [0,3,9,10,11,20], [], [], []), (7, [0,3,9,10,11], [], [], []), (8, [0,3,9,10,11], [], [], []), (9, [0,6], [], [], []), (10, [6,25,26,27], [], [], []), (11, [6,25,26,27,28], [], [], []), (12, [6,8,25,26,27], [], [], []), (13, [6,25,26,27], [], [], []), (14, [6,25,26,27], [], [], []), (15, [2], [], [], [])]
def r_slices_Concat_implEntryimplEntry : List RV := [.t 2]
abbrev n_slices_Concat_implEntryimplEntry : Nat := 24
theorem k_slices_Concat_implEntryimplEntry : Known Pr mu n_slices_Concat_implEntryimplEntry m_slices_Concat_implEntryimplEntry r_slices_Concat_implEntryimplEntry Go.Proofs.Try.f24.ntmps := .of h_slices_Concat_implEntryimplEntry hm Go.Proofs.Try.func24
def c25_1 : XC := fun _ => .region [] [xo 4 (.mv (xb false))] [0,1]
def c25_2 : XC := fun _ => .region [] [xo 6 (.mv (xt 0)),
 xo 7 (.len false (xt 6)),
 xo 8 (.mv (xt 1)),
 xo 9 (.len false (xt 8)),
 xo 10 (.bin .neq (xt 7) (xt 9))] [0,1,10]
def c25_3 : XC := fun _ => .region [] [xo 4 (.mv (xb false))] [4]
def c25_4 : XC := fun _ => .seq c25_3 (fun _ => .ret)
def c25_5 : XC := fun _ => .cond (xt 10) c25_4 (fun _ => .skip)
def c25_6 : XC := fun _ => .seq c25_2 c25_5
def c25_7 : XC := fun _ => .region [] [xo 11 (.mv (xt 0)),
 xo 12 (.len false (xt 11)),
 xo 13 (.mv (xi 0))] [0,1,12,13]
def c25_8 : XC := fun _ => .region [] [xo 14 (.bin .lss (xt 13) (xt 12))] [0,1,12,13,14]
def c25_9 : XC := fun _ => .cond (xt 14) (fun _ => .skip) (fun _ => .exit 0)
def c25_10 : XC := fun _ => .region [] [xo 15 (.mv (xt 13)),
 xo 5 (.mv (xt 15))] [0,1,5,12,13]
def c25_11 : XC := fun _ => .region [] [xo 16 (.mv (xt 0)),
 xo 17 (.mv (xt 5)),
 xo 18 (.ia (xt 16) (xt 17) 7),
 xo 19 (.ld (xt 18) 7 true),
 xo 20 (.mv (xt 1)),
 xo 21 (.mv (xt 5)),
 ⟨(some 22), .ia (xt 20) (xt 21) 7, none, [0, 1, 2, 3]⟩,
 ⟨(some 23), .ld (xt 22) 7 true, none, [0, 1, 2, 3]⟩,
 xo 24 (.aeq true [.i, .i, .i, .i, .i, .i, .i] (xt 19) (xt 23))] [0,1,12,13,24]
def c25_12 : XC := fun _ => .region [] [xo 4 (.mv (xb false))] [4]
def c25_13 : XC := fun _ => .seq c25_12 (fun _ => .ret)
def c25_14 : XC := fun _ => .cond (xt 24) c25_13 (fun _ => .skip)
def c25_15 : XC := fun _ => .seq c25_11 c25_14
def c25_16 : XC := fun _ => .seq c25_10 c25_15
def c25_17 : XC := fun _ => .block 1 c25_16
def c25_18 : XC := fun _ => .region [] [xo 25 (.bin .add (xt 13) (xi 1)),
 xo 13 (.mv (xt 25))] [0,1,12,13]
def c25_19 : XC := fun _ => .seq c25_17 c25_18
def c25_20 : XC := fun _ => .seq c25_9 c25_19
def c25_21 : XC := fun _ => .seq c25_8 c25_20
def c25_22 : XC := fun _ => .loop c25_21
def c25_23 : XC := fun _ => .block 0 c25_22
def c25_24 : XC := fun _ => .seq c25_7 c25_23
def c25_25 : XC := fun _ => .region [] [xo 4 (.mv (xb true))] [4]
def c25_26 : XC := fun _ => .seq c25_25 (fun _ => .ret)
def c25_27 : XC := fun _ => .seq c25_24 c25_26
def c25_28 : XC := fun _ => .seq c25_6 c25_27
def c25_29 : XC := fun _ => .seq c25_1 c25_28
def m_slices_Equal_implEntryimplEntry : MCode := c25_29 ()
def h_slices_Equal_implEntryimplEntry : Hints := [(0, [0,1], [], [], []), (1, [0,1,10], [], [], []), (2, [4], [], [], []), (3, [0,1,12,13], [], [], []), (4, [0,1,12,13,14], [], [], []), (5, [0,1,5,12,13], [], [], []), (6, [0,1,12,13,24], [[],[],[],[],[],[],[0,1,2,3],[0,1,2,3]], [], []), (7, [4], [], [], []), (8, [0,1,12,13], [], [], []), (9, [4], [], [], [])]
def r_slices_Equal_implEntryimplEntry : List RV := [.t 4]
abbrev n_slices_Equal_implEntryimplEntry : Nat := 25
theorem k_slices_Equal_implEntryimplEntry : Known Pr mu n_slices_Equal_implEntryimplEntry m_slices_Equal_implEntryimplEntry r_slices_Equal_implEntryimplEntry Go.Proofs.Try.f25.ntmps := .of h_slices_Equal_implEntryimplEntry hm Go.Proofs.Try.func25
def c26_1 : XC := fun _ => .region [] [xo 4 (.mv (xb false))] [0,1]
def c26_2 : XC := fun _ => .region [] [xo 5 (.mv (xt 1)),
 xo 6 (.call 11 [(xt 5)]),
 xo 7 (.mv (xt 6)),
 ⟨(some 8), .mv (xt 1), (some (7, true)), []⟩,
 ⟨(some 9), .len false (xt 8), (some (7, true)), []⟩,
 ⟨(some 10), .bin .leq (xt 9) (xi 3), (some (7, true)), []⟩,
 xo 11 (.pick (xt 7) (xt 10) (xb false)),
 xo 12 (.mv (xt 11)),
 ⟨(some 13), .mv (xt 0), (some (12, true)), []⟩,
 ⟨(some 14), .mv (xt 1), (some (12, true)), []⟩,
 ⟨(some 15), .len false (xt 14), (some (12, true)), []⟩,
 ⟨(some 16), .bin .sub (xi 16) (xt 15), (some (12, true)), []⟩,
 ⟨(some 17), .call 30 [(xt 13), (xi 0), (xt 16)], (some (12, true)), []⟩,
 xo 18 (.pick (xt 12) (xt 17) (xb false)),
 xo 19 (.mv (xt 18)),
 ⟨(some 20), .mv (xt 0), (some (19, true)), []⟩,
 ⟨(some 21), .bin .eql (xt 20) (xi 0), (some (19, true)), []⟩,
 ⟨(some 22), .mv (xt 21), (some (19, true)), []⟩,
 ⟨(some 23), .mv (xt 1), (some (22, false)), []⟩,
 ⟨(some 24), .len false (xt 23), (some (22, false)), []⟩,
 ⟨(some 25), .bin .eql (xt 24) (xi 3), (some (22, false)), []⟩,
 ⟨(some 26), .pick (xt 22) (xb true) (xt 25), (some (19, true)), []⟩,
 xo 27 (.pick (xt 19) (xt 26) (xb false)),
 xo 4 (.mv (xt 27))] [4]
def c26_3 : XC := fun _ => .seq c26_2 (fun _ => .ret)
def c26_4 : XC := fun _ => .seq c26_1 c26_3
def m_spec_l15Good : MCode := c26_4 ()
def h_spec_l15Good : Hints := [(0, [0,1], [], [], []), (1, [4], [], [], [])]
def r_spec_l15Good : List RV := [.t 4]
abbrev n_spec_l15Good : Nat := 26
theorem k_spec_l15Good : Known Pr mu n_spec_l15Good m_spec_l15Good r_spec_l15Good Go.Proofs.Try.f26.ntmps := .of h_spec_l15Good hm Go.Proofs.Try.func26
def c27_1 : XC := fun _ => .region [] [xo 4 (.mv (xi 0))] [0,1]
def c27_2 : XC := fun _ => .region [] [xo 5 (.mv (xi 0))] [0,1,5]
def c27_3 : XC := fun _ => .region [] [xo 6 (.mv (xt 5)),
 xo 7 (.mv (xt 0)),
 xo 8 (.len false (xt 7)),
 xo 9 (.bin .lss (xt 6) (xt 8)),
 xo 10 (.mv (xt 9)),
 ⟨(some 11), .mv (xt 5), (some (10, true)), []⟩,
 ⟨(some 12), .mv (xt 1), (some (10, true)), []⟩,
 ⟨(some 13), .len false (xt 12), (some (10, true)), []⟩,
 ⟨(some 14), .bin .lss (xt 11) (xt 13), (some (10, true)), []⟩,
 xo 15 (.pick (xt 10) (xt 14) (xb false)),
 xo 16 (.mv (xt 15)),
 ⟨(some 17), .mv (xt 0), (some (16, true)), []⟩,
 ⟨(some 18), .mv (xt 5), (some (16, true)), []⟩,
 ⟨(some 19), .ia (xt 17) (xt 18) 7, (some (16, true)), []⟩,
 ⟨(some 20), .ld (xt 19) 7 true, (some (16, true)), []⟩,
 ⟨(some 21), .mv (xt 1), (some (16, true)), []⟩,
 ⟨(some 22), .mv (xt 5), (some (16, true)), []⟩,
 ⟨(some 23), .ia (xt 21) (xt 22) 7, (some (16, true)), [11, 12, 13, 14]⟩,
 ⟨(some 24), .ld (xt 23) 7 true, (some (16, true)), [11, 12, 13, 14]⟩,
 ⟨(some 25), .aeq false [.i, .i, .i, .i, .i, .i, .i] (xt 20) (xt 24), (some (16, true)), []⟩,
 xo 26 (.pick (xt 16) (xt 25) (xb false))] [0,1,5,26]
def c27_4 : XC := fun _ => .cond (xt 26) (fun _ => .skip) (fun _ => .exit 0)
def c27_5 : XC := fun _ => .seq c27_3 c27_4
def c27_6 : XC := fun _ => .region [] [xo 27 (.mv (xt 5)),
 xo 28 (.bin .add (xt 27) (xi 1)),
 xo 5 (.mv (xt 28))] [0,1,5]
def c27_7 : XC := fun _ => .block 1 c27_6
def c27_8 : XC := fun _ => .seq c27_5 c27_7
def c27_9 : XC := fun _ => .loop c27_8
def c27_10 : XC := fun _ => .block 0 c27_9
def c27_11 : XC := fun _ => .region [] [xo 29 (.mv (xt 5)),
 xo 4 (.mv (xt 29))] [4]
def c27_12 : XC := fun _ => .seq c27_11 (fun _ => .ret)
def c27_13 : XC := fun _ => .seq c27_10 c27_12
def c27_14 : XC := fun _ => .seq c27_2 c27_13
def c27_15 : XC := fun _ => .seq c27_1 c27_14
def m_spec_CommonPrefix : MCode := c27_15 ()
def h_spec_CommonPrefix : Hints := [(0, [0,1], [], [], []), (1, [0,1,5], [], [], []), (2, [0,1,5,26], [[],[],[],[],[],[],[],[],[],[],[],[],[],[],[],[],[],[11,12,13,14],[11,12,13,14]], [], []), (3, [0,1,5], [], [], []), (4, [4], [], [], [])]
def r_spec_CommonPrefix : List RV := [.t 4]
abbrev n_spec_CommonPrefix : Nat := 27
theorem k_spec_CommonPrefix : Known Pr mu n_spec_CommonPrefix m_spec_CommonPrefix r_spec_CommonPrefix Go.Proofs.Try.f27.ntmps := .of h_spec_CommonPrefix hm Go.Proofs.Try.func27
def c28_1 : XC := fun _ => .region [] [xo 4 (.mv (xi 0))] [0,1]
def c28_2 : XC := fun _ => .region [] [xo 5 (.mv (xi 0))] [0,1,5]
def c28_3 : XC := fun _ => .region [] [xo 6 (.mv (xt 5)),
 xo 7 (.mv (xt 0)),
 xo 8 (.len false (xt 7)),
 xo 9 (.bin .lss (xt 6) (xt 8)),
 xo 10 (.mv (xt 9)),
 ⟨(some 11), .mv (xt 5), (some (10, true)), []⟩,
 ⟨(some 12), .mv (xt 1), (some (10, true)), []⟩,
 ⟨(some 13), .len false (xt 12), (some (10, true)), []⟩,
 ⟨(some 14), .bin .lss (xt 11) (xt 13), (some (10, true)), []⟩,
 xo 15 (.pick (xt 10) (xt 14) (xb false)),
 xo 16 (.mv (xt 15)),
 ⟨(some 17), .mv (xt 0), (some (16, true)), []⟩,
 ⟨(some 18), .mv (xt 5), (some (16, true)), []⟩,
 ⟨(some 19), .ia (xt 17) (xt 18) 7, (some (16, true)), []⟩,
 ⟨(some 20), .ld (xt 19) 7 true, (some (16, true)), []⟩,
 ⟨(some 21), .mv (xt 1), (some (16, true)), []⟩,
 ⟨(some 22), .mv (xt 5), (some (16, true)), []⟩,
 ⟨(some 23), .ia (xt 21) (xt 22) 7, (some (16, true)), [11, 12, 13, 14]⟩,
 ⟨(some 24), .ld (xt 23) 7 true, (some (16, true)), [11, 12, 13, 14]⟩,
 ⟨(some 25), .aeq false [.i, .i, .i, .i, .i, .i, .i] (xt 20) (xt 24), (some (16, true)), []⟩,
 xo 26 (.pick (xt 16) (xt 25) (xb false))] [0,1,5,26]
def c28_4 : XC := fun _ => .cond (xt 26) (fun _ => .skip) (fun _ => .exit 0)
def c28_5 : XC := fun _ => .seq c28_3 c28_4
def c28_6 : XC := fun _ => .region [] [xo 27 (.mv (xt 5)),
 xo 28 (.bin .add (xt 27) (xi 1)),
 xo 5 (.mv (xt 28))] [0,1,5]
def c28_7 : XC := fun _ => .block 1 c28_6
def c28_8 : XC := fun _ => .seq c28_5 c28_7
def c28_9 : XC := fun _ => .loop c28_8
def c28_10 : XC := fun _ => .block 0 c28_9
def c28_11 : XC := fun _ => .region [] [xo 29 (.mv (xt 5)),
 xo 4 (.mv (xt 29))] [4]
def c28_12 : XC := fun _ => .seq c28_11 (fun _ => .ret)
def c28_13 : XC := fun _ => .seq c28_10 c28_12
def c28_14 : XC := fun _ => .seq c28_2 c28_13
def c28_15 : XC := fun _ => .seq c28_1 c28_14
def m_impl_CommonPrefix : MCode := c28_15 ()
def h_impl_CommonPrefix : Hints := [(0, [0,1], [], [], []), (1, [0,1,5], [], [], []), (2, [0,1,5,26], [[],[],[],[],[],[],[],[],[],[],[],[],[],[],[],[],[],[11,12,13,14],[11,12,13,14]], [], []), (3, [0,1,5], [], [], []), (4, [4], [], [], [])]
def r_impl_CommonPrefix : List RV := [.t 4]
abbrev n_impl_CommonPrefix : Nat := 28
theorem k_impl_CommonPrefix : Known Pr mu n_impl_CommonPrefix m_impl_CommonPrefix r_impl_CommonPrefix Go.Proofs.Try.f28.ntmps := .of h_impl_CommonPrefix hm Go.Proofs.Try.func28
def c29_1 : XC := fun _ => .region [] [xo 2 (.mv (.const (.slice none 0 0)))] [0]
def c29_2 : XC := fun _ => .region [] [xo 3 (.mv (xt 0)),
 xo 4 (.nbin .eql (xt 3) (.const (.slice none 0 0)))] [0,4]
def c29_3 : XC := fun _ => .region [] [xo 2 (.mv (.const (.slice none 0 0)))] [2]
def c29_4 : XC := fun _ => .seq c29_3 (fun _ => .ret)
def c29_5 : XC := fun _ => .cond (xt 4) c29_4 (fun _ => .skip)
def c29_6 : XC := fun _ => .seq c29_2 c29_5
def c29_7 : XC := fun _ => .region [] [xo 5 (.bsl 7 0 [.int .i64 0, .int .i64 0, .int .i64 0, .int .i64 0, .int .i64 0, .int .i64 0, .int .i64 0] []),
 xo 6 (.mv (xt 0)),
 xo 7 (.app (xt 5) (xt 6) 7 56),
 xo 2 (.mv (xt 7))] [2]
def c29_8 : XC := fun _ => .seq c29_7 (fun _ => .ret)
def c29_9 : XC := fun _ => .seq c29_6 c29_8
def c29_10 : XC := fun _ => .seq c29_1 c29_9
def m_slices_Clone_implEntryimplEntry : MCode := c29_10 ()
def h_slices_Clone_implEntryimplEntry : Hints := [(0, [0], [], [], []), (1, [0,4], [], [], []), (2, [2], [], [], []), (3, [2], [], [], [])]
def r_slices_Clone_implEntryimplEntry : List RV := [.t 2]
abbrev n_slices_Clone_implEntryimplEntry : Nat := 29
theorem k_slices_Clone_implEntryimplEntry : Known Pr mu n_slices_Clone_implEntryimplEntry m_slices_Clone_implEntryimplEntry r_slices_Clone_implEntryimplEntry Go.Proofs.Try.f29.ntmps := .of h_slices_Clone_implEntryimplEntry hm Go.Proofs.Try.func29
def c30_1 : XC := fun _ => .region [] [xo 6 (.mv (xb false))] [0,1,2]
def c30_2 : XC := fun _ => .region [] [xo 7 (.mv (xt 0)),
 xo 8 (.mv (xt 1)),
 xo 9 (.bin .geq (xt 7) (xt 8)),
 xo 10 (.mv (xt 9)),
 ⟨(some 11), .mv (xt 0), (some (10, true)), []⟩,
 ⟨(some 12), .mv (xt 2), (some (10, true)), []⟩,
 ⟨(some 13), .bin .leq (xt 11) (xt 12), (some (10, true)), []⟩,
 xo 14 (.pick (xt 10) (xt 13) (xb false)),
 xo 6 (.mv (xt 14))] [6]
def c30_3 : XC := fun _ => .seq c30_2 (fun _ => .ret)
def c30_4 : XC := fun _ => .seq c30_1 c30_3
def m_spec_l1In : MCode := c30_4 ()
def h_spec_l1In : Hints := [(0, [0,1,2], [], [], []), (1, [6], [], [], [])]
def r_spec_l1In : List RV := [.t 6]
abbrev n_spec_l1In : Nat := 30
theorem k_spec_l1In : Known Pr mu n_spec_l1In m_spec_l1In r_spec_l1In Go.Proofs.Try.f30.ntmps := .of h_spec_l1In hm Go.Proofs.Try.func30
def c31_1 : XC := fun _ => .region [] [xo 1 (.box (xt 0)),
 xo 2 (.mv (xb false))] [1]
def c31_2 : XC := fun _ => .region [] [xo 3 (.fa (xt 1) 0),
 xo 4 (.ld (xt 3) 1 false),
 xo 5 (.call 30 [(xt 4), (xi 0), (xi 2)]),
 xo 6 (.not (xt 5)),
 xo 7 (.mv (xt 6)),
 ⟨(some 8), .fa (xt 1) 1, (some (7, false)), []⟩,
 ⟨(some 9), .ld (xt 8) 1 false, (some (7, false)), []⟩,
 ⟨(some 10), .call 30 [(xt 9), (xi 1), (xi 99)], (some (7, false)), []⟩,
 ⟨(some 11), .not (xt 10), (some (7, false)), []⟩,
 xo 12 (.pick (xt 7) (xb true) (xt 11)),
 xo 13 (.mv (xt 12)),
 ⟨(some 14), .fa (xt 1) 3, (some (13, false)), []⟩,
 ⟨(some 15), .ld (xt 14) 1 false, (some (13, false)), []⟩,
 ⟨(some 16), .call 30 [(xt 15), (xi 0), (xi 2)], (some (13, false)), []⟩,
 ⟨(some 17), .not (xt 16), (some (13, false)), []⟩,
 xo 18 (.pick (xt 13) (xb true) (xt 17)),
 xo 19 (.mv (xt 18)),
 ⟨(some 20), .fa (xt 1) 5, (some (19, false)), []⟩,
 ⟨(some 21), .ld (xt 20) 1 false, (some (19, false)), []⟩,
 ⟨(some 22), .call 30 [(xt 21), (xi 0), (xi 9)], (some (19, false)), []⟩,
 ⟨(some 23), .not (xt 22), (some (19, false)), []⟩,
 xo 24 (.pick (xt 19) (xb true) (xt 23))] [1,24]
def c31_3 : XC := fun _ => .region [] [xo 2 (.mv (xb false))] [2]
def c31_4 : XC := fun _ => .seq c31_3 (fun _ => .ret)
def c31_5 : XC := fun _ => .cond (xt 24) c31_4 (fun _ => .skip)
def c31_6 : XC := fun _ => .seq c31_2 c31_5
def c31_7 : XC := fun _ => .region [] [xo 25 (.fa (xt 1) 2),
 xo 26 (.ld (xt 25) 1 false),
 xo 27 (.bin .eql (xt 26) (xi 1)),
 xo 28 (.mv (xt 27)),
 ⟨(some 29), .fa (xt 1) 4, (some (28, true)), []⟩,
 ⟨(some 30), .ld (xt 29) 1 false, (some (28, true)), []⟩,
 ⟨(some 31), .bin .eql (xt 30) (xi 0), (some (28, true)), []⟩,
 xo 32 (.pick (xt 28) (xt 31) (xb false)),
 xo 33 (.mv (xt 32)),
 ⟨(some 34), .fa (xt 1) 2, (some (33, false)), []⟩,
 ⟨(some 35), .ld (xt 34) 1 false, (some (33, false)), []⟩,
 ⟨(some 36), .bin .eql (xt 35) (xi 2), (some (33, false)), []⟩,
 ⟨(some 37), .mv (xt 36), (some (33, false)), []⟩,
 ⟨(some 38), .fa (xt 1) 4, (some (37, true)), []⟩,
 ⟨(some 39), .ld (xt 38) 1 false, (some (37, true)), []⟩,
 ⟨(some 40), .call 30 [(xt 39), (xi 0), (xi 9)], (some (37, true)), []⟩,
 ⟨(some 41), .pick (xt 37) (xt 40) (xb false), (some (33, false)), []⟩,
 xo 42 (.pick (xt 33) (xb true) (xt 41)),
 xo 2 (.mv (xt 42))] [2]
def c31_8 : XC := fun _ => .seq c31_7 (fun _ => .ret)
def c31_9 : XC := fun _ => .seq c31_6 c31_8
def c31_10 : XC := fun _ => .seq c31_1 c31_9
def m_spec_IsValidOp : MCode := c31_10 ()
def h_spec_IsValidOp : Hints := [(0, [1], [], [], []), (1, [1,24], [], [], []), (2, [2], [], [], []), (3, [2], [], [], [])]
def r_spec_IsValidOp : List RV := [.t 2]
abbrev n_spec_IsValidOp : Nat := 31
theorem k_spec_IsValidOp : Known Pr mu n_spec_IsValidOp m_spec_IsValidOp r_spec_IsValidOp Go.Proofs.Try.f31.ntmps := .of h_spec_IsValidOp hm Go.Proofs.Try.func31
def c32_1 : XC := fun _ => .region [] [xo 6 (.mv (xb false))] [0,1,2]
def c32_2 : XC := fun _ => .region [] [xo 7 (.mv (xt 1)),
 xo 8 (.mv (xt 0)),
 xo 9 (.bin .leq (xt 7) (xt 8)),
 xo 10 (.mv (xt 9)),
 ⟨(some 11), .mv (xt 0), (some (10, true)), []⟩,
 ⟨(some 12), .mv (xt 2), (some (10, true)), []⟩,
 ⟨(some 13), .bin .leq (xt 11) (xt 12), (some (10, true)), []⟩,
 xo 14 (.pick (xt 10) (xt 13) (xb false)),
 xo 6 (.mv (xt 14))] [6]
def c32_3 : XC := fun _ => .seq c32_2 (fun _ => .ret)
def c32_4 : XC := fun _ => .seq c32_1 c32_3
def m_impl_within : MCode := c32_4 ()
def h_impl_within : Hints := [(0, [0,1,2], [], [], []), (1, [6], [], [], [])]
def r_impl_within : List RV := [.t 6]
abbrev n_impl_within : Nat := 32
theorem k_impl_within : Known Pr mu n_impl_within m_impl_within r_impl_within Go.Proofs.Try.f32.ntmps := .of h_impl_within hm Go.Proofs.Try.func32
def c33_1 : XC := fun _ => .region [] [xo 4 (.mv (xi 0))] [0,1]
def c33_2 : XC := fun _ => .region [] [xo 5 (.mv (xt 1)),
 xo 6 (.mv (xt 0)),
 xo 7 (.mv (xt 1)),
 xo 8 (.len false (xt 7)),
 xo 9 (.callp 19 [(xt 6), (xt 8)]),
 xo 10 (.ia (xt 5) (xt 9) 1),
 xo 11 (.ld (xt 10) 1 false),
 xo 4 (.mv (xt 11))] [4]
def c33_3 : XC := fun _ => .seq c33_2 (fun _ => .ret)
def c33_4 : XC := fun _ => .seq c33_1 c33_3
def m_spec_l1PickInt : MCode := c33_4 ()
def h_spec_l1PickInt : Hints := [(0, [0,1], [], [], []), (1, [4], [], [], [])]
def r_spec_l1PickInt : List RV := [.t 4]
abbrev n_spec_l1PickInt : Nat := 33
theorem k_spec_l1PickInt : Known Pr mu n_spec_l1PickInt m_spec_l1PickInt r_spec_l1PickInt Go.Proofs.Try.f33.ntmps := .of h_spec_l1PickInt hm Go.Proofs.Try.func33
def c34_1 : XC := fun _ => .region [] [xo 2 (.alloc [.int .i64 0, .int .i64 0, .int .i64 0, .int .i64 0, .int .i64 0, .int .i64 0])] [0,2]
def c34_2 : XC := fun _ => .region [] [xo 4 (.mv (xt 0)),
 xo 5 (.callp 40 [(xt 4)]),
 xo 3 (.alloc [.int .i64 0, .int .i64 0, .int .i64 0, .int .i64 0, .int .i64 0, .int .i64 0]),
 xn (.sto (xt 3) (xt 5) 6)] [0,2,3]
def c34_3 : XC := fun _ => .region [] [xo 6 (.mv (xt 0)),
 xo 7 (.callp 19 [(xt 6), (xi 14)])] [0,2,3,7]
def c34_4 : XC := fun _ => .region [] [xo 9 (.bin .eql (xt 7) (xi 0)),
 xo 8 (.mv (xt 9))] [0,2,3,7,8]
def c34_5 : XC := fun _ => .region [] [xo 10 (.mv (xt 0)),
 xo 11 (.bsl 1 3 [.int .i64 0] [(0, (xi (-1))), (1, (xi 2)), (2, (xi 3))]),
 xo 12 (.callp 33 [(xt 10), (xt 11)]),
 xo 13 (.fa (xt 3) 0),
 xn (.sto (xt 13) (xt 12) 1)] [2,3]
def c34_6 : XC := fun _ => .region [] [xo 15 (.bin .eql (xt 7) (xi 1)),
 xo 14 (.mv (xt 15))] [0,2,3,7,14]
def c34_7 : XC := fun _ => .region [] [xo 16 (.mv (xt 0)),
 xo 17 (.bsl 1 3 [.int .i64 0] [(0, (xi 0)), (1, (xi 99)), (2, (xi 100))]),
 xo 18 (.callp 33 [(xt 16), (xt 17)]),
 xo 19 (.fa (xt 3) 1),
 xn (.sto (xt 19) (xt 18) 1)] [2,3]
def c34_8 : XC := fun _ => .region [] [xo 21 (.bin .eql (xt 7) (xi 2)),
 xo 20 (.mv (xt 21))] [0,2,3,7,20]
def c34_9 : XC := fun _ => .region [] [xo 22 (.mv (xt 0)),
 xo 23 (.callp 19 [(xt 22), (xi 4)]),
 xo 24 (.fa (xt 3) 2),
 xn (.sto (xt 24) (xt 23) 1)] [2,3]
def c34_10 : XC := fun _ => .region [] [xo 26 (.bin .eql (xt 7) (xi 3)),
 xo 25 (.mv (xt 26))] [0,2,3,7,25]
def c34_11 : XC := fun _ => .region [] [xo 27 (.mv (xt 0)),
 xo 28 (.bsl 1 2 [.int .i64 0] [(0, (xi (-1))), (1, (xi 3))]),
 xo 29 (.callp 33 [(xt 27), (xt 28)]),
 xo 30 (.fa (xt 3) 3),
 xn (.sto (xt 30) (xt 29) 1)] [2,3]
def c34_12 : XC := fun _ => .region [] [xo 32 (.bin .eql (xt 7) (xi 4)),
 xo 31 (.mv (xt 32))] [0,2,3,7,31]
def c34_13 : XC := fun _ => .region [] [xo 33 (.mv (xt 0)),
 xo 34 (.bsl 1 3 [.int .i64 0] [(0, (xi (-1))), (1, (xi 9)), (2, (xi 10))]),
 xo 35 (.callp 33 [(xt 33), (xt 34)]),
 xo 36 (.fa (xt 3) 5),
 xn (.sto (xt 36) (xt 35) 1)] [2,3]
def c34_14 : XC := fun _ => .region [] [xo 38 (.bin .eql (xt 7) (xi 5)),
 xo 37 (.mv (xt 38))] [0,2,3,37]
def c34_15 : XC := fun _ => .region [] [xo 39 (.mv (xt 0)),
 xo 40 (.bsl 1 4 [.int .i64 0] [(0, (xi (-1))), (1, (xi 0)), (2, (xi 9)), (3, (xi 10))]),
 xo 41 (.callp 33 [(xt 39), (xt 40)]),
 xo 42 (.fa (xt 3) 4),
 xn (.sto (xt 42) (xt 41) 1)] [2,3]
def c34_16 : XC := fun _ => .cond (xt 37) c34_15 (fun _ => .skip)
def c34_17 : XC := fun _ => .seq c34_14 c34_16
def c34_18 : XC := fun _ => .cond (xt 31) c34_13 c34_17
def c34_19 : XC := fun _ => .seq c34_12 c34_18
def c34_20 : XC := fun _ => .cond (xt 25) c34_11 c34_19
def c34_21 : XC := fun _ => .seq c34_10 c34_20
def c34_22 : XC := fun _ => .cond (xt 20) c34_9 c34_21
def c34_23 : XC := fun _ => .seq c34_8 c34_22
def c34_24 : XC := fun _ => .cond (xt 14) c34_7 c34_23
def c34_25 : XC := fun _ => .seq c34_6 c34_24
def c34_26 : XC := fun _ => .cond (xt 8) c34_5 c34_25
def c34_27 : XC := fun _ => .seq c34_4 c34_26
def c34_28 : XC := fun _ => .block 0 c34_27
def c34_29 : XC := fun _ => .seq c34_3 c34_28
def c34_30 : XC := fun _ => .region [] [xo 43 (.ld (xt 3) 6 true),
 xn (.sto (xt 2) (xt 43) 6)] [2]
def c34_31 : XC := fun _ => .seq c34_30 (fun _ => .ret)
def c34_32 : XC := fun _ => .seq c34_29 c34_31
def c34_33 : XC := fun _ => .seq c34_2 c34_32
def c34_34 : XC := fun _ => .seq c34_1 c34_33
def m_spec_l3Any : MCode := c34_34 ()
def h_spec_l3Any : Hints := [(0, [0,2], [], [], []), (1, [0,2,3], [], [], []), (2, [0,2,3,7], [], [], []), (3, [0,2,3,7,8], [], [], []), (4, [2,3], [], [], []), (5, [0,2,3,7,14], [], [], []), (6, [2,3], [], [], []), (7, [0,2,3,7,20], [], [], []), (8, [2,3], [], [], []), (9, [0,2,3,7,25], [], [], []), (10, [2,3], [], [], []), (11, [0,2,3,7,31], [], [], []), (12, [2,3], [], [], []), (13, [0,2,3,37], [], [], []), (14, [2,3], [], [], []), (15, [2], [], [], [])]
def r_spec_l3Any : List RV := [.c 2 6 true]
abbrev n_spec_l3Any : Nat := 34
theorem k_spec_l3Any : Known Pr mu n_spec_l3Any m_spec_l3Any r_spec_l3Any Go.Proofs.Try.f34.ntmps := .of h_spec_l3Any hm Go.Proofs.Try.func34
def c35_1 : XC := fun _ => .region [] [xo 3 (.box (xt 1)),
 xo 4 (.mv (.const (.slice none 0 0))),
 xo 5 (.mv (xb false))] [0,3]
def c35_2 : XC := fun _ => .region [] [xo 7 (.mv (xt 0)),
 xo 8 (.call 29 [(xt 7)]),
 ⟨(some 9), .ld (xt 3) 7 true, none, [0, 1]⟩,
 xo 10 (.bsl 7 1 [.int .i64 0, .int .i64 0, .int .i64 0, .int .i64 0, .int .i64 0, .int .i64 0, .int .i64 0] [(0, (xt 9))]),
 xo 11 (.app (xt 8) (xt 10) 7 56),
 xo 6 (.mv (xt 11))] [0,6]
def c35_3 : XC := fun _ => .region [] [xo 12 (.mv (xt 6)),
 xo 13 (.call 22 [(xt 12)]),
 xo 14 (.not (xt 13))] [0,6,14]
def c35_4 : XC := fun _ => .region [] [xo 15 (.mv (xt 0)),
 xo 16 (.call 29 [(xt 15)]),
 xo 4 (.mv (xt 16)),
 xo 5 (.mv (xb false))] [4,5]
def c35_5 : XC := fun _ => .seq c35_4 (fun _ => .ret)
def c35_6 : XC := fun _ => .cond (xt 14) c35_5 (fun _ => .skip)
def c35_7 : XC := fun _ => .seq c35_3 c35_6
def c35_8 : XC := fun _ => .region [] [xo 17 (.mv (xt 6)),
 xo 4 (.mv (xt 17)),
 xo 5 (.mv (xb true))] [4,5]
def c35_9 : XC := fun _ => .seq c35_8 (fun _ => .ret)
def c35_10 : XC := fun _ => .seq c35_7 c35_9
def c35_11 : XC := fun _ => .seq c35_2 c35_10
def c35_12 : XC := fun _ => .seq c35_1 c35_11
def m_impl_AppendEntry : MCode := c35_12 ()
def h_impl_AppendEntry : Hints := [(0, [0,3], [], [], []), (1, [0,6], [[],[],[0,1]], [], []), (2, [0,6,14], [], [], []), (3, [4,5], [], [], []), (4, [4,5], [], [], [])]
def r_impl_AppendEntry : List RV := [.t 4, .t 5]
abbrev n_impl_AppendEntry : Nat := 35
theorem k_impl_AppendEntry : Known Pr mu n_impl_AppendEntry m_impl_AppendEntry r_impl_AppendEntry Go.Proofs.Try.f35.ntmps := .of h_impl_AppendEntry hm Go.Proofs.Try.func35
def c36_1 : XC := fun _ => .region [] [xo 3 (.box (xt 1)),
 xo 4 (.mv (.const (.slice none 0 0))),
 xo 5 (.mv (xb false))] [0,3]
def c36_2 : XC := fun _ => .region [] [xo 7 (.mv (xt 0)),
 xo 8 (.call 21 [(xt 7)]),
 ⟨(some 9), .ld (xt 3) 7 true, none, [0, 1]⟩,
 xo 10 (.bsl 7 1 [.int .i64 0, .int .i64 0, .int .i64 0, .int .i64 0, .int .i64 0, .int .i64 0, .int .i64 0] [(0, (xt 9))]),
 xo 11 (.app (xt 8) (xt 10) 7 56),
 xo 6 (.mv (xt 11))] [0,6]
def c36_3 : XC := fun _ => .region [] [xo 12 (.mv (xt 0)),
 xo 13 (.call 11 [(xt 12)]),
 xo 14 (.not (xt 13)),
 xo 15 (.mv (xt 14)),
 ⟨(some 16), .mv (xt 6), (some (15, false)), []⟩,
 ⟨(some 17), .call 11 [(xt 16)], (some (15, false)), []⟩,
 ⟨(some 18), .not (xt 17), (some (15, false)), []⟩,
 xo 19 (.pick (xt 15) (xb true) (xt 18))] [0,6,19]
def c36_4 : XC := fun _ => .region [] [xo 20 (.mv (xt 0)),
 xo 21 (.call 21 [(xt 20)]),
 xo 4 (.mv (xt 21)),
 xo 5 (.mv (xb false))] [4,5]
def c36_5 : XC := fun _ => .seq c36_4 (fun _ => .ret)
def c36_6 : XC := fun _ => .cond (xt 19) c36_5 (fun _ => .skip)
def c36_7 : XC := fun _ => .seq c36_3 c36_6
def c36_8 : XC := fun _ => .region [] [xo 22 (.mv (xt 6)),
 xo 4 (.mv (xt 22)),
 xo 5 (.mv (xb true))] [4,5]
def c36_9 : XC := fun _ => .seq c36_8 (fun _ => .ret)
def c36_10 : XC := fun _ => .seq c36_7 c36_9
def c36_11 : XC := fun _ => .seq c36_2 c36_10
def c36_12 : XC := fun _ => .seq c36_1 c36_11
def m_spec_AppendEntry : MCode := c36_12 ()
def h_spec_AppendEntry : Hints := [(0, [0,3], [], [], []), (1, [0,6], [[],[],[0,1]], [], []), (2, [0,6,19], [], [], []), (3, [4,5], [], [], []), (4, [4,5], [], [], [])]
def r_spec_AppendEntry : List RV := [.t 4, .t 5]
abbrev n_spec_AppendEntry : Nat := 36
theorem k_spec_AppendEntry : Known Pr mu n_spec_AppendEntry m_spec_AppendEntry r_spec_AppendEntry Go.Proofs.Try.f36.ntmps := .of h_spec_AppendEntry hm Go.Proofs.Try.func36
def c37_1 : XC := fun _ => .region [] [xo 2 (.mv (.const (.slice none 0 0)))] [0]
def c37_2 : XC := fun _ => .region [] [xo 7 (.bsl 7 0 [.int .i64 0, .int .i64 0, .int .i64 0, .int .i64 0, .int .i64 0, .int .i64 0, .int .i64 0] []),
 xo 3 (.mv (xt 7))] [0,3]
def c37_3 : XC := fun _ => .region [] [xo 4 (.mv (xi 1))] [0,3,4]
def c37_4 : XC := fun _ => .region [] [xo 8 (.mv (xt 0)),
 xo 9 (.callp 19 [(xt 8), (xi 7)]),
 xo 5 (.mv (xt 9))] [0,3,4,5]
def c37_5 : XC := fun _ => .region [] [xo 10 (.mv (xt 5)),
 xo 11 (.bin .gtr (xt 10) (xi 0))] [0,3,4,5,11]
def c37_6 : XC := fun _ => .cond (xt 11) (fun _ => .skip) (fun _ => .exit 0)
def c37_7 : XC := fun _ => .seq c37_5 c37_6
def c37_8 : XC := fun _ => .region [] [xo 14 (.mv (xt 0)),
 xo 15 (.callp 43 [(xt 14), (xi 3)])] [0,3,4,5,15]
def c37_9 : XC := fun _ => .region [] [xo 16 (.mv (xt 4)),
 xo 17 (.bin .add (xt 16) (xi 1)),
 xo 4 (.mv (xt 17))] [0,3,4,5]
def c37_10 : XC := fun _ => .cond (xt 15) c37_9 (fun _ => .skip)
def c37_11 : XC := fun _ => .seq c37_8 c37_10
def c37_12 : XC := fun _ => .region [] [xo 18 (.mv (xt 0)),
 xo 19 (.callp 40 [(xt 18)]),
 xo 6 (.alloc [.int .i64 0, .int .i64 0, .int .i64 0, .int .i64 0, .int .i64 0, .int .i64 0]),
 xn (.sto (xt 6) (xt 19) 6)] [0,3,4,5,6]
def c37_13 : XC := fun _ => .region [] [xo 20 (.mv (xt 3)),
 xo 21 (.mv (xt 4)),
 xo 22 (.ld (xt 6) 6 true),
 xo 23 (.bld [.int .i64 0, .int .i64 0, .int .i64 0, .int .i64 0, .int .i64 0, .int .i64 0, .int .i64 0] [(0, 1, (xt 21)), (1, 6, (xt 22))]),
 xo 24 (.bsl 7 1 [.int .i64 0, .int .i64 0, .int .i64 0, .int .i64 0, .int .i64 0, .int .i64 0, .int .i64 0] [(0, (xt 23))]),
 xo 25 (.app (xt 20) (xt 24) 7 56),
 xo 3 (.mv (xt 25))] [0,3,4,5]
def c37_14 : XC := fun _ => .seq c37_12 c37_13
def c37_15 : XC := fun _ => .seq c37_11 c37_14
def c37_16 : XC := fun _ => .block 1 c37_15
def c37_17 : XC := fun _ => .region [] [xo 12 (.mv (xt 5)),
 xo 13 (.bin .sub (xt 12) (xi 1)),
 xo 5 (.mv (xt 13))] [0,3,4,5]
def c37_18 : XC := fun _ => .seq c37_16 c37_17
def c37_19 : XC := fun _ => .seq c37_7 c37_18
def c37_20 : XC := fun _ => .loop c37_19
def c37_21 : XC := fun _ => .block 0 c37_20
def c37_22 : XC := fun _ => .seq c37_4 c37_21
def c37_23 : XC := fun _ => .region [] [xo 26 (.mv (xt 3)),
 xo 2 (.mv (xt 26))] [2]
def c37_24 : XC := fun _ => .seq c37_23 (fun _ => .ret)
def c37_25 : XC := fun _ => .seq c37_22 c37_24
def c37_26 : XC := fun _ => .seq c37_3 c37_25
def c37_27 : XC := fun _ => .seq c37_2 c37_26
def c37_28 : XC := fun _ => .seq c37_1 c37_27
def m_spec_l5Log : MCode := c37_28 ()
def h_spec_l5Log : Hints := [(0, [0], [], [], []), (1, [0,3], [], [], []), (2, [0,3,4], [], [], []), (3, [0,3,4,5], [], [], []), (4, [0,3,4,5,11], [], [], []), (6, [0,3,4,5,15], [], [], []), (7, [0,3,4,5], [], [], []), (8, [0,3,4,5,6], [], [], []), (9, [0,3,4,5], [], [], []), (5, [0,3,4,5], [], [], []), (10, [2], [], [], [])]
def r_spec_l5Log : List RV := [.t 2]
abbrev n_spec_l5Log : Nat := 37
theorem k_spec_l5Log : Known Pr mu n_spec_l5Log m_spec_l5Log r_spec_l5Log Go.Proofs.Try.f37.ntmps := .of h_spec_l5Log hm Go.Proofs.Try.func37
def c38_1 : XC := fun _ => .region [] [xo 2 (.mv (xi 0)),
 xo 3 (.mv (.const (.slice none 0 0)))] [0]
def c38_2 : XC := fun _ => .region [] [xo 5 (.mv (xt 0)),
 xo 6 (.call 11 [(xt 5)]),
 xo 7 (.not (xt 6))] [0,7]
def c38_3 : XC := fun _ => .region [] [xo 8 (.bsl 7 0 [.int .i64 0, .int .i64 0, .int .i64 0, .int .i64 0, .int .i64 0, .int .i64 0, .int .i64 0] []),
 xo 2 (.mv (xi 0)),
 xo 3 (.mv (xt 8))] [2,3]
def c38_4 : XC := fun _ => .seq c38_3 (fun _ => .ret)
def c38_5 : XC := fun _ => .cond (xt 7) c38_4 (fun _ => .skip)
def c38_6 : XC := fun _ => .seq c38_2 c38_5
def c38_7 : XC := fun _ => .region [] [xo 9 (.mv (xt 0)),
 xo 10 (.len false (xt 9)),
 xo 11 (.bin .sub (xt 10) (xi 3)),
 xo 12 (.mx true (xi 0) (xt 11)),
 xo 4 (.mv (xt 12))] [0,4]
def c38_8 : XC := fun _ => .region [] [xo 13 (.mv (xt 4)),
 xo 14 (.mv (xt 0)),
 xo 15 (.mv (xt 4)),
 xo 16 (.slc false (xt 14) (some (xt 15)) none none 7),
 xo 17 (.call 21 [(xt 16)]),
 xo 2 (.mv (xt 13)),
 xo 3 (.mv (xt 17))] [2,3]
def c38_9 : XC := fun _ => .seq c38_8 (fun _ => .ret)
def c38_10 : XC := fun _ => .seq c38_7 c38_9
def c38_11 : XC := fun _ => .seq c38_6 c38_10
def c38_12 : XC := fun _ => .seq c38_1 c38_11
def m_spec_CutTail : MCode := c38_12 ()
def h_spec_CutTail : Hints := [(0, [0], [], [], []), (1, [0,7], [], [], []), (2, [2,3], [], [], []), (3, [0,4], [], [], []), (4, [2,3], [], [], [])]
def r_spec_CutTail : List RV := [.t 2, .t 3]
abbrev n_spec_CutTail : Nat := 38
theorem k_spec_CutTail : Known Pr mu n_spec_CutTail m_spec_CutTail r_spec_CutTail Go.Proofs.Try.f38.ntmps := .of h_spec_CutTail hm Go.Proofs.Try.func38
def c39_1 : XC := fun _ => .region [] [xo 2 (.mv (xi 0))] [0]
def c39_2 : XC := fun _ => .region [] [xo 4 (.mv (xt 0)),
 xo 5 (.mv (xt 0)),
 xo 6 (.nck (xt 5)),
 xo 7 (.fa (xt 6) 2),
 xo 8 (.ld (xt 7) 1 false),
 xo 9 (.bin .mul (xt 8) (xi 6364136223846793005)),
 xo 10 (.bin .add (xt 9) (xi 1442695040888963407)),
 xo 11 (.nck (xt 4)),
 xo 12 (.fa (xt 11) 2),
 xn (.sto (xt 12) (xt 10) 1)] [0]
def c39_3 : XC := fun _ => .region [] [xo 13 (.mv (xt 0)),
 xo 14 (.nck (xt 13)),
 xo 15 (.fa (xt 14) 2),
 xo 16 (.ld (xt 15) 1 false),
 xo 17 (.bit .shr (xt 16) (.const (.int .u64 33))),
 xo 18 (.mv (xt 0)),
 xo 19 (.nck (xt 18)),
 ⟨(some 20), .fa (xt 19) 2, none, [0, 1, 2, 3, 4]⟩,
 ⟨(some 21), .ld (xt 20) 1 false, none, [0, 1, 2, 3, 4]⟩,
 xo 22 (.bit .shr (xt 21) (.const (.int .u64 45))),
 xo 23 (.bit .xor (xt 17) (xt 22)),
 xo 24 (.bit .and (xt 23) (xi 255)),
 xo 3 (.mv (xt 24))] [0,3]
def c39_4 : XC := fun _ => .region [] [xo 25 (.mv (xt 0)),
 xo 26 (.nck (xt 25)),
 xo 27 (.fa (xt 26) 1),
 xo 28 (.ld (xt 27) 1 false),
 xo 29 (.mv (xt 0)),
 xo 30 (.nck (xt 29)),
 ⟨(some 31), .fa (xt 30) 0, none, [0, 1, 2, 3]⟩,
 ⟨(some 32), .ld (xt 31) 1 false, none, [0, 1, 2, 3]⟩,
 xo 33 (.len false (xt 32)),
 xo 34 (.bin .lss (xt 28) (xt 33))] [0,3,34]
def c39_5 : XC := fun _ => .region [] [xo 35 (.mv (xt 3)),
 xo 36 (.mv (xt 0)),
 xo 37 (.nck (xt 36)),
 ⟨(some 38), .fa (xt 37) 0, none, [0]⟩,
 ⟨(some 39), .ld (xt 38) 1 false, none, [0]⟩,
 xo 40 (.mv (xt 0)),
 xo 41 (.nck (xt 40)),
 ⟨(some 42), .fa (xt 41) 1, none, [0, 1, 2, 3, 4]⟩,
 ⟨(some 43), .ld (xt 42) 1 false, none, [0, 1, 2, 3, 4]⟩,
 ⟨(some 44), .ia (xt 39) (xt 43) 1, none, [0]⟩,
 ⟨(some 45), .ld (xt 44) 1 false, none, [0]⟩,
 xo 46 (.conv .i64 (xt 45)),
 xo 47 (.bin .add (xt 35) (xt 46)),
 xo 48 (.bit .and (xt 47) (xi 255)),
 xo 3 (.mv (xt 48))] [0,3]
def c39_6 : XC := fun _ => .region [] [xo 49 (.mv (xt 0)),
 xo 50 (.mv (xt 0)),
 xo 51 (.nck (xt 50)),
 xo 52 (.fa (xt 51) 1),
 xo 53 (.ld (xt 52) 1 false),
 xo 54 (.bin .add (xt 53) (xi 1)),
 xo 55 (.nck (xt 49)),
 xo 56 (.fa (xt 55) 1),
 xn (.sto (xt 56) (xt 54) 1)] [3]
def c39_7 : XC := fun _ => .seq c39_5 c39_6
def c39_8 : XC := fun _ => .cond (xt 34) c39_7 (fun _ => .skip)
def c39_9 : XC := fun _ => .seq c39_4 c39_8
def c39_10 : XC := fun _ => .region [] [xo 57 (.mv (xt 3)),
 xo 2 (.mv (xt 57))] [2]
def c39_11 : XC := fun _ => .seq c39_10 (fun _ => .ret)
def c39_12 : XC := fun _ => .seq c39_9 c39_11
def c39_13 : XC := fun _ => .seq c39_3 c39_12
def c39_14 : XC := fun _ => .seq c39_2 c39_13
def c39_15 : XC := fun _ => .seq c39_1 c39_14
def m_spec_l1Byte : MCode := c39_15 ()
def h_spec_l1Byte : Hints := [(0, [0], [], [], []), (1, [0], [], [], []), (2, [0,3], [[],[],[],[],[],[],[],[0,1,2,3,4],[0,1,2,3,4]], [], []), (3, [0,3,34], [[],[],[],[],[],[],[0,1,2,3],[0,1,2,3]], [], []), (4, [0,3], [[],[],[],[0],[0],[],[],[0,1,2,3,4],[0,1,2,3,4],[0],[0]], [], []), (5, [3], [], [], []), (6, [2], [], [], [])]
def r_spec_l1Byte : List RV := [.t 2]
abbrev n_spec_l1Byte : Nat := 39
theorem k_spec_l1Byte : Known Pr mu n_spec_l1Byte m_spec_l1Byte r_spec_l1Byte Go.Proofs.Try.f39.ntmps := .of h_spec_l1Byte hm Go.Proofs.Try.func39
def c40_1 : XC := fun _ => .region [] [xo 2 (.alloc [.int .i64 0, .int .i64 0, .int .i64 0, .int .i64 0, .int .i64 0, .int .i64 0])] [0,2]
def c40_2 : XC := fun _ => .region [] [xo 4 (.mv (xt 0)),
 xo 5 (.callp 19 [(xt 4), (xi 3)]),
 xo 6 (.mv (xt 0)),
 xo 7 (.callp 19 [(xt 6), (xi 5)]),
 xo 8 (.bin .add (xi 1) (xt 7)),
 xo 9 (.mv (xt 0)),
 xo 10 (.callp 19 [(xt 9), (xi 3)]),
 xo 11 (.mv (xt 0)),
 xo 12 (.callp 19 [(xt 11), (xi 10)]),
 xo 13 (.bld [.int .i64 0, .int .i64 0, .int .i64 0, .int .i64 0, .int .i64 0, .int .i64 0] [(0, 1, (xt 5)), (1, 1, (xt 8)), (2, 1, (xi 1)), (3, 1, (xt 10)), (5, 1, (xt 12))]),
 xo 3 (.alloc [.int .i64 0, .int .i64 0, .int .i64 0, .int .i64 0, .int .i64 0, .int .i64 0]),
 xn (.sto (xt 3) (xt 13) 6)] [0,2,3]
def c40_3 : XC := fun _ => .region [] [xo 14 (.mv (xt 0)),
 xo 15 (.callp 43 [(xt 14), (xi 3)])] [0,2,3,15]
def c40_4 : XC := fun _ => .region [] [xo 16 (.fa (xt 3) 2),
 xn (.sto (xt 16) (xi 2) 1)] [0,2,3]
def c40_5 : XC := fun _ => .region [] [xo 17 (.mv (xt 0)),
 xo 18 (.bsl 1 5 [.int .i64 0] [(0, (xi 0)), (1, (xi 0)), (2, (xi 1)), (3, (xi 5)), (4, (xi 9))]),
 xo 19 (.callp 33 [(xt 17), (xt 18)]),
 xo 20 (.fa (xt 3) 4),
 xn (.sto (xt 20) (xt 19) 1)] [2,3]
def c40_6 : XC := fun _ => .seq c40_4 c40_5
def c40_7 : XC := fun _ => .cond (xt 15) c40_6 (fun _ => .skip)
def c40_8 : XC := fun _ => .seq c40_3 c40_7
def c40_9 : XC := fun _ => .region [] [xo 21 (.ld (xt 3) 6 true),
 xn (.sto (xt 2) (xt 21) 6)] [2]
def c40_10 : XC := fun _ => .seq c40_9 (fun _ => .ret)
def c40_11 : XC := fun _ => .seq c40_8 c40_10
def c40_12 : XC := fun _ => .seq c40_2 c40_11
def c40_13 : XC := fun _ => .seq c40_1 c40_12
def m_spec_l3Op : MCode := c40_13 ()
def h_spec_l3Op : Hints := [(0, [0,2], [], [], []), (1, [0,2,3], [], [], []), (2, [0,2,3,15], [], [], []), (3, [0,2,3], [], [], []), (4, [2,3], [], [], []), (5, [2], [], [], [])]
def r_spec_l3Op : List RV := [.c 2 6 true]
abbrev n_spec_l3Op : Nat := 40
theorem k_spec_l3Op : Known Pr mu n_spec_l3Op m_spec_l3Op r_spec_l3Op Go.Proofs.Try.f40.ntmps := .of h_spec_l3Op hm Go.Proofs.Try.func40
def c41_1 : XC := fun _ => .region [] [xo 1 (.box (xt 0)),
 xo 2 (.mv (xb false))] [1]
def c41_2 : XC := fun _ => .region [] [xo 3 (.fa (xt 1) 0),
 xo 4 (.ld (xt 3) 1 false),
 xo 5 (.call 32 [(xt 4), (xi 0), (xi 2)]),
 xo 6 (.not (xt 5)),
 xo 7 (.mv (xt 6)),
 ⟨(some 8), .fa (xt 1) 1, (some (7, false)), []⟩,
 ⟨(some 9), .ld (xt 8) 1 false, (some (7, false)), []⟩,
 ⟨(some 10), .call 32 [(xt 9), (xi 1), (xi 99)], (some (7, false)), []⟩,
 ⟨(some 11), .not (xt 10), (some (7, false)), []⟩,
 xo 12 (.pick (xt 7) (xb true) (xt 11)),
 xo 13 (.mv (xt 12)),
 ⟨(some 14), .fa (xt 1) 3, (some (13, false)), []⟩,
 ⟨(some 15), .ld (xt 14) 1 false, (some (13, false)), []⟩,
 ⟨(some 16), .call 32 [(xt 15), (xi 0), (xi 2)], (some (13, false)), []⟩,
 ⟨(some 17), .not (xt 16), (some (13, false)), []⟩,
 xo 18 (.pick (xt 13) (xb true) (xt 17)),
 xo 19 (.mv (xt 18)),
 ⟨(some 20), .fa (xt 1) 5, (some (19, false)), []⟩,
 ⟨(some 21), .ld (xt 20) 1 false, (some (19, false)), []⟩,
 ⟨(some 22), .call 32 [(xt 21), (xi 0), (xi 9)], (some (19, false)), []⟩,
 ⟨(some 23), .not (xt 22), (some (19, false)), []⟩,
 xo 24 (.pick (xt 19) (xb true) (xt 23))] [1,24]
def c41_3 : XC := fun _ => .region [] [xo 2 (.mv (xb false))] [2]
def c41_4 : XC := fun _ => .seq c41_3 (fun _ => .ret)
def c41_5 : XC := fun _ => .cond (xt 24) c41_4 (fun _ => .skip)
def c41_6 : XC := fun _ => .seq c41_2 c41_5
def c41_7 : XC := fun _ => .region [] [xo 25 (.fa (xt 1) 2),
 xo 26 (.ld (xt 25) 1 false),
 xo 27 (.bin .eql (xt 26) (xi 1)),
 xo 28 (.mv (xt 27)),
 ⟨(some 29), .fa (xt 1) 4, (some (28, true)), []⟩,
 ⟨(some 30), .ld (xt 29) 1 false, (some (28, true)), []⟩,
 ⟨(some 31), .bin .eql (xt 30) (xi 0), (some (28, true)), []⟩,
 xo 32 (.pick (xt 28) (xt 31) (xb false)),
 xo 33 (.mv (xt 32)),
 ⟨(some 34), .fa (xt 1) 2, (some (33, false)), []⟩,
 ⟨(some 35), .ld (xt 34) 1 false, (some (33, false)), []⟩,
 ⟨(some 36), .bin .eql (xt 35) (xi 2), (some (33, false)), []⟩,
 ⟨(some 37), .mv (xt 36), (some (33, false)), []⟩,
 ⟨(some 38), .fa (xt 1) 4, (some (37, true)), []⟩,
 ⟨(some 39), .ld (xt 38) 1 false, (some (37, true)), []⟩,
 ⟨(some 40), .call 32 [(xt 39), (xi 0), (xi 9)], (some (37, true)), []⟩,
 ⟨(some 41), .pick (xt 37) (xt 40) (xb false), (some (33, false)), []⟩,
 xo 42 (.pick (xt 33) (xb true) (xt 41)),
 xo 2 (.mv (xt 42))] [2]
def c41_8 : XC := fun _ => .seq c41_7 (fun _ => .ret)
def c41_9 : XC := fun _ => .seq c41_6 c41_8
def c41_10 : XC := fun _ => .seq c41_1 c41_9
def m_impl_IsValidOp : MCode := c41_10 ()
def h_impl_IsValidOp : Hints := [(0, [1], [], [], []), (1, [1,24], [], [], []), (2, [2], [], [], []), (3, [2], [], [], [])]
def r_impl_IsValidOp : List RV := [.t 2]
abbrev n_impl_IsValidOp : Nat := 41
theorem k_impl_IsValidOp : Known Pr mu n_impl_IsValidOp m_impl_IsValidOp r_impl_IsValidOp Go.Proofs.Try.f41.ntmps := .of h_impl_IsValidOp hm Go.Proofs.Try.func41
def c42_1 : XC := fun _ => .region [] [xo 4 (.mv (.const (.slice none 0 0)))] [0,1]
def c42_2 : XC := fun _ => .region [] [xo 5 (.mv (xt 1)),
 xo 6 (.bin .lss (xt 5) (xi 0))] [0,1,6]
def c42_3 : XC := fun _ => .region [] [xo 7 (.no),
 xn (.no)] [0,1]
def c42_4 : XC := fun _ => .cond (xt 6) c42_3 (fun _ => .skip)
def c42_5 : XC := fun _ => .seq c42_2 c42_4
def c42_6 : XC := fun _ => .region [] [xo 8 (.mv (xt 1)),
 xo 9 (.mv (xt 0)),
 xo 10 (.cap (xt 9)),
 xo 11 (.mv (xt 0)),
 xo 12 (.len false (xt 11)),
 xo 13 (.bin .sub (xt 10) (xt 12)),
 xo 14 (.bin .sub (xt 8) (xt 13)),
 xo 1 (.mv (xt 14))] [0,1]
def c42_7 : XC := fun _ => .region [] [xo 15 (.mv (xt 1)),
 xo 16 (.bin .gtr (xt 15) (xi 0))] [0,1,16]
def c42_8 : XC := fun _ => .region [] [xo 17 (.mv (xt 0)),
 xo 18 (.mv (xt 0)),
 xo 19 (.cap (xt 18)),
 xo 20 (.slc false (xt 17) none (some (xt 19)) none 7),
 xo 21 (.mv (xt 1)),
 xo 22 (.appz (xt 20) (xt 21) 7 56 [.int .i64 0, .int .i64 0, .int .i64 0, .int .i64 0, .int .i64 0, .int .i64 0, .int .i64 0]),
 xo 23 (.mv (xt 0)),
 xo 24 (.len false (xt 23)),
 xo 25 (.slc false (xt 22) none (some (xt 24)) none 7),
 xo 0 (.mv (xt 25))] [0]
def c42_9 : XC := fun _ => .cond (xt 16) c42_8 (fun _ => .skip)
def c42_10 : XC := fun _ => .seq c42_7 c42_9
def c42_11 : XC := fun _ => .seq c42_6 c42_10
def c42_12 : XC := fun _ => .region [] [xo 26 (.mv (xt 0)),
 xo 4 (.mv (xt 26))] [4]
def c42_13 : XC := fun _ => .seq c42_12 (fun _ => .ret)
def c42_14 : XC := fun _ => .seq c42_11 c42_13
def c42_15 : XC := fun _ => .seq c42_5 c42_14
def c42_16 : XC := fun _ => .seq c42_1 c42_15
def m_slices_Grow_implEntryimplEntry : MCode := c42_16 ()
def h_slices_Grow_implEntryimplEntry : Hints := [(0, [0,1], [], [], []), (1, [0,1,6], [], [], []), (2, [0,1], [], [], []), (3, [0,1], [], [], []), (4, [0,1,16], [], [], []), (5, [0], [], [], []), (6, [4], [], [], [])]
def r_slices_Grow_implEntryimplEntry : List RV := [.t 4]
abbrev n_slices_Grow_implEntryimplEntry : Nat := 42
theorem k_slices_Grow_implEntryimplEntry : Known Pr mu n_slices_Grow_implEntryimplEntry m_slices_Grow_implEntryimplEntry r_slices_Grow_implEntryimplEntry Go.Proofs.Try.f42.ntmps := .of h_slices_Grow_implEntryimplEntry hm Go.Proofs.Try.func42
def c43_1 : XC := fun _ => .region [] [xo 4 (.mv (xb false))] [0,1]
def c43_2 : XC := fun _ => .region [] [xo 5 (.mv (xt 0)),
 xo 6 (.mv (xt 1)),
 xo 7 (.callp 19 [(xt 5), (xt 6)]),
 xo 8 (.bin .eql (xt 7) (xi 0)),
 xo 4 (.mv (xt 8))] [4]
def c43_3 : XC := fun _ => .seq c43_2 (fun _ => .ret)
def c43_4 : XC := fun _ => .seq c43_1 c43_3
def m_spec_l1Once : MCode := c43_4 ()
def h_spec_l1Once : Hints := [(0, [0,1], [], [], []), (1, [4], [], [], [])]
def r_spec_l1Once : List RV := [.t 4]
abbrev n_spec_l1Once : Nat := 43
theorem k_spec_l1Once : Known Pr mu n_spec_l1Once m_spec_l1Once r_spec_l1Once Go.Proofs.Try.f43.ntmps := .of h_spec_l1Once hm Go.Proofs.Try.func43
end Go.V.T
