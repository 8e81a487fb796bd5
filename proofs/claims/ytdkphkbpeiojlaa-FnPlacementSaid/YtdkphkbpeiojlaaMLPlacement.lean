/- The short code of the functions that FnPlacement reaches, held against the program. Conditions: none. -/
import Derived.Test.YtdkphkbpeiojlaaV6
import Derived.Test.YtdkphkbpeiojlaaProg
namespace Go.V.T
open Go Go.V
noncomputable abbrev Pr := Go.Proofs.Try.prog
def mu : Nat → Bool := fun n => Nat.beq n 47 || Nat.beq n 52 || Nat.beq n 53 || Nat.beq n 58 || Nat.beq n 60 || Nat.beq n 61 || Nat.beq n 62 || Nat.beq n 64 || Nat.beq n 65 || Nat.beq n 67 || Nat.beq n 68 || Nat.beq n 71 || Nat.beq n 1000005 || Nat.beq n 1000016 || Nat.beq n 1000024 || Nat.beq n 1000025 || Nat.beq n 1000026 || Nat.beq n 1000036 || Nat.beq n 1000041 || Nat.beq n 1000042 || Nat.beq n 1000043 || Nat.beq n 1000044 || Nat.beq n 2000023
def muc : Nat → Bool := fun n => Nat.beq n 3000000 || mu n
abbrev XC := Unit → MCode
def xt (n : Nat) : Operand := .tmp n
def xi (n : Int) : Operand := .const (.int .i64 n)
def xb (b : Bool) : Operand := .const (.bool b)
def xo (d : Nat) (m : MOp) : MOper := ⟨some d, m, none, []⟩
def xn (m : MOp) : MOper := ⟨none, m, none, []⟩
theorem hm : Pr.follows .mixedOrders = true := by kernel_rfl
def c3_1 : XC := fun _ => .region [] [xo 2 (.mv (xb false))] [0]
def c3_2 : XC := fun _ => .region [] [xo 15 (.mv (xt 0)),
 xo 16 (.call 4 [(xt 15)])] [0,16]
def c3_3 : XC := fun _ => .region [] [xo 2 (.mv (xb true))] [2]
def c3_4 : XC := fun _ => .seq c3_3 (fun _ => .ret)
def c3_5 : XC := fun _ => .cond (xt 16) c3_4 (fun _ => .skip)
def c3_6 : XC := fun _ => .seq c3_2 c3_5
def c3_7 : XC := fun _ => .region [] [xo 18 (.mv (xt 0)),
 xo 19 (.callp 5 [(xt 18)]),
 xo 17 (.mv (xt 19)),
 xo 20 (.ext (xt 17) 0),
 xo 21 (.ext (xt 17) 1),
 xo 22 (.ext (xt 17) 2),
 xo 23 (.ext (xt 17) 3),
 xo 3 (.mv (xt 20)),
 xo 4 (.mv (xt 21)),
 xo 5 (.mv (xt 22)),
 xo 6 (.mv (xt 23))] [0,3,4,5,6]
def c3_8 : XC := fun _ => .region [] [xo 24 (.mv (xt 3)),
 xo 25 (.mv (xt 4)),
 xo 26 (.mv (xt 5)),
 xo 27 (.mv (xt 6)),
 xo 28 (.call 6 [(xt 24), (xt 25), (xt 26), (xt 27)]),
 xo 7 (.mv (xt 28))] [0,3,4,5,6,7]
def c3_9 : XC := fun _ => .region [] [xo 29 (.mv (xt 7)),
 xo 30 (.mv (xt 3)),
 xo 31 (.mv (xt 4)),
 xo 32 (.mv (xt 5)),
 xo 33 (.mv (xt 6)),
 xo 34 (.call 8 [(xt 30), (xt 31), (xt 32), (xt 33)]),
 xo 35 (.call 7 [(xt 29), (xt 34)]),
 xo 36 (.not (xt 35))] [0,3,4,5,6,7,36]
def c3_10 : XC := fun _ => .region [] [xo 2 (.mv (xb false))] [2]
def c3_11 : XC := fun _ => .seq c3_10 (fun _ => .ret)
def c3_12 : XC := fun _ => .cond (xt 36) c3_11 (fun _ => .skip)
def c3_13 : XC := fun _ => .seq c3_9 c3_12
def c3_14 : XC := fun _ => .region [] [xo 37 (.mv (xt 3)),
 xo 38 (.call 9 [(xt 37)]),
 xo 39 (.mv (xt 38)),
 ⟨(some 40), .mv (xt 4), (some (39, true)), []⟩,
 ⟨(some 41), .call 10 [(xt 40)], (some (39, true)), []⟩,
 xo 42 (.pick (xt 39) (xt 41) (xb false)),
 xo 43 (.mv (xt 42)),
 ⟨(some 44), .mv (xt 5), (some (43, true)), []⟩,
 ⟨(some 45), .call 10 [(xt 44)], (some (43, true)), []⟩,
 xo 46 (.pick (xt 43) (xt 45) (xb false)),
 xo 47 (.mv (xt 46)),
 ⟨(some 48), .mv (xt 6), (some (47, true)), []⟩,
 ⟨(some 49), .bin .geq (xt 48) (xi 0), (some (47, true)), []⟩,
 xo 50 (.pick (xt 47) (xt 49) (xb false)),
 xo 51 (.mv (xt 50)),
 ⟨(some 52), .mv (xt 6), (some (51, true)), []⟩,
 ⟨(some 53), .bin .leq (xt 52) (xi 5), (some (51, true)), []⟩,
 xo 54 (.pick (xt 51) (xt 53) (xb false))] [0,3,4,5,6,7,54]
def c3_15 : XC := fun _ => .region [] [xo 55 (.mv (xt 4)),
 xo 56 (.mv (xt 5)),
 xo 57 (.call 11 [(xt 55), (xt 56)]),
 xo 8 (.mv (xt 57))] [0,3,5,6,7,8]
def c3_16 : XC := fun _ => .region [] [xo 58 (.mv (xt 7)),
 xo 59 (.mv (xt 8)),
 xo 60 (.call 12 [(xt 58), (xt 59)]),
 xo 9 (.mv (xt 60))] [0,3,5,6,7,8,9]
def c3_17 : XC := fun _ => .region [] [xo 61 (.mv (xt 7)),
 xo 62 (.mv (xt 8)),
 xo 63 (.call 11 [(xt 61), (xt 62)]),
 xo 64 (.len false (xt 63)),
 xo 65 (.mv (xt 8)),
 xo 66 (.len false (xt 65)),
 xo 67 (.bin .neq (xt 64) (xt 66)),
 xo 68 (.mv (xt 67)),
 ⟨(some 69), .mv (xt 7), (some (68, false)), []⟩,
 ⟨(some 70), .len false (xt 69), (some (68, false)), []⟩,
 ⟨(some 71), .mv (xt 6), (some (68, false)), []⟩,
 ⟨(some 72), .mv (xt 8), (some (68, false)), []⟩,
 ⟨(some 73), .len false (xt 72), (some (68, false)), []⟩,
 ⟨(some 74), .mx true (xt 71) (xt 73), (some (68, false)), []⟩,
 ⟨(some 75), .bin .gtr (xt 70) (xt 74), (some (68, false)), []⟩,
 xo 76 (.pick (xt 68) (xb true) (xt 75)),
 xo 77 (.mv (xt 76)),
 ⟨(some 78), .mv (xt 8), (some (77, false)), []⟩,
 ⟨(some 79), .mv (xt 7), (some (77, false)), []⟩,
 ⟨(some 80), .call 13 [(xt 78), (xt 79)], (some (77, false)), []⟩,
 ⟨(some 81), .mv (xt 9), (some (77, false)), []⟩,
 ⟨(some 82), .len false (xt 81), (some (77, false)), []⟩,
 ⟨(some 83), .bin .neq (xt 80) (xt 82), (some (77, false)), []⟩,
 xo 84 (.pick (xt 77) (xb true) (xt 83))] [0,3,5,9,84]
def c3_18 : XC := fun _ => .region [] [xo 2 (.mv (xb false))] [2]
def c3_19 : XC := fun _ => .seq c3_18 (fun _ => .ret)
def c3_20 : XC := fun _ => .cond (xt 84) c3_19 (fun _ => .skip)
def c3_21 : XC := fun _ => .seq c3_17 c3_20
def c3_22 : XC := fun _ => .region [] [xo 10 (.mv (xi 0))] [0,3,5,9,10]
def c3_23 : XC := fun _ => .region [] [xo 85 (.mv (xt 10)),
 xo 86 (.mv (xt 9)),
 xo 87 (.len false (xt 86)),
 xo 88 (.bin .lss (xt 85) (xt 87))] [0,3,5,9,10,88]
def c3_24 : XC := fun _ => .cond (xt 88) (fun _ => .skip) (fun _ => .exit 0)
def c3_25 : XC := fun _ => .seq c3_23 c3_24
def c3_26 : XC := fun _ => .region [] [xo 91 (.mv (xt 3)),
 xo 92 (.mv (xt 9)),
 xo 93 (.mv (xt 10)),
 xo 94 (.ia (xt 92) (xt 93) 1),
 xo 95 (.ld (xt 94) 1 false),
 xo 96 (.call 14 [(xt 91), (xt 95)]),
 xo 97 (.not (xt 96)),
 xo 98 (.mv (xt 97)),
 ⟨(some 99), .mv (xt 5), (some (98, false)), []⟩,
 ⟨(some 100), .mv (xt 9), (some (98, false)), []⟩,
 ⟨(some 101), .mv (xt 10), (some (98, false)), []⟩,
 ⟨(some 102), .ia (xt 100) (xt 101) 1, (some (98, false)), []⟩,
 ⟨(some 103), .ld (xt 102) 1 false, (some (98, false)), []⟩,
 ⟨(some 104), .call 15 [(xt 99), (xt 103)], (some (98, false)), []⟩,
 ⟨(some 105), .not (xt 104), (some (98, false)), []⟩,
 xo 106 (.pick (xt 98) (xb true) (xt 105))] [0,3,5,9,10,106]
def c3_27 : XC := fun _ => .region [] [xo 2 (.mv (xb false))] [2]
def c3_28 : XC := fun _ => .seq c3_27 (fun _ => .ret)
def c3_29 : XC := fun _ => .cond (xt 106) c3_28 (fun _ => .skip)
def c3_30 : XC := fun _ => .seq c3_26 c3_29
def c3_31 : XC := fun _ => .block 1 c3_30
def c3_32 : XC := fun _ => .region [] [xo 89 (.mv (xt 10)),
 xo 90 (.bin .add (xt 89) (xi 1)),
 xo 10 (.mv (xt 90))] [0,3,5,9,10]
def c3_33 : XC := fun _ => .seq c3_31 c3_32
def c3_34 : XC := fun _ => .seq c3_25 c3_33
def c3_35 : XC := fun _ => .loop c3_34
def c3_36 : XC := fun _ => .block 0 c3_35
def c3_37 : XC := fun _ => .seq c3_22 c3_36
def c3_38 : XC := fun _ => .seq c3_21 c3_37
def c3_39 : XC := fun _ => .seq c3_16 c3_38
def c3_40 : XC := fun _ => .seq c3_15 c3_39
def c3_41 : XC := fun _ => .cond (xt 54) c3_40 (fun _ => .skip)
def c3_42 : XC := fun _ => .seq c3_14 c3_41
def c3_43 : XC := fun _ => .region [] [xo 108 (.mv (xt 0)),
 xo 109 (.callp 16 [(xt 108)]),
 xo 107 (.mv (xt 109)),
 xo 110 (.ext (xt 107) 0),
 xo 111 (.ext (xt 107) 1),
 xo 112 (.ext (xt 107) 2),
 xo 11 (.mv (xt 110)),
 xo 12 (.mv (xt 111)),
 xo 13 (.mv (xt 112))] [11,12,13]
def c3_44 : XC := fun _ => .region [] [xo 113 (.mv (xt 11)),
 xo 114 (.mv (xt 12)),
 xo 115 (.mv (xt 13)),
 xo 116 (.call 17 [(xt 113), (xt 114), (xt 115)]),
 xo 14 (.mv (xt 116))] [11,12,13,14]
def c3_45 : XC := fun _ => .region [] [xo 117 (.mv (xt 14)),
 xo 118 (.mv (xt 11)),
 xo 119 (.mv (xt 12)),
 xo 120 (.mv (xt 13)),
 xo 121 (.call 18 [(xt 118), (xt 119), (xt 120)]),
 xo 122 (.bin .neq (xt 117) (xt 121)),
 xo 123 (.mv (xt 122)),
 ⟨(some 124), .mv (xt 11), (some (123, false)), []⟩,
 ⟨(some 125), .mv (xt 12), (some (123, false)), []⟩,
 ⟨(some 126), .call 19 [(xt 124), (xt 125)], (some (123, false)), []⟩,
 ⟨(some 127), .mv (xt 11), (some (123, false)), []⟩,
 ⟨(some 128), .mv (xt 12), (some (123, false)), []⟩,
 ⟨(some 129), .call 20 [(xt 127), (xt 128)], (some (123, false)), []⟩,
 ⟨(some 130), .call 7 [(xt 126), (xt 129)], (some (123, false)), []⟩,
 ⟨(some 131), .not (xt 130), (some (123, false)), []⟩,
 xo 132 (.pick (xt 123) (xb true) (xt 131)),
 xo 133 (.mv (xt 132)),
 ⟨(some 134), .mv (xt 11), (some (133, false)), []⟩,
 ⟨(some 135), .mv (xt 12), (some (133, false)), []⟩,
 ⟨(some 136), .call 21 [(xt 134), (xt 135)], (some (133, false)), []⟩,
 ⟨(some 137), .mv (xt 11), (some (133, false)), []⟩,
 ⟨(some 138), .mv (xt 12), (some (133, false)), []⟩,
 ⟨(some 139), .call 22 [(xt 137), (xt 138)], (some (133, false)), []⟩,
 ⟨(some 140), .bbin .neq (xt 136) (xt 139), (some (133, false)), []⟩,
 xo 141 (.pick (xt 133) (xb true) (xt 140))] [11,12,13,14,141]
def c3_46 : XC := fun _ => .region [] [xo 2 (.mv (xb false))] [2]
def c3_47 : XC := fun _ => .seq c3_46 (fun _ => .ret)
def c3_48 : XC := fun _ => .cond (xt 141) c3_47 (fun _ => .skip)
def c3_49 : XC := fun _ => .seq c3_45 c3_48
def c3_50 : XC := fun _ => .region [] [xo 142 (.mv (xt 14)),
 xo 143 (.bin .lss (xt 142) (xi 0)),
 xo 144 (.mv (xt 143)),
 ⟨(some 145), .mv (xt 11), (some (144, false)), []⟩,
 ⟨(some 146), .mv (xt 14), (some (144, false)), []⟩,
 ⟨(some 147), .call 14 [(xt 145), (xt 146)], (some (144, false)), []⟩,
 ⟨(some 148), .mv (xt 147), (some (144, false)), []⟩,
 ⟨(some 149), .mv (xt 12), (some (148, true)), []⟩,
 ⟨(some 150), .mv (xt 14), (some (148, true)), []⟩,
 ⟨(some 151), .call 15 [(xt 149), (xt 150)], (some (148, true)), []⟩,
 ⟨(some 152), .not (xt 151), (some (148, true)), []⟩,
 ⟨(some 153), .pick (xt 148) (xt 152) (xb false), (some (144, false)), []⟩,
 ⟨(some 154), .mv (xt 153), (some (144, false)), []⟩,
 ⟨(some 155), .mv (xt 13), (some (154, true)), []⟩,
 ⟨(some 156), .mv (xt 14), (some (154, true)), []⟩,
 ⟨(some 157), .call 15 [(xt 155), (xt 156)], (some (154, true)), []⟩,
 ⟨(some 158), .not (xt 157), (some (154, true)), []⟩,
 ⟨(some 159), .pick (xt 154) (xt 158) (xb false), (some (144, false)), []⟩,
 xo 160 (.pick (xt 144) (xb true) (xt 159)),
 xo 2 (.mv (xt 160))] [2]
def c3_51 : XC := fun _ => .seq c3_50 (fun _ => .ret)
def c3_52 : XC := fun _ => .seq c3_49 c3_51
def c3_53 : XC := fun _ => .seq c3_44 c3_52
def c3_54 : XC := fun _ => .seq c3_43 c3_53
def c3_55 : XC := fun _ => .seq c3_42 c3_54
def c3_56 : XC := fun _ => .seq c3_13 c3_55
def c3_57 : XC := fun _ => .seq c3_8 c3_56
def c3_58 : XC := fun _ => .seq c3_7 c3_57
def c3_59 : XC := fun _ => .seq c3_6 c3_58
def c3_60 : XC := fun _ => .seq c3_1 c3_59
def m_laws_FnPlacement : MCode := c3_60 ()
def h_laws_FnPlacement : Hints := [(0, [0], [], [], []), (1, [0,16], [], [], []), (2, [2], [], [], []), (3, [0,3,4,5,6], [], [], []), (4, [0,3,4,5,6,7], [], [], []), (5, [0,3,4,5,6,7,36], [], [], []), (6, [2], [], [], []), (7, [0,3,4,5,6,7,54], [], [], []), (8, [0,3,5,6,7,8], [], [], []), (9, [0,3,5,6,7,8,9], [], [], []), (10, [0,3,5,9,84], [], [], []), (11, [2], [], [], []), (12, [0,3,5,9,10], [], [], []), (13, [0,3,5,9,10,88], [], [], []), (15, [0,3,5,9,10,106], [], [], []), (16, [2], [], [], []), (14, [0,3,5,9,10], [], [], []), (17, [11,12,13], [], [], []), (18, [11,12,13,14], [], [], []), (19, [11,12,13,14,141], [], [], []), (20, [2], [], [], []), (21, [2], [], [], [])]
def r_laws_FnPlacement : List RV := [.t 2]
abbrev n_laws_FnPlacement : Nat := 3
theorem k_laws_FnPlacement : Known Pr mu n_laws_FnPlacement m_laws_FnPlacement r_laws_FnPlacement Go.Proofs.Try.f3.ntmps := .of h_laws_FnPlacement hm Go.Proofs.Try.func3
def c4_1 : XC := fun _ => .region [] [xo 2 (.mv (xb false))] [0]
def c4_2 : XC := fun _ => .region [] [xo 3 (.mv (xt 0)),
 xo 4 (.len false (xt 3)),
 xo 5 (.bin .gtr (xt 4) (xi 1048576)),
 xo 2 (.mv (xt 5))] [2]
def c4_3 : XC := fun _ => .seq c4_2 (fun _ => .ret)
def c4_4 : XC := fun _ => .seq c4_1 c4_3
def m_laws_big : MCode := c4_4 ()
def h_laws_big : Hints := [(0, [0], [], [], []), (1, [2], [], [], [])]
def r_laws_big : List RV := [.t 2]
abbrev n_laws_big : Nat := 4
theorem k_laws_big : Known Pr mu n_laws_big m_laws_big r_laws_big Go.Proofs.Try.f4.ntmps := .of h_laws_big hm Go.Proofs.Try.func4
def c5_1 : XC := fun _ => .region [] [xo 2 (.mv (.const (.slice none 0 0))),
 xo 3 (.mv (.const (.slice none 0 0))),
 xo 4 (.mv (.const (.slice none 0 0))),
 xo 5 (.mv (xi 0))] [0]
def c5_2 : XC := fun _ => .region [] [xo 10 (.mv (xt 0)),
 xo 11 (.calln 23 [(xt 10)]),
 xo 6 (.mv (xt 11))] [6]
def c5_3 : XC := fun _ => .region [] [xo 12 (.mv (xt 6)),
 xo 13 (.callp 24 [(xt 12)]),
 xo 7 (.mv (xt 13))] [6,7]
def c5_4 : XC := fun _ => .region [] [xo 14 (.mv (xt 6)),
 xo 15 (.callp 25 [(xt 14)]),
 xo 8 (.mv (xt 15))] [6,7,8]
def c5_5 : XC := fun _ => .region [] [xo 16 (.mv (xt 6)),
 xo 17 (.callp 25 [(xt 16)]),
 xo 9 (.mv (xt 17))] [6,7,8,9]
def c5_6 : XC := fun _ => .region [] [xo 18 (.mv (xt 7)),
 xo 19 (.mv (xt 8)),
 xo 20 (.mv (xt 9)),
 xo 21 (.mv (xt 6)),
 xo 22 (.callp 26 [(xt 21), (xi 8)]),
 xo 23 (.bin .sub (xt 22) (xi 1)),
 xo 2 (.mv (xt 18)),
 xo 3 (.mv (xt 19)),
 xo 4 (.mv (xt 20)),
 xo 5 (.mv (xt 23))] [2,3,4,5]
def c5_7 : XC := fun _ => .seq c5_6 (fun _ => .ret)
def c5_8 : XC := fun _ => .seq c5_5 c5_7
def c5_9 : XC := fun _ => .seq c5_4 c5_8
def c5_10 : XC := fun _ => .seq c5_3 c5_9
def c5_11 : XC := fun _ => .seq c5_2 c5_10
def c5_12 : XC := fun _ => .seq c5_1 c5_11
def m_spec_DrawPlanMembers : MCode := c5_12 ()
def h_spec_DrawPlanMembers : Hints := [(0, [0], [], [], []), (1, [6], [], [], []), (2, [6,7], [], [], []), (3, [6,7,8], [], [], []), (4, [6,7,8,9], [], [], []), (5, [2,3,4,5], [], [], [])]
def r_spec_DrawPlanMembers : List RV := [.t 2, .t 3, .t 4, .t 5]
abbrev n_spec_DrawPlanMembers : Nat := 5
theorem k_spec_DrawPlanMembers : Known Pr muc n_spec_DrawPlanMembers m_spec_DrawPlanMembers r_spec_DrawPlanMembers Go.Proofs.Try.f5.ntmps := .of h_spec_DrawPlanMembers hm Go.Proofs.Try.func5
def c6_1 : XC := fun _ => .region [] [xo 8 (.mv (.const (.slice none 0 0)))] [0,1,2,3]
def c6_2 : XC := fun _ => .region [] [xo 12 (.mv (xt 0)),
 xo 13 (.call 27 [(xt 12)]),
 xo 14 (.not (xt 13)),
 xo 15 (.mv (xt 14)),
 ⟨(some 16), .mv (xt 1), (some (15, false)), []⟩,
 ⟨(some 17), .call 28 [(xt 16)], (some (15, false)), []⟩,
 ⟨(some 18), .not (xt 17), (some (15, false)), []⟩,
 xo 19 (.pick (xt 15) (xb true) (xt 18)),
 xo 20 (.mv (xt 19)),
 ⟨(some 21), .mv (xt 2), (some (20, false)), []⟩,
 ⟨(some 22), .call 28 [(xt 21)], (some (20, false)), []⟩,
 ⟨(some 23), .not (xt 22), (some (20, false)), []⟩,
 xo 24 (.pick (xt 20) (xb true) (xt 23)),
 xo 25 (.mv (xt 24)),
 ⟨(some 26), .mv (xt 3), (some (25, false)), []⟩,
 ⟨(some 27), .call 29 [(xt 26), (xi 0), (xi 5)], (some (25, false)), []⟩,
 ⟨(some 28), .not (xt 27), (some (25, false)), []⟩,
 xo 29 (.pick (xt 25) (xb true) (xt 28))] [0,1,2,3,29]
def c6_3 : XC := fun _ => .region [] [xo 30 (.bsl 1 0 [.int .i64 0] []),
 xo 8 (.mv (xt 30))] [8]
def c6_4 : XC := fun _ => .seq c6_3 (fun _ => .ret)
def c6_5 : XC := fun _ => .cond (xt 29) c6_4 (fun _ => .skip)
def c6_6 : XC := fun _ => .seq c6_2 c6_5
def c6_7 : XC := fun _ => .region [] [xo 31 (.mv (xt 1)),
 xo 32 (.mv (xt 2)),
 xo 33 (.call 30 [(xt 31), (xt 32)]),
 xo 34 (.call 32 []),
 xo 35 (.mv (xt 2)),
 xo 36 (.call 31 [(xt 34), (xt 35)]),
 xo 9 (.mv (xt 33)),
 xo 10 (.mv (xt 36))] [0,3,9,10]
def c6_8 : XC := fun _ => .region [] [xo 37 (.mv (xt 9)),
 xo 38 (.len false (xt 37)),
 xo 39 (.mv (xt 3)),
 xo 40 (.bin .lss (xt 38) (xt 39))] [0,3,9,10,40]
def c6_9 : XC := fun _ => .cond (xt 40) (fun _ => .skip) (fun _ => .exit 0)
def c6_10 : XC := fun _ => .seq c6_8 c6_9
def c6_11 : XC := fun _ => .region [] [xo 41 (.mv (xt 0)),
 xo 42 (.mv (xt 9)),
 xo 43 (.mv (xt 10)),
 xo 44 (.call 17 [(xt 41), (xt 42), (xt 43)]),
 xo 11 (.mv (xt 44))] [0,3,9,10,11]
def c6_12 : XC := fun _ => .region [] [xo 45 (.mv (xt 11)),
 xo 46 (.bin .lss (xt 45) (xi 0))] [0,3,9,10,11,46]
def c6_13 : XC := fun _ => .cond (xt 46) (fun _ => .exit 0) (fun _ => .skip)
def c6_14 : XC := fun _ => .seq c6_12 c6_13
def c6_15 : XC := fun _ => .region [] [xo 47 (.mv (xt 9)),
 xo 48 (.mv (xt 11)),
 xo 49 (.bsl 1 1 [.int .i64 0] [(0, (xt 48))]),
 xo 50 (.call 33 [(xt 47), (xt 49)]),
 xo 9 (.mv (xt 50))] [0,3,9,10]
def c6_16 : XC := fun _ => .seq c6_14 c6_15
def c6_17 : XC := fun _ => .seq c6_11 c6_16
def c6_18 : XC := fun _ => .block 1 c6_17
def c6_19 : XC := fun _ => .seq c6_10 c6_18
def c6_20 : XC := fun _ => .loop c6_19
def c6_21 : XC := fun _ => .block 0 c6_20
def c6_22 : XC := fun _ => .region [] [xo 51 (.mv (xt 9)),
 xo 8 (.mv (xt 51))] [8]
def c6_23 : XC := fun _ => .seq c6_22 (fun _ => .ret)
def c6_24 : XC := fun _ => .seq c6_21 c6_23
def c6_25 : XC := fun _ => .seq c6_7 c6_24
def c6_26 : XC := fun _ => .seq c6_6 c6_25
def c6_27 : XC := fun _ => .seq c6_1 c6_26
def m_impl_PlanMembers : MCode := c6_27 ()
def h_impl_PlanMembers : Hints := [(0, [0,1,2,3], [], [], []), (1, [0,1,2,3,29], [], [], []), (2, [8], [], [], []), (3, [0,3,9,10], [], [], []), (4, [0,3,9,10,40], [], [], []), (5, [0,3,9,10,11], [], [], []), (6, [0,3,9,10,11,46], [], [], []), (7, [0,3,9,10], [], [], []), (8, [8], [], [], [])]
def r_impl_PlanMembers : List RV := [.t 8]
abbrev n_impl_PlanMembers : Nat := 6
theorem k_impl_PlanMembers : Known Pr mu n_impl_PlanMembers m_impl_PlanMembers r_impl_PlanMembers Go.Proofs.Try.f6.ntmps := .of h_impl_PlanMembers hm Go.Proofs.Try.func6
def c7_1 : XC := fun _ => .region [] [xo 4 (.mv (xb false))] [0,1]
def c7_2 : XC := fun _ => .region [] [xo 6 (.mv (xt 0)),
 xo 7 (.len false (xt 6)),
 xo 8 (.mv (xt 1)),
 xo 9 (.len false (xt 8)),
 xo 10 (.bin .neq (xt 7) (xt 9))] [0,1,10]
def c7_3 : XC := fun _ => .region [] [xo 4 (.mv (xb false))] [4]
def c7_4 : XC := fun _ => .seq c7_3 (fun _ => .ret)
def c7_5 : XC := fun _ => .cond (xt 10) c7_4 (fun _ => .skip)
def c7_6 : XC := fun _ => .seq c7_2 c7_5
def c7_7 : XC := fun _ => .region [] [xo 5 (.mv (xi 0))] [0,1,5]
def c7_8 : XC := fun _ => .region [] [xo 11 (.mv (xt 5)),
 xo 12 (.mv (xt 0)),
 xo 13 (.len false (xt 12)),
 xo 14 (.bin .lss (xt 11) (xt 13))] [0,1,5,14]
def c7_9 : XC := fun _ => .cond (xt 14) (fun _ => .skip) (fun _ => .exit 0)
def c7_10 : XC := fun _ => .seq c7_8 c7_9
def c7_11 : XC := fun _ => .region [] [xo 17 (.mv (xt 0)),
 xo 18 (.mv (xt 5)),
 xo 19 (.ia (xt 17) (xt 18) 1),
 xo 20 (.ld (xt 19) 1 false),
 xo 21 (.mv (xt 1)),
 xo 22 (.mv (xt 5)),
 ⟨(some 23), .ia (xt 21) (xt 22) 1, none, [0, 1, 2, 3]⟩,
 ⟨(some 24), .ld (xt 23) 1 false, none, [0, 1, 2, 3]⟩,
 xo 25 (.bin .neq (xt 20) (xt 24))] [0,1,5,25]
def c7_12 : XC := fun _ => .region [] [xo 4 (.mv (xb false))] [4]
def c7_13 : XC := fun _ => .seq c7_12 (fun _ => .ret)
def c7_14 : XC := fun _ => .cond (xt 25) c7_13 (fun _ => .skip)
def c7_15 : XC := fun _ => .seq c7_11 c7_14
def c7_16 : XC := fun _ => .block 1 c7_15
def c7_17 : XC := fun _ => .region [] [xo 15 (.mv (xt 5)),
 xo 16 (.bin .add (xt 15) (xi 1)),
 xo 5 (.mv (xt 16))] [0,1,5]
def c7_18 : XC := fun _ => .seq c7_16 c7_17
def c7_19 : XC := fun _ => .seq c7_10 c7_18
def c7_20 : XC := fun _ => .loop c7_19
def c7_21 : XC := fun _ => .block 0 c7_20
def c7_22 : XC := fun _ => .seq c7_7 c7_21
def c7_23 : XC := fun _ => .region [] [xo 4 (.mv (xb true))] [4]
def c7_24 : XC := fun _ => .seq c7_23 (fun _ => .ret)
def c7_25 : XC := fun _ => .seq c7_22 c7_24
def c7_26 : XC := fun _ => .seq c7_6 c7_25
def c7_27 : XC := fun _ => .seq c7_1 c7_26
def m_laws_sameInts : MCode := c7_27 ()
def h_laws_sameInts : Hints := [(0, [0,1], [], [], []), (1, [0,1,10], [], [], []), (2, [4], [], [], []), (3, [0,1,5], [], [], []), (4, [0,1,5,14], [], [], []), (6, [0,1,5,25], [[],[],[],[],[],[],[0,1,2,3],[0,1,2,3]], [], []), (7, [4], [], [], []), (5, [0,1,5], [], [], []), (8, [4], [], [], [])]
def r_laws_sameInts : List RV := [.t 4]
abbrev n_laws_sameInts : Nat := 7
theorem k_laws_sameInts : Known Pr mu n_laws_sameInts m_laws_sameInts r_laws_sameInts Go.Proofs.Try.f7.ntmps := .of h_laws_sameInts hm Go.Proofs.Try.func7
def c8_1 : XC := fun _ => .region [] [xo 8 (.mv (.const (.slice none 0 0)))] [0,1,2,3]
def c8_2 : XC := fun _ => .region [] [xo 12 (.mv (xt 1)),
 xo 13 (.mv (xt 2)),
 xo 14 (.call 11 [(xt 12), (xt 13)]),
 xo 9 (.mv (xt 14))] [0,1,2,3,9]
def c8_3 : XC := fun _ => .region [] [xo 15 (.bsl 1 5 [.int .i64 0] [(0, (xi 0)), (1, (xi 1)), (2, (xi 2)), (3, (xi 3)), (4, (xi 4))]),
 xo 16 (.mv (xt 2)),
 xo 17 (.call 12 [(xt 15), (xt 16)]),
 xo 10 (.mv (xt 17))] [0,1,2,3,9,10]
def c8_4 : XC := fun _ => .region [] [xo 18 (.mv (xt 0)),
 xo 19 (.call 9 [(xt 18)]),
 xo 20 (.not (xt 19)),
 xo 21 (.mv (xt 20)),
 ⟨(some 22), .mv (xt 1), (some (21, false)), []⟩,
 ⟨(some 23), .call 10 [(xt 22)], (some (21, false)), []⟩,
 ⟨(some 24), .not (xt 23), (some (21, false)), []⟩,
 xo 25 (.pick (xt 21) (xb true) (xt 24)),
 xo 26 (.mv (xt 25)),
 ⟨(some 27), .mv (xt 2), (some (26, false)), []⟩,
 ⟨(some 28), .call 10 [(xt 27)], (some (26, false)), []⟩,
 ⟨(some 29), .not (xt 28), (some (26, false)), []⟩,
 xo 30 (.pick (xt 26) (xb true) (xt 29)),
 xo 31 (.mv (xt 30)),
 ⟨(some 32), .mv (xt 3), (some (31, false)), []⟩,
 ⟨(some 33), .call 34 [(xt 32), (xi 0), (xi 5)], (some (31, false)), []⟩,
 ⟨(some 34), .not (xt 33), (some (31, false)), []⟩,
 xo 35 (.pick (xt 31) (xb true) (xt 34))] [0,3,9,10,35]
def c8_5 : XC := fun _ => .region [] [xo 36 (.bsl 1 0 [.int .i64 0] []),
 xo 8 (.mv (xt 36))] [8]
def c8_6 : XC := fun _ => .seq c8_5 (fun _ => .ret)
def c8_7 : XC := fun _ => .cond (xt 35) c8_6 (fun _ => .skip)
def c8_8 : XC := fun _ => .seq c8_4 c8_7
def c8_9 : XC := fun _ => .region [] [xo 37 (.mv (xt 9)),
 xo 38 (.len false (xt 37)),
 xo 39 (.mv (xt 3)),
 xo 40 (.bin .lss (xt 38) (xt 39))] [0,3,9,10,40]
def c8_10 : XC := fun _ => .cond (xt 40) (fun _ => .skip) (fun _ => .exit 0)
def c8_11 : XC := fun _ => .seq c8_9 c8_10
def c8_12 : XC := fun _ => .region [] [xo 41 (.mv (xt 0)),
 xo 42 (.mv (xt 9)),
 xo 43 (.mv (xt 10)),
 xo 44 (.call 18 [(xt 41), (xt 42), (xt 43)]),
 xo 11 (.mv (xt 44))] [0,3,9,10,11]
def c8_13 : XC := fun _ => .region [] [xo 45 (.mv (xt 11)),
 xo 46 (.bin .lss (xt 45) (xi 0))] [0,3,9,10,11,46]
def c8_14 : XC := fun _ => .region [] [xo 47 (.mv (xt 9)),
 xo 8 (.mv (xt 47))] [8]
def c8_15 : XC := fun _ => .seq c8_14 (fun _ => .ret)
def c8_16 : XC := fun _ => .cond (xt 46) c8_15 (fun _ => .skip)
def c8_17 : XC := fun _ => .seq c8_13 c8_16
def c8_18 : XC := fun _ => .region [] [xo 48 (.mv (xt 9)),
 xo 49 (.mv (xt 11)),
 xo 50 (.call 35 [(xt 48), (xt 49)]),
 xo 9 (.mv (xt 50))] [0,3,9,10]
def c8_19 : XC := fun _ => .seq c8_17 c8_18
def c8_20 : XC := fun _ => .seq c8_12 c8_19
def c8_21 : XC := fun _ => .block 1 c8_20
def c8_22 : XC := fun _ => .seq c8_11 c8_21
def c8_23 : XC := fun _ => .loop c8_22
def c8_24 : XC := fun _ => .block 0 c8_23
def c8_25 : XC := fun _ => .region [] [xo 51 (.mv (xt 9)),
 xo 8 (.mv (xt 51))] [8]
def c8_26 : XC := fun _ => .seq c8_25 (fun _ => .ret)
def c8_27 : XC := fun _ => .seq c8_24 c8_26
def c8_28 : XC := fun _ => .seq c8_8 c8_27
def c8_29 : XC := fun _ => .seq c8_3 c8_28
def c8_30 : XC := fun _ => .seq c8_2 c8_29
def c8_31 : XC := fun _ => .seq c8_1 c8_30
def m_spec_PlanMembers : MCode := c8_31 ()
def h_spec_PlanMembers : Hints := [(0, [0,1,2,3], [], [], []), (1, [0,1,2,3,9], [], [], []), (2, [0,1,2,3,9,10], [], [], []), (3, [0,3,9,10,35], [], [], []), (4, [8], [], [], []), (5, [0,3,9,10,40], [], [], []), (6, [0,3,9,10,11], [], [], []), (7, [0,3,9,10,11,46], [], [], []), (8, [8], [], [], []), (9, [0,3,9,10], [], [], []), (10, [8], [], [], [])]
def r_spec_PlanMembers : List RV := [.t 8]
abbrev n_spec_PlanMembers : Nat := 8
theorem k_spec_PlanMembers : Known Pr mu n_spec_PlanMembers m_spec_PlanMembers r_spec_PlanMembers Go.Proofs.Try.f8.ntmps := .of h_spec_PlanMembers hm Go.Proofs.Try.func8
def c9_1 : XC := fun _ => .region [] [xo 2 (.mv (xb false))] [0]
def c9_2 : XC := fun _ => .region [] [xo 3 (.mv (xi 0))] [0,3]
def c9_3 : XC := fun _ => .region [] [xo 4 (.mv (xt 3)),
 xo 5 (.mv (xt 0)),
 xo 6 (.len false (xt 5)),
 xo 7 (.bin .lss (xt 4) (xt 6))] [0,3,7]
def c9_4 : XC := fun _ => .cond (xt 7) (fun _ => .skip) (fun _ => .exit 0)
def c9_5 : XC := fun _ => .seq c9_3 c9_4
def c9_6 : XC := fun _ => .region [] [xo 10 (.mv (xt 0)),
 xo 11 (.mv (xt 3)),
 xo 12 (.ia (xt 10) (xt 11) 3),
 xo 13 (.fa (xt 12) 0),
 xo 14 (.ld (xt 13) 1 false),
 xo 15 (.call 34 [(xt 14), (xi 0), (xi 9)]),
 xo 16 (.not (xt 15)),
 xo 17 (.mv (xt 16)),
 ⟨(some 18), .mv (xt 0), (some (17, false)), []⟩,
 ⟨(some 19), .mv (xt 3), (some (17, false)), []⟩,
 ⟨(some 20), .ia (xt 18) (xt 19) 3, (some (17, false)), []⟩,
 ⟨(some 21), .fa (xt 20) 1, (some (17, false)), []⟩,
 ⟨(some 22), .ld (xt 21) 1 false, (some (17, false)), []⟩,
 ⟨(some 23), .call 34 [(xt 22), (xi 0), (xi 9)], (some (17, false)), []⟩,
 ⟨(some 24), .not (xt 23), (some (17, false)), []⟩,
 xo 25 (.pick (xt 17) (xb true) (xt 24)),
 xo 26 (.mv (xt 25)),
 ⟨(some 27), .mv (xt 0), (some (26, false)), []⟩,
 ⟨(some 28), .mv (xt 3), (some (26, false)), []⟩,
 ⟨(some 29), .ia (xt 27) (xt 28) 3, (some (26, false)), []⟩,
 ⟨(some 30), .fa (xt 29) 2, (some (26, false)), []⟩,
 ⟨(some 31), .ld (xt 30) 1 false, (some (26, false)), []⟩,
 ⟨(some 32), .call 34 [(xt 31), (xi 0), (xi 99)], (some (26, false)), []⟩,
 ⟨(some 33), .not (xt 32), (some (26, false)), []⟩,
 xo 34 (.pick (xt 26) (xb true) (xt 33))] [0,3,34]
def c9_7 : XC := fun _ => .region [] [xo 2 (.mv (xb false))] [2]
def c9_8 : XC := fun _ => .seq c9_7 (fun _ => .ret)
def c9_9 : XC := fun _ => .cond (xt 34) c9_8 (fun _ => .skip)
def c9_10 : XC := fun _ => .seq c9_6 c9_9
def c9_11 : XC := fun _ => .block 1 c9_10
def c9_12 : XC := fun _ => .region [] [xo 8 (.mv (xt 3)),
 xo 9 (.bin .add (xt 8) (xi 1)),
 xo 3 (.mv (xt 9))] [0,3]
def c9_13 : XC := fun _ => .seq c9_11 c9_12
def c9_14 : XC := fun _ => .seq c9_5 c9_13
def c9_15 : XC := fun _ => .loop c9_14
def c9_16 : XC := fun _ => .block 0 c9_15
def c9_17 : XC := fun _ => .seq c9_2 c9_16
def c9_18 : XC := fun _ => .region [] [xo 35 (.mv (xt 0)),
 xo 36 (.len false (xt 35)),
 xo 37 (.bin .eql (xt 36) (xi 5)),
 xo 2 (.mv (xt 37))] [2]
def c9_19 : XC := fun _ => .seq c9_18 (fun _ => .ret)
def c9_20 : XC := fun _ => .seq c9_17 c9_19
def c9_21 : XC := fun _ => .seq c9_1 c9_20
def m_spec_ArePlaces : MCode := c9_21 ()
def h_spec_ArePlaces : Hints := [(0, [0], [], [], []), (1, [0,3], [], [], []), (2, [0,3,7], [], [], []), (4, [0,3,34], [], [], []), (5, [2], [], [], []), (3, [0,3], [], [], []), (6, [2], [], [], [])]
def r_spec_ArePlaces : List RV := [.t 2]
abbrev n_spec_ArePlaces : Nat := 9
theorem k_spec_ArePlaces : Known Pr mu n_spec_ArePlaces m_spec_ArePlaces r_spec_ArePlaces Go.Proofs.Try.f9.ntmps := .of h_spec_ArePlaces hm Go.Proofs.Try.func9
def c10_1 : XC := fun _ => .region [] [xo 2 (.mv (xb false))] [0]
def c10_2 : XC := fun _ => .region [] [xo 3 (.mv (xi 0))] [0,3]
def c10_3 : XC := fun _ => .region [] [xo 4 (.mv (xt 3)),
 xo 5 (.mv (xt 0)),
 xo 6 (.len false (xt 5)),
 xo 7 (.bin .lss (xt 4) (xt 6))] [0,3,7]
def c10_4 : XC := fun _ => .cond (xt 7) (fun _ => .skip) (fun _ => .exit 0)
def c10_5 : XC := fun _ => .seq c10_3 c10_4
def c10_6 : XC := fun _ => .region [] [xo 10 (.mv (xt 0)),
 xo 11 (.mv (xt 3)),
 xo 12 (.ia (xt 10) (xt 11) 1),
 xo 13 (.ld (xt 12) 1 false),
 xo 14 (.call 34 [(xt 13), (xi 0), (xi 4)]),
 xo 15 (.not (xt 14)),
 xo 16 (.mv (xt 15)),
 ⟨(some 17), .mv (xt 3), (some (16, false)), []⟩,
 ⟨(some 18), .bin .gtr (xt 17) (xi 0), (some (16, false)), []⟩,
 ⟨(some 19), .mv (xt 18), (some (16, false)), []⟩,
 ⟨(some 20), .mv (xt 0), (some (19, true)), []⟩,
 ⟨(some 21), .mv (xt 3), (some (19, true)), []⟩,
 ⟨(some 22), .bin .sub (xt 21) (xi 1), (some (19, true)), []⟩,
 ⟨(some 23), .ia (xt 20) (xt 22) 1, (some (19, true)), []⟩,
 ⟨(some 24), .ld (xt 23) 1 false, (some (19, true)), []⟩,
 ⟨(some 25), .mv (xt 0), (some (19, true)), []⟩,
 ⟨(some 26), .mv (xt 3), (some (19, true)), []⟩,
 ⟨(some 27), .ia (xt 25) (xt 26) 1, (some (19, true)), [10, 11, 12, 13, 14]⟩,
 ⟨(some 28), .ld (xt 27) 1 false, (some (19, true)), [10, 11, 12, 13, 14]⟩,
 ⟨(some 29), .bin .geq (xt 24) (xt 28), (some (19, true)), []⟩,
 ⟨(some 30), .pick (xt 19) (xt 29) (xb false), (some (16, false)), []⟩,
 xo 31 (.pick (xt 16) (xb true) (xt 30))] [0,3,31]
def c10_7 : XC := fun _ => .region [] [xo 2 (.mv (xb false))] [2]
def c10_8 : XC := fun _ => .seq c10_7 (fun _ => .ret)
def c10_9 : XC := fun _ => .cond (xt 31) c10_8 (fun _ => .skip)
def c10_10 : XC := fun _ => .seq c10_6 c10_9
def c10_11 : XC := fun _ => .block 1 c10_10
def c10_12 : XC := fun _ => .region [] [xo 8 (.mv (xt 3)),
 xo 9 (.bin .add (xt 8) (xi 1)),
 xo 3 (.mv (xt 9))] [0,3]
def c10_13 : XC := fun _ => .seq c10_11 c10_12
def c10_14 : XC := fun _ => .seq c10_5 c10_13
def c10_15 : XC := fun _ => .loop c10_14
def c10_16 : XC := fun _ => .block 0 c10_15
def c10_17 : XC := fun _ => .seq c10_2 c10_16
def c10_18 : XC := fun _ => .region [] [xo 2 (.mv (xb true))] [2]
def c10_19 : XC := fun _ => .seq c10_18 (fun _ => .ret)
def c10_20 : XC := fun _ => .seq c10_17 c10_19
def c10_21 : XC := fun _ => .seq c10_1 c10_20
def m_spec_AreServers : MCode := c10_21 ()
def h_spec_AreServers : Hints := [(0, [0], [], [], []), (1, [0,3], [], [], []), (2, [0,3,7], [], [], []), (4, [0,3,31], [[],[],[],[],[],[],[],[],[],[],[],[],[],[],[],[],[],[10,11,12,13,14],[10,11,12,13,14]], [], []), (5, [2], [], [], []), (3, [0,3], [], [], []), (6, [2], [], [], [])]
def r_spec_AreServers : List RV := [.t 2]
abbrev n_spec_AreServers : Nat := 10
theorem k_spec_AreServers : Known Pr mu n_spec_AreServers m_spec_AreServers r_spec_AreServers Go.Proofs.Try.f10.ntmps := .of h_spec_AreServers hm Go.Proofs.Try.func10
def c11_1 : XC := fun _ => .region [] [xo 4 (.mv (.const (.slice none 0 0)))] [0,1]
def c11_2 : XC := fun _ => .region [] [xo 7 (.bsl 1 0 [.int .i64 0] []),
 xo 5 (.mv (xt 7))] [0,1,5]
def c11_3 : XC := fun _ => .region [] [xo 6 (.mv (xi 0))] [0,1,5,6]
def c11_4 : XC := fun _ => .region [] [xo 8 (.mv (xt 6)),
 xo 9 (.mv (xt 0)),
 xo 10 (.len false (xt 9)),
 xo 11 (.bin .lss (xt 8) (xt 10))] [0,1,5,6,11]
def c11_5 : XC := fun _ => .cond (xt 11) (fun _ => .skip) (fun _ => .exit 0)
def c11_6 : XC := fun _ => .seq c11_4 c11_5
def c11_7 : XC := fun _ => .region [] [xo 14 (.mv (xt 1)),
 xo 15 (.mv (xt 0)),
 xo 16 (.mv (xt 6)),
 xo 17 (.ia (xt 15) (xt 16) 1),
 xo 18 (.ld (xt 17) 1 false),
 xo 19 (.call 15 [(xt 14), (xt 18)])] [0,1,5,6,19]
def c11_8 : XC := fun _ => .region [] [xo 20 (.mv (xt 5)),
 xo 21 (.mv (xt 0)),
 xo 22 (.mv (xt 6)),
 xo 23 (.ia (xt 21) (xt 22) 1),
 xo 24 (.ld (xt 23) 1 false),
 xo 25 (.call 35 [(xt 20), (xt 24)]),
 xo 5 (.mv (xt 25))] [0,1,5,6]
def c11_9 : XC := fun _ => .cond (xt 19) c11_8 (fun _ => .skip)
def c11_10 : XC := fun _ => .seq c11_7 c11_9
def c11_11 : XC := fun _ => .block 1 c11_10
def c11_12 : XC := fun _ => .region [] [xo 12 (.mv (xt 6)),
 xo 13 (.bin .add (xt 12) (xi 1)),
 xo 6 (.mv (xt 13))] [0,1,5,6]
def c11_13 : XC := fun _ => .seq c11_11 c11_12
def c11_14 : XC := fun _ => .seq c11_6 c11_13
def c11_15 : XC := fun _ => .loop c11_14
def c11_16 : XC := fun _ => .block 0 c11_15
def c11_17 : XC := fun _ => .seq c11_3 c11_16
def c11_18 : XC := fun _ => .region [] [xo 26 (.mv (xt 5)),
 xo 4 (.mv (xt 26))] [4]
def c11_19 : XC := fun _ => .seq c11_18 (fun _ => .ret)
def c11_20 : XC := fun _ => .seq c11_17 c11_19
def c11_21 : XC := fun _ => .seq c11_2 c11_20
def c11_22 : XC := fun _ => .seq c11_1 c11_21
def m_spec_CommonServers : MCode := c11_22 ()
def h_spec_CommonServers : Hints := [(0, [0,1], [], [], []), (1, [0,1,5], [], [], []), (2, [0,1,5,6], [], [], []), (3, [0,1,5,6,11], [], [], []), (5, [0,1,5,6,19], [], [], []), (6, [0,1,5,6], [], [], []), (4, [0,1,5,6], [], [], []), (7, [4], [], [], [])]
def r_spec_CommonServers : List RV := [.t 4]
abbrev n_spec_CommonServers : Nat := 11
theorem k_spec_CommonServers : Known Pr mu n_spec_CommonServers m_spec_CommonServers r_spec_CommonServers Go.Proofs.Try.f11.ntmps := .of h_spec_CommonServers hm Go.Proofs.Try.func11
def c12_1 : XC := fun _ => .region [] [xo 4 (.mv (.const (.slice none 0 0)))] [0,1]
def c12_2 : XC := fun _ => .region [] [xo 7 (.bsl 1 0 [.int .i64 0] []),
 xo 5 (.mv (xt 7))] [0,1,5]
def c12_3 : XC := fun _ => .region [] [xo 6 (.mv (xi 0))] [0,1,5,6]
def c12_4 : XC := fun _ => .region [] [xo 8 (.mv (xt 6)),
 xo 9 (.mv (xt 0)),
 xo 10 (.len false (xt 9)),
 xo 11 (.bin .lss (xt 8) (xt 10))] [0,1,5,6,11]
def c12_5 : XC := fun _ => .cond (xt 11) (fun _ => .skip) (fun _ => .exit 0)
def c12_6 : XC := fun _ => .seq c12_4 c12_5
def c12_7 : XC := fun _ => .region [] [xo 14 (.mv (xt 1)),
 xo 15 (.mv (xt 0)),
 xo 16 (.mv (xt 6)),
 xo 17 (.ia (xt 15) (xt 16) 1),
 xo 18 (.ld (xt 17) 1 false),
 xo 19 (.call 15 [(xt 14), (xt 18)]),
 xo 20 (.not (xt 19))] [0,1,5,6,20]
def c12_8 : XC := fun _ => .region [] [xo 21 (.mv (xt 5)),
 xo 22 (.mv (xt 0)),
 xo 23 (.mv (xt 6)),
 xo 24 (.ia (xt 22) (xt 23) 1),
 xo 25 (.ld (xt 24) 1 false),
 xo 26 (.call 35 [(xt 21), (xt 25)]),
 xo 5 (.mv (xt 26))] [0,1,5,6]
def c12_9 : XC := fun _ => .cond (xt 20) c12_8 (fun _ => .skip)
def c12_10 : XC := fun _ => .seq c12_7 c12_9
def c12_11 : XC := fun _ => .block 1 c12_10
def c12_12 : XC := fun _ => .region [] [xo 12 (.mv (xt 6)),
 xo 13 (.bin .add (xt 12) (xi 1)),
 xo 6 (.mv (xt 13))] [0,1,5,6]
def c12_13 : XC := fun _ => .seq c12_11 c12_12
def c12_14 : XC := fun _ => .seq c12_6 c12_13
def c12_15 : XC := fun _ => .loop c12_14
def c12_16 : XC := fun _ => .block 0 c12_15
def c12_17 : XC := fun _ => .seq c12_3 c12_16
def c12_18 : XC := fun _ => .region [] [xo 27 (.mv (xt 5)),
 xo 4 (.mv (xt 27))] [4]
def c12_19 : XC := fun _ => .seq c12_18 (fun _ => .ret)
def c12_20 : XC := fun _ => .seq c12_17 c12_19
def c12_21 : XC := fun _ => .seq c12_2 c12_20
def c12_22 : XC := fun _ => .seq c12_1 c12_21
def m_spec_WithoutServers : MCode := c12_22 ()
def h_spec_WithoutServers : Hints := [(0, [0,1], [], [], []), (1, [0,1,5], [], [], []), (2, [0,1,5,6], [], [], []), (3, [0,1,5,6,11], [], [], []), (5, [0,1,5,6,20], [], [], []), (6, [0,1,5,6], [], [], []), (4, [0,1,5,6], [], [], []), (7, [4], [], [], [])]
def r_spec_WithoutServers : List RV := [.t 4]
abbrev n_spec_WithoutServers : Nat := 12
theorem k_spec_WithoutServers : Known Pr mu n_spec_WithoutServers m_spec_WithoutServers r_spec_WithoutServers Go.Proofs.Try.f12.ntmps := .of h_spec_WithoutServers hm Go.Proofs.Try.func12
def c13_1 : XC := fun _ => .region [] [xo 4 (.mv (xi 0))] [0,1]
def c13_2 : XC := fun _ => .region [] [xo 5 (.mv (xt 1)),
 xo 6 (.mv (xt 0)),
 xo 7 (.call 31 [(xt 5), (xt 6)]),
 xo 8 (.len false (xt 7)),
 xo 4 (.mv (xt 8))] [4]
def c13_3 : XC := fun _ => .seq c13_2 (fun _ => .ret)
def c13_4 : XC := fun _ => .seq c13_1 c13_3
def m_impl_CountMoves : MCode := c13_4 ()
def h_impl_CountMoves : Hints := [(0, [0,1], [], [], []), (1, [4], [], [], [])]
def r_impl_CountMoves : List RV := [.t 4]
abbrev n_impl_CountMoves : Nat := 13
theorem k_impl_CountMoves : Known Pr mu n_impl_CountMoves m_impl_CountMoves r_impl_CountMoves Go.Proofs.Try.f13.ntmps := .of h_impl_CountMoves hm Go.Proofs.Try.func13
def c14_1 : XC := fun _ => .region [] [xo 4 (.mv (xb false))] [0,1]
def c14_2 : XC := fun _ => .region [] [xo 5 (.mv (xt 0)),
 xo 6 (.call 27 [(xt 5)]),
 xo 7 (.mv (xt 6)),
 ⟨(some 8), .mv (xt 1), (some (7, true)), []⟩,
 ⟨(some 9), .call 29 [(xt 8), (xi 0), (xi 4)], (some (7, true)), []⟩,
 xo 10 (.pick (xt 7) (xt 9) (xb false)),
 xo 11 (.mv (xt 10)),
 ⟨(some 12), .mv (xt 0), (some (11, true)), []⟩,
 ⟨(some 13), .mv (xt 1), (some (11, true)), []⟩,
 ⟨(some 14), .ia (xt 12) (xt 13) 3, (some (11, true)), []⟩,
 ⟨(some 15), .fa (xt 14) 2, (some (11, true)), []⟩,
 ⟨(some 16), .ld (xt 15) 1 false, (some (11, true)), []⟩,
 ⟨(some 17), .mv (xt 0), (some (11, true)), []⟩,
 ⟨(some 18), .mv (xt 1), (some (11, true)), []⟩,
 ⟨(some 19), .ia (xt 17) (xt 18) 3, (some (11, true)), [7, 8, 9, 10, 11]⟩,
 ⟨(some 20), .fa (xt 19) 1, (some (11, true)), [7, 8, 9, 10, 11]⟩,
 ⟨(some 21), .ld (xt 20) 1 false, (some (11, true)), [7, 8, 9, 10, 11]⟩,
 ⟨(some 22), .bin .lss (xt 16) (xt 21), (some (11, true)), []⟩,
 xo 23 (.pick (xt 11) (xt 22) (xb false)),
 xo 4 (.mv (xt 23))] [4]
def c14_3 : XC := fun _ => .seq c14_2 (fun _ => .ret)
def c14_4 : XC := fun _ => .seq c14_1 c14_3
def m_impl_HasRoom : MCode := c14_4 ()
def h_impl_HasRoom : Hints := [(0, [0,1], [], [], []), (1, [4], [[],[],[],[],[],[],[],[],[],[],[],[],[],[],[7,8,9,10,11],[7,8,9,10,11],[7,8,9,10,11]], [], [])]
def r_impl_HasRoom : List RV := [.t 4]
abbrev n_impl_HasRoom : Nat := 14
theorem k_impl_HasRoom : Known Pr mu n_impl_HasRoom m_impl_HasRoom r_impl_HasRoom Go.Proofs.Try.f14.ntmps := .of h_impl_HasRoom hm Go.Proofs.Try.func14
def c15_1 : XC := fun _ => .region [] [xo 4 (.mv (xb false))] [0,1]
def c15_2 : XC := fun _ => .region [] [xo 5 (.mv (xi 0))] [0,1,5]
def c15_3 : XC := fun _ => .region [] [xo 6 (.mv (xt 5)),
 xo 7 (.mv (xt 0)),
 xo 8 (.len false (xt 7)),
 xo 9 (.bin .lss (xt 6) (xt 8))] [0,1,5,9]
def c15_4 : XC := fun _ => .cond (xt 9) (fun _ => .skip) (fun _ => .exit 0)
def c15_5 : XC := fun _ => .seq c15_3 c15_4
def c15_6 : XC := fun _ => .region [] [xo 12 (.mv (xt 0)),
 xo 13 (.mv (xt 5)),
 xo 14 (.ia (xt 12) (xt 13) 1),
 xo 15 (.ld (xt 14) 1 false),
 xo 16 (.mv (xt 1)),
 xo 17 (.bin .eql (xt 15) (xt 16))] [0,1,5,17]
def c15_7 : XC := fun _ => .region [] [xo 4 (.mv (xb true))] [4]
def c15_8 : XC := fun _ => .seq c15_7 (fun _ => .ret)
def c15_9 : XC := fun _ => .cond (xt 17) c15_8 (fun _ => .skip)
def c15_10 : XC := fun _ => .seq c15_6 c15_9
def c15_11 : XC := fun _ => .block 1 c15_10
def c15_12 : XC := fun _ => .region [] [xo 10 (.mv (xt 5)),
 xo 11 (.bin .add (xt 10) (xi 1)),
 xo 5 (.mv (xt 11))] [0,1,5]
def c15_13 : XC := fun _ => .seq c15_11 c15_12
def c15_14 : XC := fun _ => .seq c15_5 c15_13
def c15_15 : XC := fun _ => .loop c15_14
def c15_16 : XC := fun _ => .block 0 c15_15
def c15_17 : XC := fun _ => .seq c15_2 c15_16
def c15_18 : XC := fun _ => .region [] [xo 4 (.mv (xb false))] [4]
def c15_19 : XC := fun _ => .seq c15_18 (fun _ => .ret)
def c15_20 : XC := fun _ => .seq c15_17 c15_19
def c15_21 : XC := fun _ => .seq c15_1 c15_20
def m_spec_HasServer : MCode := c15_21 ()
def h_spec_HasServer : Hints := [(0, [0,1], [], [], []), (1, [0,1,5], [], [], []), (2, [0,1,5,9], [], [], []), (4, [0,1,5,17], [], [], []), (5, [4], [], [], []), (3, [0,1,5], [], [], []), (6, [4], [], [], [])]
def r_spec_HasServer : List RV := [.t 4]
abbrev n_spec_HasServer : Nat := 15
theorem k_spec_HasServer : Known Pr mu n_spec_HasServer m_spec_HasServer r_spec_HasServer Go.Proofs.Try.f15.ntmps := .of h_spec_HasServer hm Go.Proofs.Try.func15
def c16_1 : XC := fun _ => .region [] [xo 2 (.mv (.const (.slice none 0 0))),
 xo 3 (.mv (.const (.slice none 0 0))),
 xo 4 (.mv (.const (.slice none 0 0)))] [0]
def c16_2 : XC := fun _ => .region [] [xo 8 (.mv (xt 0)),
 xo 9 (.calln 23 [(xt 8)]),
 xo 5 (.mv (xt 9))] [5]
def c16_3 : XC := fun _ => .region [] [xo 10 (.mv (xt 5)),
 xo 11 (.callp 24 [(xt 10)]),
 xo 6 (.mv (xt 11))] [5,6]
def c16_4 : XC := fun _ => .region [] [xo 12 (.mv (xt 5)),
 xo 13 (.callp 25 [(xt 12)]),
 xo 7 (.mv (xt 13))] [5,6,7]
def c16_5 : XC := fun _ => .region [] [xo 14 (.mv (xt 6)),
 xo 15 (.mv (xt 7)),
 xo 16 (.mv (xt 5)),
 xo 17 (.callp 36 [(xt 16)]),
 xo 2 (.mv (xt 14)),
 xo 3 (.mv (xt 15)),
 xo 4 (.mv (xt 17))] [2,3,4]
def c16_6 : XC := fun _ => .seq c16_5 (fun _ => .ret)
def c16_7 : XC := fun _ => .seq c16_4 c16_6
def c16_8 : XC := fun _ => .seq c16_3 c16_7
def c16_9 : XC := fun _ => .seq c16_2 c16_8
def c16_10 : XC := fun _ => .seq c16_1 c16_9
def m_spec_DrawPickSpare : MCode := c16_10 ()
def h_spec_DrawPickSpare : Hints := [(0, [0], [], [], []), (1, [5], [], [], []), (2, [5,6], [], [], []), (3, [5,6,7], [], [], []), (4, [2,3,4], [], [], [])]
def r_spec_DrawPickSpare : List RV := [.t 2, .t 3, .t 4]
abbrev n_spec_DrawPickSpare : Nat := 16
theorem k_spec_DrawPickSpare : Known Pr muc n_spec_DrawPickSpare m_spec_DrawPickSpare r_spec_DrawPickSpare Go.Proofs.Try.f16.ntmps := .of h_spec_DrawPickSpare hm Go.Proofs.Try.func16
def c17_1 : XC := fun _ => .region [] [xo 6 (.mv (xi 0))] [0,1,2]
def c17_2 : XC := fun _ => .region [] [xo 7 (.mv (xi (-1)))] [0,1,2,7]
def c17_3 : XC := fun _ => .region [] [xo 12 (.mv (xt 1)),
 xo 13 (.call 28 [(xt 12)]),
 xo 14 (.not (xt 13))] [0,1,2,7,14]
def c17_4 : XC := fun _ => .region [] [xo 15 (.mv (xt 7)),
 xo 6 (.mv (xt 15))] [6]
def c17_5 : XC := fun _ => .seq c17_4 (fun _ => .ret)
def c17_6 : XC := fun _ => .cond (xt 14) c17_5 (fun _ => .skip)
def c17_7 : XC := fun _ => .seq c17_3 c17_6
def c17_8 : XC := fun _ => .region [] [xo 16 (.mv (xt 0)),
 xo 17 (.mv (xt 1)),
 xo 18 (.call 19 [(xt 16), (xt 17)]),
 xo 8 (.mv (xt 18))] [0,1,2,7,8]
def c17_9 : XC := fun _ => .region [] [xo 19 (.mv (xi 0))] [0,1,2,7,8,19]
def c17_10 : XC := fun _ => .region [] [xo 20 (.bin .lss (xt 19) (xi 5))] [0,1,2,7,8,19,20]
def c17_11 : XC := fun _ => .cond (xt 20) (fun _ => .skip) (fun _ => .exit 0)
def c17_12 : XC := fun _ => .region [] [xo 21 (.mv (xt 19)),
 xo 9 (.mv (xt 21))] [0,1,2,7,8,9,19]
def c17_13 : XC := fun _ => .region [] [xo 22 (.mv (xt 0)),
 xo 23 (.mv (xt 9)),
 xo 24 (.call 14 [(xt 22), (xt 23)]),
 xo 25 (.not (xt 24)),
 xo 26 (.mv (xt 25)),
 ⟨(some 27), .mv (xt 1), (some (26, false)), []⟩,
 ⟨(some 28), .mv (xt 9), (some (26, false)), []⟩,
 ⟨(some 29), .call 37 [(xt 27), (xt 28)], (some (26, false)), []⟩,
 xo 30 (.pick (xt 26) (xb true) (xt 29)),
 xo 31 (.mv (xt 30)),
 ⟨(some 32), .mv (xt 2), (some (31, false)), []⟩,
 ⟨(some 33), .mv (xt 9), (some (31, false)), []⟩,
 ⟨(some 34), .call 37 [(xt 32), (xt 33)], (some (31, false)), []⟩,
 xo 35 (.pick (xt 31) (xb true) (xt 34))] [0,1,2,7,8,9,19,35]
def c17_14 : XC := fun _ => .cond (xt 35) (fun _ => .exit 1) (fun _ => .skip)
def c17_15 : XC := fun _ => .seq c17_13 c17_14
def c17_16 : XC := fun _ => .region [] [xo 36 (.mv (xt 7)),
 xo 37 (.bin .lss (xt 36) (xi 0))] [0,1,2,7,8,9,19,37]
def c17_17 : XC := fun _ => .region [] [xo 38 (.mv (xt 9)),
 xo 7 (.mv (xt 38))] [0,1,2,7,8,19]
def c17_18 : XC := fun _ => .seq c17_17 (fun _ => .exit 1)
def c17_19 : XC := fun _ => .cond (xt 37) c17_18 (fun _ => .skip)
def c17_20 : XC := fun _ => .seq c17_16 c17_19
def c17_21 : XC := fun _ => .region [] [xo 39 (.mv (xt 8)),
 xo 40 (.mv (xt 0)),
 xo 41 (.mv (xt 7)),
 ⟨(some 42), .ia (xt 40) (xt 41) 3, none, [0]⟩,
 ⟨(some 43), .fa (xt 42) 0, none, [0]⟩,
 ⟨(some 44), .ld (xt 43) 1 false, none, [0]⟩,
 xo 45 (.call 37 [(xt 39), (xt 44)]),
 xo 46 (.mv (xt 8)),
 xo 47 (.mv (xt 0)),
 xo 48 (.mv (xt 9)),
 ⟨(some 49), .ia (xt 47) (xt 48) 3, none, [0, 1, 2, 3, 4, 5, 6, 7]⟩,
 ⟨(some 50), .fa (xt 49) 0, none, [0, 1, 2, 3, 4, 5, 6, 7]⟩,
 ⟨(some 51), .ld (xt 50) 1 false, none, [0, 1, 2, 3, 4, 5, 6, 7]⟩,
 xo 52 (.call 37 [(xt 46), (xt 51)]),
 xo 10 (.mv (xt 45)),
 xo 11 (.mv (xt 52))] [0,1,2,7,8,9,10,11,19]
def c17_22 : XC := fun _ => .region [] [xo 53 (.mv (xt 10)),
 xo 54 (.mv (xt 53)),
 ⟨(some 55), .mv (xt 11), (some (54, true)), []⟩,
 ⟨(some 56), .not (xt 55), (some (54, true)), []⟩,
 xo 57 (.pick (xt 54) (xt 56) (xb false)),
 xo 58 (.mv (xt 57)),
 ⟨(some 59), .mv (xt 10), (some (58, false)), []⟩,
 ⟨(some 60), .mv (xt 11), (some (58, false)), []⟩,
 ⟨(some 61), .bbin .eql (xt 59) (xt 60), (some (58, false)), []⟩,
 ⟨(some 62), .mv (xt 61), (some (58, false)), []⟩,
 ⟨(some 63), .mv (xt 0), (some (62, true)), []⟩,
 ⟨(some 64), .mv (xt 9), (some (62, true)), []⟩,
 ⟨(some 65), .ia (xt 63) (xt 64) 3, (some (62, true)), []⟩,
 ⟨(some 66), .fa (xt 65) 2, (some (62, true)), []⟩,
 ⟨(some 67), .ld (xt 66) 1 false, (some (62, true)), []⟩,
 ⟨(some 68), .mv (xt 0), (some (62, true)), []⟩,
 ⟨(some 69), .mv (xt 7), (some (62, true)), []⟩,
 ⟨(some 70), .ia (xt 68) (xt 69) 3, (some (62, true)), [10, 11, 12, 13, 14]⟩,
 ⟨(some 71), .fa (xt 70) 2, (some (62, true)), [10, 11, 12, 13, 14]⟩,
 ⟨(some 72), .ld (xt 71) 1 false, (some (62, true)), [10, 11, 12, 13, 14]⟩,
 ⟨(some 73), .bin .lss (xt 67) (xt 72), (some (62, true)), []⟩,
 ⟨(some 74), .pick (xt 62) (xt 73) (xb false), (some (58, false)), []⟩,
 xo 75 (.pick (xt 58) (xb true) (xt 74))] [0,1,2,7,8,9,19,75]
def c17_23 : XC := fun _ => .region [] [xo 76 (.mv (xt 9)),
 xo 7 (.mv (xt 76))] [0,1,2,7,8,19]
def c17_24 : XC := fun _ => .cond (xt 75) c17_23 (fun _ => .skip)
def c17_25 : XC := fun _ => .seq c17_22 c17_24
def c17_26 : XC := fun _ => .seq c17_21 c17_25
def c17_27 : XC := fun _ => .seq c17_20 c17_26
def c17_28 : XC := fun _ => .seq c17_15 c17_27
def c17_29 : XC := fun _ => .seq c17_12 c17_28
def c17_30 : XC := fun _ => .block 1 c17_29
def c17_31 : XC := fun _ => .region [] [xo 77 (.bin .add (xt 19) (xi 1)),
 xo 19 (.mv (xt 77))] [0,1,2,7,8,19]
def c17_32 : XC := fun _ => .seq c17_30 c17_31
def c17_33 : XC := fun _ => .seq c17_11 c17_32
def c17_34 : XC := fun _ => .seq c17_10 c17_33
def c17_35 : XC := fun _ => .loop c17_34
def c17_36 : XC := fun _ => .block 0 c17_35
def c17_37 : XC := fun _ => .seq c17_9 c17_36
def c17_38 : XC := fun _ => .region [] [xo 78 (.mv (xt 7)),
 xo 6 (.mv (xt 78))] [6]
def c17_39 : XC := fun _ => .seq c17_38 (fun _ => .ret)
def c17_40 : XC := fun _ => .seq c17_37 c17_39
def c17_41 : XC := fun _ => .seq c17_8 c17_40
def c17_42 : XC := fun _ => .seq c17_7 c17_41
def c17_43 : XC := fun _ => .seq c17_2 c17_42
def c17_44 : XC := fun _ => .seq c17_1 c17_43
def m_impl_PickSpare : MCode := c17_44 ()
def h_impl_PickSpare : Hints := [(0, [0,1,2], [], [], []), (1, [0,1,2,7], [], [], []), (2, [0,1,2,7,14], [], [], []), (3, [6], [], [], []), (4, [0,1,2,7,8], [], [], []), (5, [0,1,2,7,8,19], [], [], []), (6, [0,1,2,7,8,19,20], [], [], []), (7, [0,1,2,7,8,9,19], [], [], []), (8, [0,1,2,7,8,9,19,35], [], [], []), (9, [0,1,2,7,8,9,19,37], [], [], []), (10, [0,1,2,7,8,19], [], [], []), (11, [0,1,2,7,8,9,10,11,19], [[],[],[],[0],[0],[0],[],[],[],[],[0,1,2,3,4,5,6,7],[0,1,2,3,4,5,6,7],[0,1,2,3,4,5,6,7]], [], []), (12, [0,1,2,7,8,9,19,75], [[],[],[],[],[],[],[],[],[],[],[],[],[],[],[],[],[],[10,11,12,13,14],[10,11,12,13,14],[10,11,12,13,14]], [], []), (13, [0,1,2,7,8,19], [], [], []), (14, [0,1,2,7,8,19], [], [], []), (15, [6], [], [], [])]
def r_impl_PickSpare : List RV := [.t 6]
abbrev n_impl_PickSpare : Nat := 17
theorem k_impl_PickSpare : Known Pr mu n_impl_PickSpare m_impl_PickSpare r_impl_PickSpare Go.Proofs.Try.f17.ntmps := .of h_impl_PickSpare hm Go.Proofs.Try.func17
def c18_1 : XC := fun _ => .region [] [xo 6 (.mv (xi 0))] [0,1,2]
def c18_2 : XC := fun _ => .region [] [xo 7 (.mv (xi (-1)))] [0,1,2,7]
def c18_3 : XC := fun _ => .region [] [xo 10 (.mv (xt 0)),
 xo 11 (.mv (xt 1)),
 xo 12 (.call 20 [(xt 10), (xt 11)]),
 xo 8 (.mv (xt 12))] [0,1,2,7,8]
def c18_4 : XC := fun _ => .region [] [xo 9 (.mv (xi 0))] [0,1,2,7,8,9]
def c18_5 : XC := fun _ => .region [] [xo 13 (.mv (xt 9)),
 xo 14 (.bin .lss (xt 13) (xi 5)),
 xo 15 (.mv (xt 14)),
 ⟨(some 16), .mv (xt 1), (some (15, true)), []⟩,
 ⟨(some 17), .call 10 [(xt 16)], (some (15, true)), []⟩,
 xo 18 (.pick (xt 15) (xt 17) (xb false))] [0,1,2,7,8,9,18]
def c18_6 : XC := fun _ => .cond (xt 18) (fun _ => .skip) (fun _ => .exit 0)
def c18_7 : XC := fun _ => .seq c18_5 c18_6
def c18_8 : XC := fun _ => .region [] [xo 21 (.mv (xt 0)),
 xo 22 (.mv (xt 9)),
 xo 23 (.call 38 [(xt 21), (xt 22)]),
 xo 24 (.not (xt 23)),
 xo 25 (.mv (xt 24)),
 ⟨(some 26), .mv (xt 1), (some (25, false)), []⟩,
 ⟨(some 27), .mv (xt 9), (some (25, false)), []⟩,
 ⟨(some 28), .call 15 [(xt 26), (xt 27)], (some (25, false)), []⟩,
 xo 29 (.pick (xt 25) (xb true) (xt 28)),
 xo 30 (.mv (xt 29)),
 ⟨(some 31), .mv (xt 2), (some (30, false)), []⟩,
 ⟨(some 32), .mv (xt 9), (some (30, false)), []⟩,
 ⟨(some 33), .call 15 [(xt 31), (xt 32)], (some (30, false)), []⟩,
 xo 34 (.pick (xt 30) (xb true) (xt 33))] [0,1,2,7,8,9,34]
def c18_9 : XC := fun _ => .cond (xt 34) (fun _ => .exit 1) (fun _ => .skip)
def c18_10 : XC := fun _ => .seq c18_8 c18_9
def c18_11 : XC := fun _ => .region [] [xo 35 (.mv (xt 7)),
 xo 36 (.bin .lss (xt 35) (xi 0)),
 xo 37 (.mv (xt 36)),
 ⟨(some 38), .mv (xt 0), (some (37, false)), []⟩,
 ⟨(some 39), .mv (xt 8), (some (37, false)), []⟩,
 ⟨(some 40), .mv (xt 9), (some (37, false)), []⟩,
 ⟨(some 41), .mv (xt 7), (some (37, false)), []⟩,
 ⟨(some 42), .call 39 [(xt 38), (xt 39), (xt 40), (xt 41)], (some (37, false)), []⟩,
 xo 43 (.pick (xt 37) (xb true) (xt 42))] [0,1,2,7,8,9,43]
def c18_12 : XC := fun _ => .region [] [xo 44 (.mv (xt 9)),
 xo 7 (.mv (xt 44))] [0,1,2,7,8,9]
def c18_13 : XC := fun _ => .cond (xt 43) c18_12 (fun _ => .skip)
def c18_14 : XC := fun _ => .seq c18_11 c18_13
def c18_15 : XC := fun _ => .seq c18_10 c18_14
def c18_16 : XC := fun _ => .block 1 c18_15
def c18_17 : XC := fun _ => .region [] [xo 19 (.mv (xt 9)),
 xo 20 (.bin .add (xt 19) (xi 1)),
 xo 9 (.mv (xt 20))] [0,1,2,7,8,9]
def c18_18 : XC := fun _ => .seq c18_16 c18_17
def c18_19 : XC := fun _ => .seq c18_7 c18_18
def c18_20 : XC := fun _ => .loop c18_19
def c18_21 : XC := fun _ => .block 0 c18_20
def c18_22 : XC := fun _ => .seq c18_4 c18_21
def c18_23 : XC := fun _ => .region [] [xo 45 (.mv (xt 7)),
 xo 6 (.mv (xt 45))] [6]
def c18_24 : XC := fun _ => .seq c18_23 (fun _ => .ret)
def c18_25 : XC := fun _ => .seq c18_22 c18_24
def c18_26 : XC := fun _ => .seq c18_3 c18_25
def c18_27 : XC := fun _ => .seq c18_2 c18_26
def c18_28 : XC := fun _ => .seq c18_1 c18_27
def m_spec_PickSpare : MCode := c18_28 ()
def h_spec_PickSpare : Hints := [(0, [0,1,2], [], [], []), (1, [0,1,2,7], [], [], []), (2, [0,1,2,7,8], [], [], []), (3, [0,1,2,7,8,9], [], [], []), (4, [0,1,2,7,8,9,18], [], [], []), (6, [0,1,2,7,8,9,34], [], [], []), (7, [0,1,2,7,8,9,43], [], [], []), (8, [0,1,2,7,8,9], [], [], []), (5, [0,1,2,7,8,9], [], [], []), (9, [6], [], [], [])]
def r_spec_PickSpare : List RV := [.t 6]
abbrev n_spec_PickSpare : Nat := 18
theorem k_spec_PickSpare : Known Pr mu n_spec_PickSpare m_spec_PickSpare r_spec_PickSpare Go.Proofs.Try.f18.ntmps := .of h_spec_PickSpare hm Go.Proofs.Try.func18
def c19_1 : XC := fun _ => .region [] [xo 4 (.mv (.const (.slice none 0 0)))] [0,1]
def c19_2 : XC := fun _ => .region [] [xo 8 (.bsl 1 0 [.int .i64 0] []),
 xo 5 (.mv (xt 8))] [0,1,5]
def c19_3 : XC := fun _ => .region [] [xo 9 (.mv (xt 0)),
 xo 10 (.call 27 [(xt 9)]),
 xo 11 (.not (xt 10)),
 xo 12 (.mv (xt 11)),
 ⟨(some 13), .mv (xt 1), (some (12, false)), []⟩,
 ⟨(some 14), .call 28 [(xt 13)], (some (12, false)), []⟩,
 ⟨(some 15), .not (xt 14), (some (12, false)), []⟩,
 xo 16 (.pick (xt 12) (xb true) (xt 15))] [0,1,5,16]
def c19_4 : XC := fun _ => .region [] [xo 17 (.mv (xt 5)),
 xo 4 (.mv (xt 17))] [4]
def c19_5 : XC := fun _ => .seq c19_4 (fun _ => .ret)
def c19_6 : XC := fun _ => .cond (xt 16) c19_5 (fun _ => .skip)
def c19_7 : XC := fun _ => .seq c19_3 c19_6
def c19_8 : XC := fun _ => .region [] [xo 18 (.mv (xt 1)),
 xo 19 (.len false (xt 18)),
 xo 20 (.mv (xi 0))] [0,5,18,19,20]
def c19_9 : XC := fun _ => .region [] [xo 21 (.bin .lss (xt 20) (xt 19))] [0,5,18,19,20,21]
def c19_10 : XC := fun _ => .cond (xt 21) (fun _ => .skip) (fun _ => .exit 0)
def c19_11 : XC := fun _ => .region [] [xo 22 (.ia (xt 18) (xt 20) 1),
 xo 23 (.ld (xt 22) 1 false),
 xo 7 (.mv (xt 23))] [0,5,7,18,19,20]
def c19_12 : XC := fun _ => .region [] [xo 24 (.mv (xt 5)),
 xo 25 (.mv (xt 0)),
 xo 26 (.mv (xt 7)),
 xo 27 (.ia (xt 25) (xt 26) 3),
 xo 28 (.fa (xt 27) 0),
 xo 29 (.ld (xt 28) 1 false),
 xo 30 (.bsl 1 1 [.int .i64 0] [(0, (xt 29))]),
 xo 31 (.app (xt 24) (xt 30) 1 8),
 xo 5 (.mv (xt 31))] [0,5,18,19,20]
def c19_13 : XC := fun _ => .seq c19_11 c19_12
def c19_14 : XC := fun _ => .block 1 c19_13
def c19_15 : XC := fun _ => .region [] [xo 32 (.bin .add (xt 20) (xi 1)),
 xo 20 (.mv (xt 32))] [0,5,18,19,20]
def c19_16 : XC := fun _ => .seq c19_14 c19_15
def c19_17 : XC := fun _ => .seq c19_10 c19_16
def c19_18 : XC := fun _ => .seq c19_9 c19_17
def c19_19 : XC := fun _ => .loop c19_18
def c19_20 : XC := fun _ => .block 0 c19_19
def c19_21 : XC := fun _ => .seq c19_8 c19_20
def c19_22 : XC := fun _ => .region [] [xo 33 (.mv (xt 5)),
 xo 34 (.call 40 [(xt 33)]),
 xo 4 (.mv (xt 34))] [4]
def c19_23 : XC := fun _ => .seq c19_22 (fun _ => .ret)
def c19_24 : XC := fun _ => .seq c19_21 c19_23
def c19_25 : XC := fun _ => .seq c19_7 c19_24
def c19_26 : XC := fun _ => .seq c19_2 c19_25
def c19_27 : XC := fun _ => .seq c19_1 c19_26
def m_impl_RacksOf : MCode := c19_27 ()
def h_impl_RacksOf : Hints := [(0, [0,1], [], [], []), (1, [0,1,5], [], [], []), (2, [0,1,5,16], [], [], []), (3, [4], [], [], []), (4, [0,5,18,19,20], [], [], []), (5, [0,5,18,19,20,21], [], [], []), (6, [0,5,7,18,19,20], [], [], []), (7, [0,5,18,19,20], [], [], []), (8, [0,5,18,19,20], [], [], []), (9, [4], [], [], [])]
def r_impl_RacksOf : List RV := [.t 4]
abbrev n_impl_RacksOf : Nat := 19
theorem k_impl_RacksOf : Known Pr mu n_impl_RacksOf m_impl_RacksOf r_impl_RacksOf Go.Proofs.Try.f19.ntmps := .of h_impl_RacksOf hm Go.Proofs.Try.func19
def c20_1 : XC := fun _ => .region [] [xo 4 (.mv (.const (.slice none 0 0)))] [0,1]
def c20_2 : XC := fun _ => .region [] [xo 7 (.bsl 1 0 [.int .i64 0] []),
 xo 5 (.mv (xt 7))] [0,1,5]
def c20_3 : XC := fun _ => .region [] [xo 6 (.mv (xi 0))] [0,1,5,6]
def c20_4 : XC := fun _ => .region [] [xo 8 (.mv (xt 6)),
 xo 9 (.mv (xt 1)),
 xo 10 (.len false (xt 9)),
 xo 11 (.bin .lss (xt 8) (xt 10)),
 xo 12 (.mv (xt 11)),
 ⟨(some 13), .mv (xt 0), (some (12, true)), []⟩,
 ⟨(some 14), .call 9 [(xt 13)], (some (12, true)), []⟩,
 xo 15 (.pick (xt 12) (xt 14) (xb false)),
 xo 16 (.mv (xt 15)),
 ⟨(some 17), .mv (xt 1), (some (16, true)), []⟩,
 ⟨(some 18), .call 10 [(xt 17)], (some (16, true)), []⟩,
 xo 19 (.pick (xt 16) (xt 18) (xb false))] [0,1,5,6,19]
def c20_5 : XC := fun _ => .cond (xt 19) (fun _ => .skip) (fun _ => .exit 0)
def c20_6 : XC := fun _ => .seq c20_4 c20_5
def c20_7 : XC := fun _ => .region [] [xo 22 (.mv (xt 5)),
 xo 23 (.mv (xt 0)),
 xo 24 (.mv (xt 1)),
 xo 25 (.mv (xt 6)),
 xo 26 (.ia (xt 24) (xt 25) 1),
 xo 27 (.ld (xt 26) 1 false),
 xo 28 (.ia (xt 23) (xt 27) 3),
 xo 29 (.fa (xt 28) 0),
 xo 30 (.ld (xt 29) 1 false),
 xo 31 (.call 35 [(xt 22), (xt 30)]),
 xo 5 (.mv (xt 31))] [0,1,5,6]
def c20_8 : XC := fun _ => .block 1 c20_7
def c20_9 : XC := fun _ => .region [] [xo 20 (.mv (xt 6)),
 xo 21 (.bin .add (xt 20) (xi 1)),
 xo 6 (.mv (xt 21))] [0,1,5,6]
def c20_10 : XC := fun _ => .seq c20_8 c20_9
def c20_11 : XC := fun _ => .seq c20_6 c20_10
def c20_12 : XC := fun _ => .loop c20_11
def c20_13 : XC := fun _ => .block 0 c20_12
def c20_14 : XC := fun _ => .seq c20_3 c20_13
def c20_15 : XC := fun _ => .region [] [xo 32 (.mv (xt 5)),
 xo 4 (.mv (xt 32))] [4]
def c20_16 : XC := fun _ => .seq c20_15 (fun _ => .ret)
def c20_17 : XC := fun _ => .seq c20_14 c20_16
def c20_18 : XC := fun _ => .seq c20_2 c20_17
def c20_19 : XC := fun _ => .seq c20_1 c20_18
def m_spec_RacksOf : MCode := c20_19 ()
def h_spec_RacksOf : Hints := [(0, [0,1], [], [], []), (1, [0,1,5], [], [], []), (2, [0,1,5,6], [], [], []), (3, [0,1,5,6,19], [], [], []), (5, [0,1,5,6], [], [], []), (4, [0,1,5,6], [], [], []), (6, [4], [], [], [])]
def r_spec_RacksOf : List RV := [.t 4]
abbrev n_spec_RacksOf : Nat := 20
theorem k_spec_RacksOf : Known Pr mu n_spec_RacksOf m_spec_RacksOf r_spec_RacksOf Go.Proofs.Try.f20.ntmps := .of h_spec_RacksOf hm Go.Proofs.Try.func20
def c21_1 : XC := fun _ => .region [] [xo 4 (.mv (xb false))] [0,1]
def c21_2 : XC := fun _ => .region [] [xo 5 (.mv (xt 0)),
 xo 6 (.call 27 [(xt 5)]),
 xo 7 (.mv (xt 6)),
 ⟨(some 8), .mv (xt 1), (some (7, true)), []⟩,
 ⟨(some 9), .call 28 [(xt 8)], (some (7, true)), []⟩,
 xo 10 (.pick (xt 7) (xt 9) (xb false)),
 xo 11 (.mv (xt 10)),
 ⟨(some 12), .mv (xt 0), (some (11, true)), []⟩,
 ⟨(some 13), .mv (xt 1), (some (11, true)), []⟩,
 ⟨(some 14), .call 19 [(xt 12), (xt 13)], (some (11, true)), []⟩,
 ⟨(some 15), .len false (xt 14), (some (11, true)), []⟩,
 ⟨(some 16), .mv (xt 1), (some (11, true)), []⟩,
 ⟨(some 17), .len false (xt 16), (some (11, true)), []⟩,
 ⟨(some 18), .bin .eql (xt 15) (xt 17), (some (11, true)), []⟩,
 xo 19 (.pick (xt 11) (xt 18) (xb false)),
 xo 4 (.mv (xt 19))] [4]
def c21_3 : XC := fun _ => .seq c21_2 (fun _ => .ret)
def c21_4 : XC := fun _ => .seq c21_1 c21_3
def m_impl_IsSpread : MCode := c21_4 ()
def h_impl_IsSpread : Hints := [(0, [0,1], [], [], []), (1, [4], [], [], [])]
def r_impl_IsSpread : List RV := [.t 4]
abbrev n_impl_IsSpread : Nat := 21
theorem k_impl_IsSpread : Known Pr mu n_impl_IsSpread m_impl_IsSpread r_impl_IsSpread Go.Proofs.Try.f21.ntmps := .of h_impl_IsSpread hm Go.Proofs.Try.func21
def c22_1 : XC := fun _ => .region [] [xo 4 (.mv (xb false))] [0,1]
def c22_2 : XC := fun _ => .region [] [xo 5 (.mv (xt 0)),
 xo 6 (.call 9 [(xt 5)]),
 xo 7 (.mv (xt 6)),
 ⟨(some 8), .mv (xt 1), (some (7, true)), []⟩,
 ⟨(some 9), .call 10 [(xt 8)], (some (7, true)), []⟩,
 xo 10 (.pick (xt 7) (xt 9) (xb false)),
 xo 11 (.mv (xt 10)),
 ⟨(some 12), .mv (xt 0), (some (11, true)), []⟩,
 ⟨(some 13), .mv (xt 1), (some (11, true)), []⟩,
 ⟨(some 14), .call 20 [(xt 12), (xt 13)], (some (11, true)), []⟩,
 ⟨(some 15), .len false (xt 14), (some (11, true)), []⟩,
 ⟨(some 16), .mv (xt 1), (some (11, true)), []⟩,
 ⟨(some 17), .len false (xt 16), (some (11, true)), []⟩,
 ⟨(some 18), .bin .eql (xt 15) (xt 17), (some (11, true)), []⟩,
 xo 19 (.pick (xt 11) (xt 18) (xb false)),
 xo 4 (.mv (xt 19))] [4]
def c22_3 : XC := fun _ => .seq c22_2 (fun _ => .ret)
def c22_4 : XC := fun _ => .seq c22_1 c22_3
def m_spec_IsSpread : MCode := c22_4 ()
def h_spec_IsSpread : Hints := [(0, [0,1], [], [], []), (1, [4], [], [], [])]
def r_spec_IsSpread : List RV := [.t 4]
abbrev n_spec_IsSpread : Nat := 22
theorem k_spec_IsSpread : Known Pr mu n_spec_IsSpread m_spec_IsSpread r_spec_IsSpread Go.Proofs.Try.f22.ntmps := .of h_spec_IsSpread hm Go.Proofs.Try.func22
def c23_1 : XC := fun _ => .region [] [xo 2 (.mv (.const (.pointer none)))] [0]
def c23_2 : XC := fun _ => .region [] [xo 5 (.mv (xt 0)),
 xo 6 (.len false (xt 5)),
 xo 7 (.bin .add (xi 10101) (xt 6)),
 xo 3 (.mv (xt 7))] [0,3]
def c23_3 : XC := fun _ => .region [] [xo 4 (.mv (xi 0))] [0,3,4]
def c23_4 : XC := fun _ => .region [] [xo 8 (.mv (xt 4)),
 xo 9 (.mv (xt 0)),
 xo 10 (.len false (xt 9)),
 xo 11 (.bin .lss (xt 8) (xt 10)),
 xo 12 (.mv (xt 11)),
 ⟨(some 13), .mv (xt 4), (some (12, true)), []⟩,
 ⟨(some 14), .bin .lss (xt 13) (xi 4000), (some (12, true)), []⟩,
 xo 15 (.pick (xt 12) (xt 14) (xb false))] [0,3,4,15]
def c23_5 : XC := fun _ => .cond (xt 15) (fun _ => .skip) (fun _ => .exit 0)
def c23_6 : XC := fun _ => .seq c23_4 c23_5
def c23_7 : XC := fun _ => .region [] [xo 18 (.mv (xt 3)),
 xo 19 (.bin .mul (xt 18) (xi 131)),
 xo 20 (.mv (xt 0)),
 xo 21 (.mv (xt 4)),
 xo 22 (.ia (xt 20) (xt 21) 1),
 xo 23 (.ld (xt 22) 1 false),
 xo 24 (.conv .i64 (xt 23)),
 xo 25 (.bin .add (xt 19) (xt 24)),
 xo 26 (.bin .add (xt 25) (xi 7)),
 xo 27 (.bit .and (xt 26) (xi 1073741823)),
 xo 3 (.mv (xt 27))] [0,3,4]
def c23_8 : XC := fun _ => .block 1 c23_7
def c23_9 : XC := fun _ => .region [] [xo 16 (.mv (xt 4)),
 xo 17 (.bin .add (xt 16) (xi 1)),
 xo 4 (.mv (xt 17))] [0,3,4]
def c23_10 : XC := fun _ => .seq c23_8 c23_9
def c23_11 : XC := fun _ => .seq c23_6 c23_10
def c23_12 : XC := fun _ => .loop c23_11
def c23_13 : XC := fun _ => .block 0 c23_12
def c23_14 : XC := fun _ => .seq c23_3 c23_13
def c23_15 : XC := fun _ => .region [] [xo 28 (.mv (xt 0)),
 xo 29 (.mv (xt 3)),
 xo 30 (.bld [.slice none 0 0, .int .i64 0, .int .i64 0] [(0, 1, (xt 28)), (2, 1, (xt 29))]),
 xo 31 (.box (xt 30)),
 xo 2 (.mv (xt 31))] [2]
def c23_16 : XC := fun _ => .seq c23_15 (fun _ => .ret)
def c23_17 : XC := fun _ => .seq c23_14 c23_16
def c23_18 : XC := fun _ => .seq c23_2 c23_17
def c23_19 : XC := fun _ => .seq c23_1 c23_18
def m_spec_l1New : MCode := c23_19 ()
def h_spec_l1New : Hints := [(0, [0], [], [], []), (1, [0,3], [], [], []), (2, [0,3,4], [], [], []), (3, [0,3,4,15], [], [], []), (5, [0,3,4], [], [], []), (4, [0,3,4], [], [], []), (6, [2], [], [], [])]
def r_spec_l1New : List RV := [.t 2]
abbrev n_spec_l1New : Nat := 23
theorem k_spec_l1New : Known Pr mu n_spec_l1New m_spec_l1New r_spec_l1New Go.Proofs.Try.f23.ntmps := .of h_spec_l1New hm Go.Proofs.Try.func23
def c24_1 : XC := fun _ => .region [] [xo 2 (.mv (.const (.slice none 0 0)))] [0]
def c24_2 : XC := fun _ => .region [] [xo 4 (.mv (xt 0)),
 xo 5 (.callp 41 [(xt 4)]),
 xo 3 (.mv (xt 5))] [0,3]
def c24_3 : XC := fun _ => .region [] [xo 6 (.mv (xt 0)),
 xo 7 (.callp 26 [(xt 6), (xi 14)])] [0,3,7]
def c24_4 : XC := fun _ => .region [] [xo 9 (.bin .eql (xt 7) (xi 0)),
 xo 8 (.mv (xt 9))] [0,3,7,8]
def c24_5 : XC := fun _ => .region [] [xo 10 (.mv (xt 3)),
 xo 11 (.slc false (xt 10) (some (xi 1)) none none 3),
 xo 3 (.mv (xt 11))] [3]
def c24_6 : XC := fun _ => .region [] [xo 13 (.bin .eql (xt 7) (xi 1)),
 xo 12 (.mv (xt 13))] [0,3,7,12]
def c24_7 : XC := fun _ => .region [] [xo 14 (.mv (xt 3)),
 xo 15 (.mv (xt 0)),
 xo 16 (.bsl 1 3 [.int .i64 0] [(0, (xi (-1))), (1, (xi 9)), (2, (xi 10))]),
 xo 17 (.callp 42 [(xt 15), (xt 16)]),
 xo 18 (.ia (xt 14) (xi 0) 3),
 xo 19 (.fa (xt 18) 0),
 xn (.sto (xt 19) (xt 17) 1)] [3]
def c24_8 : XC := fun _ => .region [] [xo 21 (.bin .eql (xt 7) (xi 2)),
 xo 20 (.mv (xt 21))] [0,3,20]
def c24_9 : XC := fun _ => .region [] [xo 22 (.mv (xt 3)),
 xo 23 (.mv (xt 0)),
 xo 24 (.bsl 1 3 [.int .i64 0] [(0, (xi (-1))), (1, (xi 99)), (2, (xi 100))]),
 xo 25 (.callp 42 [(xt 23), (xt 24)]),
 xo 26 (.ia (xt 22) (xi 1) 3),
 xo 27 (.fa (xt 26) 2),
 xn (.sto (xt 27) (xt 25) 1)] [3]
def c24_10 : XC := fun _ => .cond (xt 20) c24_9 (fun _ => .skip)
def c24_11 : XC := fun _ => .seq c24_8 c24_10
def c24_12 : XC := fun _ => .cond (xt 12) c24_7 c24_11
def c24_13 : XC := fun _ => .seq c24_6 c24_12
def c24_14 : XC := fun _ => .cond (xt 8) c24_5 c24_13
def c24_15 : XC := fun _ => .seq c24_4 c24_14
def c24_16 : XC := fun _ => .block 0 c24_15
def c24_17 : XC := fun _ => .seq c24_3 c24_16
def c24_18 : XC := fun _ => .region [] [xo 28 (.mv (xt 3)),
 xo 2 (.mv (xt 28))] [2]
def c24_19 : XC := fun _ => .seq c24_18 (fun _ => .ret)
def c24_20 : XC := fun _ => .seq c24_17 c24_19
def c24_21 : XC := fun _ => .seq c24_2 c24_20
def c24_22 : XC := fun _ => .seq c24_1 c24_21
def m_spec_l9Any : MCode := c24_22 ()
def h_spec_l9Any : Hints := [(0, [0], [], [], []), (1, [0,3], [], [], []), (2, [0,3,7], [], [], []), (3, [0,3,7,8], [], [], []), (4, [3], [], [], []), (5, [0,3,7,12], [], [], []), (6, [3], [], [], []), (7, [0,3,20], [], [], []), (8, [3], [], [], []), (9, [2], [], [], [])]
def r_spec_l9Any : List RV := [.t 2]
abbrev n_spec_l9Any : Nat := 24
theorem k_spec_l9Any : Known Pr mu n_spec_l9Any m_spec_l9Any r_spec_l9Any Go.Proofs.Try.f24.ntmps := .of h_spec_l9Any hm Go.Proofs.Try.func24
def c25_1 : XC := fun _ => .region [] [xo 2 (.mv (.const (.slice none 0 0)))] [0]
def c25_2 : XC := fun _ => .region [] [xo 4 (.mv (xt 0)),
 xo 5 (.callp 36 [(xt 4)]),
 xo 3 (.mv (xt 5))] [0,3]
def c25_3 : XC := fun _ => .region [] [xo 6 (.mv (xt 0)),
 xo 7 (.callp 43 [(xt 6), (xi 8)])] [0,3,7]
def c25_4 : XC := fun _ => .region [] [xo 8 (.mv (xt 3)),
 xo 9 (.mv (xt 0)),
 xo 10 (.bsl 1 4 [.int .i64 0] [(0, (xi (-1))), (1, (xi 0)), (2, (xi 4)), (3, (xi 5))]),
 xo 11 (.callp 42 [(xt 9), (xt 10)]),
 xo 12 (.bsl 1 1 [.int .i64 0] [(0, (xt 11))]),
 xo 13 (.app (xt 8) (xt 12) 1 8),
 xo 3 (.mv (xt 13))] [3]
def c25_5 : XC := fun _ => .cond (xt 7) c25_4 (fun _ => .skip)
def c25_6 : XC := fun _ => .seq c25_3 c25_5
def c25_7 : XC := fun _ => .region [] [xo 14 (.mv (xt 3)),
 xo 2 (.mv (xt 14))] [2]
def c25_8 : XC := fun _ => .seq c25_7 (fun _ => .ret)
def c25_9 : XC := fun _ => .seq c25_6 c25_8
def c25_10 : XC := fun _ => .seq c25_2 c25_9
def c25_11 : XC := fun _ => .seq c25_1 c25_10
def m_spec_l2Any : MCode := c25_11 ()
def h_spec_l2Any : Hints := [(0, [0], [], [], []), (1, [0,3], [], [], []), (2, [0,3,7], [], [], []), (3, [3], [], [], []), (4, [2], [], [], [])]
def r_spec_l2Any : List RV := [.t 2]
abbrev n_spec_l2Any : Nat := 25
theorem k_spec_l2Any : Known Pr mu n_spec_l2Any m_spec_l2Any r_spec_l2Any Go.Proofs.Try.f25.ntmps := .of h_spec_l2Any hm Go.Proofs.Try.func25
def c26_1 : XC := fun _ => .region [] [xo 4 (.mv (xi 0))] [0,1]
def c26_2 : XC := fun _ => .region [] [xo 9 (.mv (xt 1)),
 xo 10 (.bin .leq (xt 9) (xi 0))] [0,1,10]
def c26_3 : XC := fun _ => .region [] [xo 4 (.mv (xi 0))] [4]
def c26_4 : XC := fun _ => .seq c26_3 (fun _ => .ret)
def c26_5 : XC := fun _ => .cond (xt 10) c26_4 (fun _ => .skip)
def c26_6 : XC := fun _ => .seq c26_2 c26_5
def c26_7 : XC := fun _ => .region [] [xo 11 (.mv (xt 1)),
 xo 12 (.bin .leq (xt 11) (xi 256))] [0,1,12]
def c26_8 : XC := fun _ => .region [] [xo 13 (.mv (xt 0)),
 xo 14 (.callp 44 [(xt 13)]),
 xo 15 (.mv (xt 1)),
 xo 16 (.bin .rem (xt 14) (xt 15)),
 xo 4 (.mv (xt 16))] [4]
def c26_9 : XC := fun _ => .seq c26_8 (fun _ => .ret)
def c26_10 : XC := fun _ => .cond (xt 12) c26_9 (fun _ => .skip)
def c26_11 : XC := fun _ => .seq c26_7 c26_10
def c26_12 : XC := fun _ => .region [] [xo 17 (.mv (xt 0)),
 xo 18 (.callp 44 [(xt 17)]),
 xo 5 (.mv (xt 18))] [0,1,5]
def c26_13 : XC := fun _ => .region [] [xo 19 (.mv (xt 0)),
 xo 20 (.callp 44 [(xt 19)]),
 xo 6 (.mv (xt 20))] [0,1,5,6]
def c26_14 : XC := fun _ => .region [] [xo 21 (.mv (xt 0)),
 xo 22 (.callp 44 [(xt 21)]),
 xo 7 (.mv (xt 22))] [0,1,5,6,7]
def c26_15 : XC := fun _ => .region [] [xo 23 (.mv (xt 0)),
 xo 24 (.callp 44 [(xt 23)]),
 xo 8 (.mv (xt 24))] [1,5,6,7,8]
def c26_16 : XC := fun _ => .region [] [xo 25 (.mv (xt 5)),
 xo 26 (.bin .mul (xt 25) (xi 16777216)),
 xo 27 (.mv (xt 6)),
 xo 28 (.bin .mul (xt 27) (xi 65536)),
 xo 29 (.bin .add (xt 26) (xt 28)),
 xo 30 (.mv (xt 7)),
 xo 31 (.bin .mul (xt 30) (xi 256)),
 xo 32 (.bin .add (xt 29) (xt 31)),
 xo 33 (.mv (xt 8)),
 xo 34 (.bin .add (xt 32) (xt 33)),
 xo 35 (.mv (xt 1)),
 xo 36 (.bin .rem (xt 34) (xt 35)),
 xo 4 (.mv (xt 36))] [4]
def c26_17 : XC := fun _ => .seq c26_16 (fun _ => .ret)
def c26_18 : XC := fun _ => .seq c26_15 c26_17
def c26_19 : XC := fun _ => .seq c26_14 c26_18
def c26_20 : XC := fun _ => .seq c26_13 c26_19
def c26_21 : XC := fun _ => .seq c26_12 c26_20
def c26_22 : XC := fun _ => .seq c26_11 c26_21
def c26_23 : XC := fun _ => .seq c26_6 c26_22
def c26_24 : XC := fun _ => .seq c26_1 c26_23
def m_spec_l1Below : MCode := c26_24 ()
def h_spec_l1Below : Hints := [(0, [0,1], [], [], []), (1, [0,1,10], [], [], []), (2, [4], [], [], []), (3, [0,1,12], [], [], []), (4, [4], [], [], []), (5, [0,1,5], [], [], []), (6, [0,1,5,6], [], [], []), (7, [0,1,5,6,7], [], [], []), (8, [1,5,6,7,8], [], [], []), (9, [4], [], [], [])]
def r_spec_l1Below : List RV := [.t 4]
abbrev n_spec_l1Below : Nat := 26
theorem k_spec_l1Below : Known Pr mu n_spec_l1Below m_spec_l1Below r_spec_l1Below Go.Proofs.Try.f26.ntmps := .of h_spec_l1Below hm Go.Proofs.Try.func26
def c27_1 : XC := fun _ => .region [] [xo 2 (.mv (xb false))] [0]
def c27_2 : XC := fun _ => .region [] [xo 3 (.mv (xt 0)),
 xo 4 (.len false (xt 3)),
 xo 5 (.bin .eql (xt 4) (xi 5)),
 xo 6 (.mv (xt 5)),
 ⟨(some 7), .mv (xt 0), (some (6, true)), []⟩,
 ⟨(some 8), .call 45 [(xt 7), (.func 46)], (some (6, true)), []⟩,
 ⟨(some 9), .not (xt 8), (some (6, true)), []⟩,
 xo 10 (.pick (xt 6) (xt 9) (xb false)),
 xo 2 (.mv (xt 10))] [2]
def c27_3 : XC := fun _ => .seq c27_2 (fun _ => .ret)
def c27_4 : XC := fun _ => .seq c27_1 c27_3
def m_impl_ArePlaces : MCode := c27_4 ()
def h_impl_ArePlaces : Hints := [(0, [0], [], [], []), (1, [2], [], [], [])]
def r_impl_ArePlaces : List RV := [.t 2]
abbrev n_impl_ArePlaces : Nat := 27
theorem k_impl_ArePlaces : Known Pr mu n_impl_ArePlaces m_impl_ArePlaces r_impl_ArePlaces Go.Proofs.Try.f27.ntmps := .of h_impl_ArePlaces hm Go.Proofs.Try.func27
def c28_1 : XC := fun _ => .region [] [xo 2 (.mv (xb false))] [0]
def c28_2 : XC := fun _ => .region [] [xo 5 (.mv (xt 0)),
 xo 6 (.len false (xt 5)),
 xo 7 (.mv (xi 0))] [0,5,6,7]
def c28_3 : XC := fun _ => .region [] [xo 8 (.bin .lss (xt 7) (xt 6))] [0,5,6,7,8]
def c28_4 : XC := fun _ => .cond (xt 8) (fun _ => .skip) (fun _ => .exit 0)
def c28_5 : XC := fun _ => .region [] [xo 9 (.mv (xt 7)),
 xo 10 (.ia (xt 5) (xt 7) 1),
 xo 11 (.ld (xt 10) 1 false),
 xo 3 (.mv (xt 9)),
 xo 4 (.mv (xt 11))] [0,3,4,5,6,7]
def c28_6 : XC := fun _ => .region [] [xo 12 (.mv (xt 4)),
 xo 13 (.call 29 [(xt 12), (xi 0), (xi 4)]),
 xo 14 (.not (xt 13)),
 xo 15 (.mv (xt 14)),
 ⟨(some 16), .mv (xt 3), (some (15, false)), []⟩,
 ⟨(some 17), .bin .gtr (xt 16) (xi 0), (some (15, false)), []⟩,
 ⟨(some 18), .mv (xt 17), (some (15, false)), []⟩,
 ⟨(some 19), .mv (xt 4), (some (18, true)), []⟩,
 ⟨(some 20), .mv (xt 0), (some (18, true)), []⟩,
 ⟨(some 21), .mv (xt 3), (some (18, true)), []⟩,
 ⟨(some 22), .bin .sub (xt 21) (xi 1), (some (18, true)), []⟩,
 ⟨(some 23), .ia (xt 20) (xt 22) 1, (some (18, true)), []⟩,
 ⟨(some 24), .ld (xt 23) 1 false, (some (18, true)), []⟩,
 ⟨(some 25), .bin .leq (xt 19) (xt 24), (some (18, true)), []⟩,
 ⟨(some 26), .pick (xt 18) (xt 25) (xb false), (some (15, false)), []⟩,
 xo 27 (.pick (xt 15) (xb true) (xt 26))] [0,5,6,7,27]
def c28_7 : XC := fun _ => .region [] [xo 2 (.mv (xb false))] [2]
def c28_8 : XC := fun _ => .seq c28_7 (fun _ => .ret)
def c28_9 : XC := fun _ => .cond (xt 27) c28_8 (fun _ => .skip)
def c28_10 : XC := fun _ => .seq c28_6 c28_9
def c28_11 : XC := fun _ => .seq c28_5 c28_10
def c28_12 : XC := fun _ => .block 1 c28_11
def c28_13 : XC := fun _ => .region [] [xo 28 (.bin .add (xt 7) (xi 1)),
 xo 7 (.mv (xt 28))] [0,5,6,7]
def c28_14 : XC := fun _ => .seq c28_12 c28_13
def c28_15 : XC := fun _ => .seq c28_4 c28_14
def c28_16 : XC := fun _ => .seq c28_3 c28_15
def c28_17 : XC := fun _ => .loop c28_16
def c28_18 : XC := fun _ => .block 0 c28_17
def c28_19 : XC := fun _ => .seq c28_2 c28_18
def c28_20 : XC := fun _ => .region [] [xo 2 (.mv (xb true))] [2]
def c28_21 : XC := fun _ => .seq c28_20 (fun _ => .ret)
def c28_22 : XC := fun _ => .seq c28_19 c28_21
def c28_23 : XC := fun _ => .seq c28_1 c28_22
def m_impl_AreServers : MCode := c28_23 ()
def h_impl_AreServers : Hints := [(0, [0], [], [], []), (1, [0,5,6,7], [], [], []), (2, [0,5,6,7,8], [], [], []), (3, [0,3,4,5,6,7], [], [], []), (4, [0,5,6,7,27], [], [], []), (5, [2], [], [], []), (6, [0,5,6,7], [], [], []), (7, [2], [], [], [])]
def r_impl_AreServers : List RV := [.t 2]
abbrev n_impl_AreServers : Nat := 28
theorem k_impl_AreServers : Known Pr mu n_impl_AreServers m_impl_AreServers r_impl_AreServers Go.Proofs.Try.f28.ntmps := .of h_impl_AreServers hm Go.Proofs.Try.func28
def c29_1 : XC := fun _ => .region [] [xo 6 (.mv (xb false))] [0,1,2]
def c29_2 : XC := fun _ => .region [] [xo 7 (.mv (xt 1)),
 xo 8 (.mv (xt 0)),
 xo 9 (.bin .leq (xt 7) (xt 8)),
 xo 10 (.mv (xt 9)),
 ⟨(some 11), .mv (xt 0), (some (10, true)), []⟩,
 ⟨(some 12), .mv (xt 2), (some (10, true)), []⟩,
 ⟨(some 13), .bin .leq (xt 11) (xt 12), (some (10, true)), []⟩,
 xo 14 (.pick (xt 10) (xt 13) (xb false)),
 xo 6 (.mv (xt 14))] [6]
def c29_3 : XC := fun _ => .seq c29_2 (fun _ => .ret)
def c29_4 : XC := fun _ => .seq c29_1 c29_3
def m_impl_within : MCode := c29_4 ()
def h_impl_within : Hints := [(0, [0,1,2], [], [], []), (1, [6], [], [], [])]
def r_impl_within : List RV := [.t 6]
abbrev n_impl_within : Nat := 29
theorem k_impl_within : Known Pr mu n_impl_within m_impl_within r_impl_within Go.Proofs.Try.f29.ntmps := .of h_impl_within hm Go.Proofs.Try.func29
def c30_1 : XC := fun _ => .region [] [xo 4 (.mv (.const (.slice none 0 0)))] [0,1]
def c30_2 : XC := fun _ => .region [] [xo 5 (.mv (xt 0)),
 xo 6 (.mv (xt 0)),
 xo 7 (.mv (xt 1)),
 xo 8 (.call 31 [(xt 6), (xt 7)]),
 xo 9 (.call 31 [(xt 5), (xt 8)]),
 xo 4 (.mv (xt 9))] [4]
def c30_3 : XC := fun _ => .seq c30_2 (fun _ => .ret)
def c30_4 : XC := fun _ => .seq c30_1 c30_3
def m_impl_CommonServers : MCode := c30_4 ()
def h_impl_CommonServers : Hints := [(0, [0,1], [], [], []), (1, [4], [], [], [])]
def r_impl_CommonServers : List RV := [.t 4]
abbrev n_impl_CommonServers : Nat := 30
theorem k_impl_CommonServers : Known Pr mu n_impl_CommonServers m_impl_CommonServers r_impl_CommonServers Go.Proofs.Try.f30.ntmps := .of h_impl_CommonServers hm Go.Proofs.Try.func30
def c31_1 : XC := fun _ => .region [] [xo 3 (.box (xt 1)),
 xo 4 (.mv (.const (.slice none 0 0)))] [0,3]
def c31_2 : XC := fun _ => .region [] [xo 5 (.mv (xt 0)),
 xo 6 (.call 40 [(xt 5)]),
 xo 7 (.mkf 48 [(xt 3)]),
 xo 8 (.callm 47 [(xt 6), (xt 7)]),
 xo 4 (.mv (xt 8))] [4]
def c31_3 : XC := fun _ => .seq c31_2 (fun _ => .ret)
def c31_4 : XC := fun _ => .seq c31_1 c31_3
def m_impl_WithoutServers : MCode := c31_4 ()
def h_impl_WithoutServers : Hints := [(0, [0,3], [], [], []), (1, [4], [], [], [])]
def r_impl_WithoutServers : List RV := [.t 4]
abbrev n_impl_WithoutServers : Nat := 31
theorem k_impl_WithoutServers : Known Pr mu n_impl_WithoutServers m_impl_WithoutServers r_impl_WithoutServers Go.Proofs.Try.f31.ntmps := .of h_impl_WithoutServers hm Go.Proofs.Try.func31
def c32_1 : XC := fun _ => .region [] [xo 0 (.mv (.const (.slice none 0 0)))] []
def c32_2 : XC := fun _ => .region [] [xo 3 (.bsl 1 0 [.int .i64 0] []),
 xo 1 (.mv (xt 3))] [1]
def c32_3 : XC := fun _ => .region [] [xo 4 (.mv (xi 0))] [1,4]
def c32_4 : XC := fun _ => .region [] [xo 5 (.bin .lss (xt 4) (xi 5))] [1,4,5]
def c32_5 : XC := fun _ => .cond (xt 5) (fun _ => .skip) (fun _ => .exit 0)
def c32_6 : XC := fun _ => .region [] [xo 6 (.mv (xt 4)),
 xo 2 (.mv (xt 6))] [1,2,4]
def c32_7 : XC := fun _ => .region [] [xo 7 (.mv (xt 1)),
 xo 8 (.mv (xt 2)),
 xo 9 (.bsl 1 1 [.int .i64 0] [(0, (xt 8))]),
 xo 10 (.app (xt 7) (xt 9) 1 8),
 xo 1 (.mv (xt 10))] [1,4]
def c32_8 : XC := fun _ => .seq c32_6 c32_7
def c32_9 : XC := fun _ => .block 1 c32_8
def c32_10 : XC := fun _ => .region [] [xo 11 (.bin .add (xt 4) (xi 1)),
 xo 4 (.mv (xt 11))] [1,4]
def c32_11 : XC := fun _ => .seq c32_9 c32_10
def c32_12 : XC := fun _ => .seq c32_5 c32_11
def c32_13 : XC := fun _ => .seq c32_4 c32_12
def c32_14 : XC := fun _ => .loop c32_13
def c32_15 : XC := fun _ => .block 0 c32_14
def c32_16 : XC := fun _ => .seq c32_3 c32_15
def c32_17 : XC := fun _ => .region [] [xo 12 (.mv (xt 1)),
 xo 0 (.mv (xt 12))] [0]
def c32_18 : XC := fun _ => .seq c32_17 (fun _ => .ret)
def c32_19 : XC := fun _ => .seq c32_16 c32_18
def c32_20 : XC := fun _ => .seq c32_2 c32_19
def c32_21 : XC := fun _ => .seq c32_1 c32_20
def m_impl_allServers : MCode := c32_21 ()
def h_impl_allServers : Hints := [(0, [], [], [], []), (1, [1], [], [], []), (2, [1,4], [], [], []), (3, [1,4,5], [], [], []), (4, [1,2,4], [], [], []), (5, [1,4], [], [], []), (6, [1,4], [], [], []), (7, [0], [], [], [])]
def r_impl_allServers : List RV := [.t 0]
abbrev n_impl_allServers : Nat := 32
theorem k_impl_allServers : Known Pr mu n_impl_allServers m_impl_allServers r_impl_allServers Go.Proofs.Try.f32.ntmps := .of h_impl_allServers hm Go.Proofs.Try.func32
def c33_1 : XC := fun _ => .region [] [xo 4 (.mv (.const (.slice none 0 0)))] [0,1]
def c33_2 : XC := fun _ => .region [] [xo 5 (.mv (xt 0)),
 xo 6 (.mv (xt 1)),
 xo 7 (.bsl 1 2 [.slice none 0 0] [(0, (xt 5)), (1, (xt 6))]),
 xo 8 (.call 49 [(xt 7)]),
 xo 9 (.call 40 [(xt 8)]),
 xo 4 (.mv (xt 9))] [4]
def c33_3 : XC := fun _ => .seq c33_2 (fun _ => .ret)
def c33_4 : XC := fun _ => .seq c33_1 c33_3
def m_impl_UniteServers : MCode := c33_4 ()
def h_impl_UniteServers : Hints := [(0, [0,1], [], [], []), (1, [4], [], [], [])]
def r_impl_UniteServers : List RV := [.t 4]
abbrev n_impl_UniteServers : Nat := 33
theorem k_impl_UniteServers : Known Pr mu n_impl_UniteServers m_impl_UniteServers r_impl_UniteServers Go.Proofs.Try.f33.ntmps := .of h_impl_UniteServers hm Go.Proofs.Try.func33
def c34_1 : XC := fun _ => .region [] [xo 6 (.mv (xb false))] [0,1,2]
def c34_2 : XC := fun _ => .region [] [xo 7 (.mv (xt 0)),
 xo 8 (.mv (xt 1)),
 xo 9 (.bin .geq (xt 7) (xt 8)),
 xo 10 (.mv (xt 9)),
 ⟨(some 11), .mv (xt 0), (some (10, true)), []⟩,
 ⟨(some 12), .mv (xt 2), (some (10, true)), []⟩,
 ⟨(some 13), .bin .leq (xt 11) (xt 12), (some (10, true)), []⟩,
 xo 14 (.pick (xt 10) (xt 13) (xb false)),
 xo 6 (.mv (xt 14))] [6]
def c34_3 : XC := fun _ => .seq c34_2 (fun _ => .ret)
def c34_4 : XC := fun _ => .seq c34_1 c34_3
def m_spec_l1In : MCode := c34_4 ()
def h_spec_l1In : Hints := [(0, [0,1,2], [], [], []), (1, [6], [], [], [])]
def r_spec_l1In : List RV := [.t 6]
abbrev n_spec_l1In : Nat := 34
theorem k_spec_l1In : Known Pr mu n_spec_l1In m_spec_l1In r_spec_l1In Go.Proofs.Try.f34.ntmps := .of h_spec_l1In hm Go.Proofs.Try.func34
def c35_1 : XC := fun _ => .region [] [xo 4 (.mv (.const (.slice none 0 0)))] [0,1]
def c35_2 : XC := fun _ => .region [] [xo 5 (.mv (xi 0))] [0,1,5]
def c35_3 : XC := fun _ => .region [] [xo 6 (.mv (xt 5)),
 xo 7 (.mv (xt 0)),
 xo 8 (.len false (xt 7)),
 xo 9 (.bin .lss (xt 6) (xt 8)),
 xo 10 (.mv (xt 9)),
 ⟨(some 11), .mv (xt 0), (some (10, true)), []⟩,
 ⟨(some 12), .mv (xt 5), (some (10, true)), []⟩,
 ⟨(some 13), .ia (xt 11) (xt 12) 1, (some (10, true)), []⟩,
 ⟨(some 14), .ld (xt 13) 1 false, (some (10, true)), []⟩,
 ⟨(some 15), .mv (xt 1), (some (10, true)), []⟩,
 ⟨(some 16), .bin .lss (xt 14) (xt 15), (some (10, true)), []⟩,
 xo 17 (.pick (xt 10) (xt 16) (xb false))] [0,1,5,17]
def c35_4 : XC := fun _ => .cond (xt 17) (fun _ => .skip) (fun _ => .exit 0)
def c35_5 : XC := fun _ => .seq c35_3 c35_4
def c35_6 : XC := fun _ => .region [] [xo 18 (.mv (xt 5)),
 xo 19 (.bin .add (xt 18) (xi 1)),
 xo 5 (.mv (xt 19))] [0,1,5]
def c35_7 : XC := fun _ => .block 1 c35_6
def c35_8 : XC := fun _ => .seq c35_5 c35_7
def c35_9 : XC := fun _ => .loop c35_8
def c35_10 : XC := fun _ => .block 0 c35_9
def c35_11 : XC := fun _ => .region [] [xo 20 (.mv (xt 5)),
 xo 21 (.mv (xt 0)),
 xo 22 (.len false (xt 21)),
 xo 23 (.bin .lss (xt 20) (xt 22)),
 xo 24 (.mv (xt 23)),
 ⟨(some 25), .mv (xt 0), (some (24, true)), []⟩,
 ⟨(some 26), .mv (xt 5), (some (24, true)), []⟩,
 ⟨(some 27), .ia (xt 25) (xt 26) 1, (some (24, true)), []⟩,
 ⟨(some 28), .ld (xt 27) 1 false, (some (24, true)), []⟩,
 ⟨(some 29), .mv (xt 1), (some (24, true)), []⟩,
 ⟨(some 30), .bin .eql (xt 28) (xt 29), (some (24, true)), []⟩,
 xo 31 (.pick (xt 24) (xt 30) (xb false))] [0,1,5,31]
def c35_12 : XC := fun _ => .region [] [xo 32 (.bsl 1 0 [.int .i64 0] []),
 xo 33 (.mv (xt 0)),
 xo 34 (.app (xt 32) (xt 33) 1 8),
 xo 4 (.mv (xt 34))] [4]
def c35_13 : XC := fun _ => .seq c35_12 (fun _ => .ret)
def c35_14 : XC := fun _ => .cond (xt 31) c35_13 (fun _ => .skip)
def c35_15 : XC := fun _ => .seq c35_11 c35_14
def c35_16 : XC := fun _ => .region [xo 43 (.mv (xt 0)), xo 44 (.mv (xt 5)), xo 45 (.slf (xt 43) (some (xt 44)) none 1)] [xo 35 (.bsl 1 0 [.int .i64 0] []),
 xo 36 (.mv (xt 0)),
 xo 37 (.mv (xt 5)),
 ⟨(some 38), .slc false (xt 36) none (some (xt 37)) none 1, none, [0]⟩,
 ⟨(some 39), .appn (xt 35) (xt 38) 1 8, none, [1000000]⟩,
 xo 40 (.mv (xt 1)),
 xo 41 (.bsl 1 1 [.int .i64 0] [(0, (xt 40))]),
 xo 42 (.app (xt 39) (xt 41) 1 8),
 ⟨(some 43), .mv (xt 43), none, []⟩,
 ⟨(some 44), .mv (xt 44), none, []⟩,
 ⟨(some 45), .mv (xt 45), none, []⟩,
 xo 46 (.app (xt 42) (xt 45) 1 8),
 xo 4 (.mv (xt 46))] [4]
def c35_17 : XC := fun _ => .seq c35_16 (fun _ => .ret)
def c35_18 : XC := fun _ => .seq c35_15 c35_17
def c35_19 : XC := fun _ => .seq c35_10 c35_18
def c35_20 : XC := fun _ => .seq c35_2 c35_19
def c35_21 : XC := fun _ => .seq c35_1 c35_20
def m_spec_l2Put : MCode := c35_21 ()
def h_spec_l2Put : Hints := [(0, [0,1], [], [], []), (1, [0,1,5], [], [], []), (2, [0,1,5,17], [], [], []), (3, [0,1,5], [], [], []), (4, [0,1,5,31], [], [], []), (5, [4], [], [], []), (6, [4], [[],[],[],[0],[1000000]], [8,9,10], [])]
def r_spec_l2Put : List RV := [.t 4]
abbrev n_spec_l2Put : Nat := 35
theorem k_spec_l2Put : Known Pr mu n_spec_l2Put m_spec_l2Put r_spec_l2Put Go.Proofs.Try.f35.ntmps := .of h_spec_l2Put hm Go.Proofs.Try.func35
def c36_1 : XC := fun _ => .region [] [xo 2 (.mv (.const (.slice none 0 0)))] [0]
def c36_2 : XC := fun _ => .region [] [xo 5 (.bsl 1 0 [.int .i64 0] []),
 xo 3 (.mv (xt 5))] [0,3]
def c36_3 : XC := fun _ => .region [] [xo 4 (.mv (xi 0))] [0,3,4]
def c36_4 : XC := fun _ => .region [] [xo 6 (.mv (xt 4)),
 xo 7 (.bin .lss (xt 6) (xi 5))] [0,3,4,7]
def c36_5 : XC := fun _ => .cond (xt 7) (fun _ => .skip) (fun _ => .exit 0)
def c36_6 : XC := fun _ => .seq c36_4 c36_5
def c36_7 : XC := fun _ => .region [] [xo 10 (.mv (xt 0)),
 xo 11 (.callp 43 [(xt 10), (xi 2)])] [0,3,4,11]
def c36_8 : XC := fun _ => .region [] [xo 12 (.mv (xt 3)),
 xo 13 (.mv (xt 4)),
 xo 14 (.bsl 1 1 [.int .i64 0] [(0, (xt 13))]),
 xo 15 (.app (xt 12) (xt 14) 1 8),
 xo 3 (.mv (xt 15))] [0,3,4]
def c36_9 : XC := fun _ => .cond (xt 11) c36_8 (fun _ => .skip)
def c36_10 : XC := fun _ => .seq c36_7 c36_9
def c36_11 : XC := fun _ => .block 1 c36_10
def c36_12 : XC := fun _ => .region [] [xo 8 (.mv (xt 4)),
 xo 9 (.bin .add (xt 8) (xi 1)),
 xo 4 (.mv (xt 9))] [0,3,4]
def c36_13 : XC := fun _ => .seq c36_11 c36_12
def c36_14 : XC := fun _ => .seq c36_6 c36_13
def c36_15 : XC := fun _ => .loop c36_14
def c36_16 : XC := fun _ => .block 0 c36_15
def c36_17 : XC := fun _ => .seq c36_3 c36_16
def c36_18 : XC := fun _ => .region [] [xo 16 (.mv (xt 3)),
 xo 2 (.mv (xt 16))] [2]
def c36_19 : XC := fun _ => .seq c36_18 (fun _ => .ret)
def c36_20 : XC := fun _ => .seq c36_17 c36_19
def c36_21 : XC := fun _ => .seq c36_2 c36_20
def c36_22 : XC := fun _ => .seq c36_1 c36_21
def m_spec_l2Some : MCode := c36_22 ()
def h_spec_l2Some : Hints := [(0, [0], [], [], []), (1, [0,3], [], [], []), (2, [0,3,4], [], [], []), (3, [0,3,4,7], [], [], []), (5, [0,3,4,11], [], [], []), (6, [0,3,4], [], [], []), (4, [0,3,4], [], [], []), (7, [2], [], [], [])]
def r_spec_l2Some : List RV := [.t 2]
abbrev n_spec_l2Some : Nat := 36
theorem k_spec_l2Some : Known Pr mu n_spec_l2Some m_spec_l2Some r_spec_l2Some Go.Proofs.Try.f36.ntmps := .of h_spec_l2Some hm Go.Proofs.Try.func36
def c37_1 : XC := fun _ => .region [] [xo 4 (.mv (xb false))] [0,1]
def c37_2 : XC := fun _ => .region [] [xo 5 (.mv (xt 0)),
 xo 6 (.mv (xt 1)),
 xo 7 (.call 50 [(xt 5), (xt 6)]),
 xo 4 (.mv (xt 7))] [4]
def c37_3 : XC := fun _ => .seq c37_2 (fun _ => .ret)
def c37_4 : XC := fun _ => .seq c37_1 c37_3
def m_impl_HasServer : MCode := c37_4 ()
def h_impl_HasServer : Hints := [(0, [0,1], [], [], []), (1, [4], [], [], [])]
def r_impl_HasServer : List RV := [.t 4]
abbrev n_impl_HasServer : Nat := 37
theorem k_impl_HasServer : Known Pr mu n_impl_HasServer m_impl_HasServer r_impl_HasServer Go.Proofs.Try.f37.ntmps := .of h_impl_HasServer hm Go.Proofs.Try.func37
def c38_1 : XC := fun _ => .region [] [xo 4 (.mv (xb false))] [0,1]
def c38_2 : XC := fun _ => .region [] [xo 5 (.mv (xt 0)),
 xo 6 (.call 9 [(xt 5)]),
 xo 7 (.mv (xt 6)),
 ⟨(some 8), .mv (xt 1), (some (7, true)), []⟩,
 ⟨(some 9), .call 34 [(xt 8), (xi 0), (xi 4)], (some (7, true)), []⟩,
 xo 10 (.pick (xt 7) (xt 9) (xb false)),
 xo 11 (.mv (xt 10)),
 ⟨(some 12), .mv (xt 0), (some (11, true)), []⟩,
 ⟨(some 13), .mv (xt 1), (some (11, true)), []⟩,
 ⟨(some 14), .ia (xt 12) (xt 13) 3, (some (11, true)), []⟩,
 ⟨(some 15), .fa (xt 14) 2, (some (11, true)), []⟩,
 ⟨(some 16), .ld (xt 15) 1 false, (some (11, true)), []⟩,
 ⟨(some 17), .mv (xt 0), (some (11, true)), []⟩,
 ⟨(some 18), .mv (xt 1), (some (11, true)), []⟩,
 ⟨(some 19), .ia (xt 17) (xt 18) 3, (some (11, true)), [7, 8, 9, 10, 11]⟩,
 ⟨(some 20), .fa (xt 19) 1, (some (11, true)), [7, 8, 9, 10, 11]⟩,
 ⟨(some 21), .ld (xt 20) 1 false, (some (11, true)), [7, 8, 9, 10, 11]⟩,
 ⟨(some 22), .bin .lss (xt 16) (xt 21), (some (11, true)), []⟩,
 xo 23 (.pick (xt 11) (xt 22) (xb false)),
 xo 4 (.mv (xt 23))] [4]
def c38_3 : XC := fun _ => .seq c38_2 (fun _ => .ret)
def c38_4 : XC := fun _ => .seq c38_1 c38_3
def m_spec_HasRoom : MCode := c38_4 ()
def h_spec_HasRoom : Hints := [(0, [0,1], [], [], []), (1, [4], [[],[],[],[],[],[],[],[],[],[],[],[],[],[],[7,8,9,10,11],[7,8,9,10,11],[7,8,9,10,11]], [], [])]
def r_spec_HasRoom : List RV := [.t 4]
abbrev n_spec_HasRoom : Nat := 38
theorem k_spec_HasRoom : Known Pr mu n_spec_HasRoom m_spec_HasRoom r_spec_HasRoom Go.Proofs.Try.f38.ntmps := .of h_spec_HasRoom hm Go.Proofs.Try.func38
def c39_1 : XC := fun _ => .region [] [xo 8 (.mv (xb false))] [0,1,2,3]
def c39_2 : XC := fun _ => .region [] [xo 11 (.mv (xt 1)),
 xo 12 (.mv (xt 0)),
 xo 13 (.mv (xt 2)),
 xo 14 (.ia (xt 12) (xt 13) 3),
 xo 15 (.fa (xt 14) 0),
 xo 16 (.ld (xt 15) 1 false),
 xo 17 (.call 15 [(xt 11), (xt 16)]),
 xo 9 (.mv (xt 17))] [0,1,2,3,9]
def c39_3 : XC := fun _ => .region [] [xo 18 (.mv (xt 1)),
 xo 19 (.mv (xt 0)),
 xo 20 (.mv (xt 3)),
 xo 21 (.ia (xt 19) (xt 20) 3),
 xo 22 (.fa (xt 21) 0),
 xo 23 (.ld (xt 22) 1 false),
 xo 24 (.call 15 [(xt 18), (xt 23)]),
 xo 10 (.mv (xt 24))] [0,2,3,9,10]
def c39_4 : XC := fun _ => .region [] [xo 25 (.mv (xt 9)),
 xo 26 (.mv (xt 10)),
 xo 27 (.bbin .neq (xt 25) (xt 26))] [0,2,3,10,27]
def c39_5 : XC := fun _ => .region [] [xo 28 (.mv (xt 10)),
 xo 8 (.mv (xt 28))] [8]
def c39_6 : XC := fun _ => .seq c39_5 (fun _ => .ret)
def c39_7 : XC := fun _ => .cond (xt 27) c39_6 (fun _ => .skip)
def c39_8 : XC := fun _ => .seq c39_4 c39_7
def c39_9 : XC := fun _ => .region [] [xo 29 (.mv (xt 0)),
 xo 30 (.mv (xt 2)),
 xo 31 (.ia (xt 29) (xt 30) 3),
 xo 32 (.fa (xt 31) 2),
 xo 33 (.ld (xt 32) 1 false),
 xo 34 (.mv (xt 0)),
 xo 35 (.mv (xt 3)),
 ⟨(some 36), .ia (xt 34) (xt 35) 3, none, [0, 1, 2, 3, 4]⟩,
 ⟨(some 37), .fa (xt 36) 2, none, [0, 1, 2, 3, 4]⟩,
 ⟨(some 38), .ld (xt 37) 1 false, none, [0, 1, 2, 3, 4]⟩,
 xo 39 (.bin .lss (xt 33) (xt 38)),
 xo 8 (.mv (xt 39))] [8]
def c39_10 : XC := fun _ => .seq c39_9 (fun _ => .ret)
def c39_11 : XC := fun _ => .seq c39_8 c39_10
def c39_12 : XC := fun _ => .seq c39_3 c39_11
def c39_13 : XC := fun _ => .seq c39_2 c39_12
def c39_14 : XC := fun _ => .seq c39_1 c39_13
def m_spec_l9Better : MCode := c39_14 ()
def h_spec_l9Better : Hints := [(0, [0,1,2,3], [], [], []), (1, [0,1,2,3,9], [], [], []), (2, [0,2,3,9,10], [], [], []), (3, [0,2,3,10,27], [], [], []), (4, [8], [], [], []), (5, [8], [[],[],[],[],[],[],[],[0,1,2,3,4],[0,1,2,3,4],[0,1,2,3,4]], [], [])]
def r_spec_l9Better : List RV := [.t 8]
abbrev n_spec_l9Better : Nat := 39
theorem k_spec_l9Better : Known Pr mu n_spec_l9Better m_spec_l9Better r_spec_l9Better Go.Proofs.Try.f39.ntmps := .of h_spec_l9Better hm Go.Proofs.Try.func39
def c40_1 : XC := fun _ => .region [] [xo 2 (.mv (.const (.slice none 0 0)))] [0]
def c40_2 : XC := fun _ => .region [] [xo 4 (.mv (xt 0)),
 xo 5 (.call 51 [(xt 4)]),
 xo 3 (.mv (xt 5))] [3]
def c40_3 : XC := fun _ => .region [] [xo 6 (.mv (xt 3)),
 xo 7 (.callm 52 [(xt 6)])] [3]
def c40_4 : XC := fun _ => .region [] [xo 8 (.mv (xt 3)),
 xo 9 (.callm 53 [(xt 8)]),
 xo 2 (.mv (xt 9))] [2]
def c40_5 : XC := fun _ => .seq c40_4 (fun _ => .ret)
def c40_6 : XC := fun _ => .seq c40_3 c40_5
def c40_7 : XC := fun _ => .seq c40_2 c40_6
def c40_8 : XC := fun _ => .seq c40_1 c40_7
def m_impl_ascending : MCode := c40_8 ()
def h_impl_ascending : Hints := [(0, [0], [], [], []), (1, [3], [], [], []), (2, [3], [], [], []), (3, [2], [], [], [])]
def r_impl_ascending : List RV := [.t 2]
abbrev n_impl_ascending : Nat := 40
theorem k_impl_ascending : Known Pr mu n_impl_ascending m_impl_ascending r_impl_ascending Go.Proofs.Try.f40.ntmps := .of h_impl_ascending hm Go.Proofs.Try.func40
def c41_1 : XC := fun _ => .region [] [xo 2 (.mv (.const (.slice none 0 0)))] [0]
def c41_2 : XC := fun _ => .region [] [xo 5 (.bsl 3 0 [.int .i64 0, .int .i64 0, .int .i64 0] []),
 xo 3 (.mv (xt 5))] [0,3]
def c41_3 : XC := fun _ => .region [] [xo 4 (.mv (xi 0))] [0,3,4]
def c41_4 : XC := fun _ => .region [] [xo 6 (.mv (xt 4)),
 xo 7 (.bin .lss (xt 6) (xi 5))] [0,3,4,7]
def c41_5 : XC := fun _ => .cond (xt 7) (fun _ => .skip) (fun _ => .exit 0)
def c41_6 : XC := fun _ => .seq c41_4 c41_5
def c41_7 : XC := fun _ => .region [] [xo 10 (.mv (xt 3)),
 xo 11 (.mv (xt 0)),
 xo 12 (.callp 26 [(xt 11), (xi 4)]),
 xo 13 (.mv (xt 0)),
 xo 14 (.callp 26 [(xt 13), (xi 4)]),
 xo 15 (.bin .add (xi 1) (xt 14)),
 xo 16 (.mv (xt 0)),
 xo 17 (.callp 26 [(xt 16), (xi 4)]),
 xo 18 (.bld [.int .i64 0, .int .i64 0, .int .i64 0] [(0, 1, (xt 12)), (1, 1, (xt 15)), (2, 1, (xt 17))]),
 xo 19 (.bsl 3 1 [.int .i64 0, .int .i64 0, .int .i64 0] [(0, (xt 18))]),
 xo 20 (.app (xt 10) (xt 19) 3 24),
 xo 3 (.mv (xt 20))] [0,3,4]
def c41_8 : XC := fun _ => .block 1 c41_7
def c41_9 : XC := fun _ => .region [] [xo 8 (.mv (xt 4)),
 xo 9 (.bin .add (xt 8) (xi 1)),
 xo 4 (.mv (xt 9))] [0,3,4]
def c41_10 : XC := fun _ => .seq c41_8 c41_9
def c41_11 : XC := fun _ => .seq c41_6 c41_10
def c41_12 : XC := fun _ => .loop c41_11
def c41_13 : XC := fun _ => .block 0 c41_12
def c41_14 : XC := fun _ => .seq c41_3 c41_13
def c41_15 : XC := fun _ => .region [] [xo 21 (.mv (xt 3)),
 xo 2 (.mv (xt 21))] [2]
def c41_16 : XC := fun _ => .seq c41_15 (fun _ => .ret)
def c41_17 : XC := fun _ => .seq c41_14 c41_16
def c41_18 : XC := fun _ => .seq c41_2 c41_17
def c41_19 : XC := fun _ => .seq c41_1 c41_18
def m_spec_l9Places : MCode := c41_19 ()
def h_spec_l9Places : Hints := [(0, [0], [], [], []), (1, [0,3], [], [], []), (2, [0,3,4], [], [], []), (3, [0,3,4,7], [], [], []), (5, [0,3,4], [], [], []), (4, [0,3,4], [], [], []), (6, [2], [], [], [])]
def r_spec_l9Places : List RV := [.t 2]
abbrev n_spec_l9Places : Nat := 41
theorem k_spec_l9Places : Known Pr mu n_spec_l9Places m_spec_l9Places r_spec_l9Places Go.Proofs.Try.f41.ntmps := .of h_spec_l9Places hm Go.Proofs.Try.func41
def c42_1 : XC := fun _ => .region [] [xo 4 (.mv (xi 0))] [0,1]
def c42_2 : XC := fun _ => .region [] [xo 5 (.mv (xt 1)),
 xo 6 (.mv (xt 0)),
 xo 7 (.mv (xt 1)),
 xo 8 (.len false (xt 7)),
 xo 9 (.callp 26 [(xt 6), (xt 8)]),
 xo 10 (.ia (xt 5) (xt 9) 1),
 xo 11 (.ld (xt 10) 1 false),
 xo 4 (.mv (xt 11))] [4]
def c42_3 : XC := fun _ => .seq c42_2 (fun _ => .ret)
def c42_4 : XC := fun _ => .seq c42_1 c42_3
def m_spec_l1PickInt : MCode := c42_4 ()
def h_spec_l1PickInt : Hints := [(0, [0,1], [], [], []), (1, [4], [], [], [])]
def r_spec_l1PickInt : List RV := [.t 4]
abbrev n_spec_l1PickInt : Nat := 42
theorem k_spec_l1PickInt : Known Pr mu n_spec_l1PickInt m_spec_l1PickInt r_spec_l1PickInt Go.Proofs.Try.f42.ntmps := .of h_spec_l1PickInt hm Go.Proofs.Try.func42
def c43_1 : XC := fun _ => .region [] [xo 4 (.mv (xb false))] [0,1]
def c43_2 : XC := fun _ => .region [] [xo 5 (.mv (xt 0)),
 xo 6 (.mv (xt 1)),
 xo 7 (.callp 26 [(xt 5), (xt 6)]),
 xo 8 (.bin .eql (xt 7) (xi 0)),
 xo 4 (.mv (xt 8))] [4]
def c43_3 : XC := fun _ => .seq c43_2 (fun _ => .ret)
def c43_4 : XC := fun _ => .seq c43_1 c43_3
def m_spec_l1Once : MCode := c43_4 ()
def h_spec_l1Once : Hints := [(0, [0,1], [], [], []), (1, [4], [], [], [])]
def r_spec_l1Once : List RV := [.t 4]
abbrev n_spec_l1Once : Nat := 43
theorem k_spec_l1Once : Known Pr mu n_spec_l1Once m_spec_l1Once r_spec_l1Once Go.Proofs.Try.f43.ntmps := .of h_spec_l1Once hm Go.Proofs.Try.func43
def c44_1 : XC := fun _ => .region [] [xo 2 (.mv (xi 0))] [0]
def c44_2 : XC := fun _ => .region [] [xo 4 (.mv (xt 0)),
 xo 5 (.mv (xt 0)),
 xo 6 (.nck (xt 5)),
 xo 7 (.fa (xt 6) 2),
 xo 8 (.ld (xt 7) 1 false),
 xo 9 (.bin .mul (xt 8) (xi 6364136223846793005)),
 xo 10 (.bin .add (xt 9) (xi 1442695040888963407)),
 xo 11 (.nck (xt 4)),
 xo 12 (.fa (xt 11) 2),
 xn (.sto (xt 12) (xt 10) 1)] [0]
def c44_3 : XC := fun _ => .region [] [xo 13 (.mv (xt 0)),
 xo 14 (.nck (xt 13)),
 xo 15 (.fa (xt 14) 2),
 xo 16 (.ld (xt 15) 1 false),
 xo 17 (.bit .shr (xt 16) (.const (.int .u64 33))),
 xo 18 (.mv (xt 0)),
 xo 19 (.nck (xt 18)),
 ⟨(some 20), .fa (xt 19) 2, none, [0, 1, 2, 3, 4]⟩,
 ⟨(some 21), .ld (xt 20) 1 false, none, [0, 1, 2, 3, 4]⟩,
 xo 22 (.bit .shr (xt 21) (.const (.int .u64 45))),
 xo 23 (.bit .xor (xt 17) (xt 22)),
 xo 24 (.bit .and (xt 23) (xi 255)),
 xo 3 (.mv (xt 24))] [0,3]
def c44_4 : XC := fun _ => .region [] [xo 25 (.mv (xt 0)),
 xo 26 (.nck (xt 25)),
 xo 27 (.fa (xt 26) 1),
 xo 28 (.ld (xt 27) 1 false),
 xo 29 (.mv (xt 0)),
 xo 30 (.nck (xt 29)),
 ⟨(some 31), .fa (xt 30) 0, none, [0, 1, 2, 3]⟩,
 ⟨(some 32), .ld (xt 31) 1 false, none, [0, 1, 2, 3]⟩,
 xo 33 (.len false (xt 32)),
 xo 34 (.bin .lss (xt 28) (xt 33))] [0,3,34]
def c44_5 : XC := fun _ => .region [] [xo 35 (.mv (xt 3)),
 xo 36 (.mv (xt 0)),
 xo 37 (.nck (xt 36)),
 ⟨(some 38), .fa (xt 37) 0, none, [0]⟩,
 ⟨(some 39), .ld (xt 38) 1 false, none, [0]⟩,
 xo 40 (.mv (xt 0)),
 xo 41 (.nck (xt 40)),
 ⟨(some 42), .fa (xt 41) 1, none, [0, 1, 2, 3, 4]⟩,
 ⟨(some 43), .ld (xt 42) 1 false, none, [0, 1, 2, 3, 4]⟩,
 ⟨(some 44), .ia (xt 39) (xt 43) 1, none, [0]⟩,
 ⟨(some 45), .ld (xt 44) 1 false, none, [0]⟩,
 xo 46 (.conv .i64 (xt 45)),
 xo 47 (.bin .add (xt 35) (xt 46)),
 xo 48 (.bit .and (xt 47) (xi 255)),
 xo 3 (.mv (xt 48))] [0,3]
def c44_6 : XC := fun _ => .region [] [xo 49 (.mv (xt 0)),
 xo 50 (.mv (xt 0)),
 xo 51 (.nck (xt 50)),
 xo 52 (.fa (xt 51) 1),
 xo 53 (.ld (xt 52) 1 false),
 xo 54 (.bin .add (xt 53) (xi 1)),
 xo 55 (.nck (xt 49)),
 xo 56 (.fa (xt 55) 1),
 xn (.sto (xt 56) (xt 54) 1)] [3]
def c44_7 : XC := fun _ => .seq c44_5 c44_6
def c44_8 : XC := fun _ => .cond (xt 34) c44_7 (fun _ => .skip)
def c44_9 : XC := fun _ => .seq c44_4 c44_8
def c44_10 : XC := fun _ => .region [] [xo 57 (.mv (xt 3)),
 xo 2 (.mv (xt 57))] [2]
def c44_11 : XC := fun _ => .seq c44_10 (fun _ => .ret)
def c44_12 : XC := fun _ => .seq c44_9 c44_11
def c44_13 : XC := fun _ => .seq c44_3 c44_12
def c44_14 : XC := fun _ => .seq c44_2 c44_13
def c44_15 : XC := fun _ => .seq c44_1 c44_14
def m_spec_l1Byte : MCode := c44_15 ()
def h_spec_l1Byte : Hints := [(0, [0], [], [], []), (1, [0], [], [], []), (2, [0,3], [[],[],[],[],[],[],[],[0,1,2,3,4],[0,1,2,3,4]], [], []), (3, [0,3,34], [[],[],[],[],[],[],[0,1,2,3],[0,1,2,3]], [], []), (4, [0,3], [[],[],[],[0],[0],[],[],[0,1,2,3,4],[0,1,2,3,4],[0],[0]], [], []), (5, [3], [], [], []), (6, [2], [], [], [])]
def r_spec_l1Byte : List RV := [.t 2]
abbrev n_spec_l1Byte : Nat := 44
theorem k_spec_l1Byte : Known Pr mu n_spec_l1Byte m_spec_l1Byte r_spec_l1Byte Go.Proofs.Try.f44.ntmps := .of h_spec_l1Byte hm Go.Proofs.Try.func44
def c45_1 : XC := fun _ => .region [] [xo 4 (.mv (xb false))] [0,1]
def c45_2 : XC := fun _ => .region [] [xo 5 (.mv (xt 0)),
 xo 6 (.mv (xt 1)),
 xo 7 (.call 54 [(xt 5), (xt 6)]),
 xo 8 (.bin .geq (xt 7) (xi 0)),
 xo 4 (.mv (xt 8))] [4]
def c45_3 : XC := fun _ => .seq c45_2 (fun _ => .ret)
def c45_4 : XC := fun _ => .seq c45_1 c45_3
def m_slices_ContainsFunc_implPlaceimplPlace : MCode := c45_4 ()
def h_slices_ContainsFunc_implPlaceimplPlace : Hints := [(0, [0,1], [], [], []), (1, [4], [], [], [])]
def r_slices_ContainsFunc_implPlaceimplPlace : List RV := [.t 4]
abbrev n_slices_ContainsFunc_implPlaceimplPlace : Nat := 45
theorem k_slices_ContainsFunc_implPlaceimplPlace : Known Pr mu n_slices_ContainsFunc_implPlaceimplPlace m_slices_ContainsFunc_implPlaceimplPlace r_slices_ContainsFunc_implPlaceimplPlace Go.Proofs.Try.f45.ntmps := .of h_slices_ContainsFunc_implPlaceimplPlace hm Go.Proofs.Try.func45
def c46_1 : XC := fun _ => .region [] [xo 1 (.box (xt 0)),
 xo 2 (.mv (xb false))] [1]
def c46_2 : XC := fun _ => .region [] [xo 3 (.fa (xt 1) 0),
 xo 4 (.ld (xt 3) 1 false),
 xo 5 (.call 29 [(xt 4), (xi 0), (xi 9)]),
 xo 6 (.not (xt 5)),
 xo 7 (.mv (xt 6)),
 ⟨(some 8), .fa (xt 1) 1, (some (7, false)), []⟩,
 ⟨(some 9), .ld (xt 8) 1 false, (some (7, false)), []⟩,
 ⟨(some 10), .call 29 [(xt 9), (xi 0), (xi 9)], (some (7, false)), []⟩,
 ⟨(some 11), .not (xt 10), (some (7, false)), []⟩,
 xo 12 (.pick (xt 7) (xb true) (xt 11)),
 xo 13 (.mv (xt 12)),
 ⟨(some 14), .fa (xt 1) 2, (some (13, false)), []⟩,
 ⟨(some 15), .ld (xt 14) 1 false, (some (13, false)), []⟩,
 ⟨(some 16), .call 29 [(xt 15), (xi 0), (xi 99)], (some (13, false)), []⟩,
 ⟨(some 17), .not (xt 16), (some (13, false)), []⟩,
 xo 18 (.pick (xt 13) (xb true) (xt 17)),
 xo 2 (.mv (xt 18))] [2]
def c46_3 : XC := fun _ => .seq c46_2 (fun _ => .ret)
def c46_4 : XC := fun _ => .seq c46_1 c46_3
def m_impl_ArePlaces_c1 : MCode := c46_4 ()
def h_impl_ArePlaces_c1 : Hints := [(0, [1], [], [], []), (1, [2], [], [], [])]
def r_impl_ArePlaces_c1 : List RV := [.t 2]
abbrev n_impl_ArePlaces_c1 : Nat := 46
theorem k_impl_ArePlaces_c1 : Known Pr mu n_impl_ArePlaces_c1 m_impl_ArePlaces_c1 r_impl_ArePlaces_c1 Go.Proofs.Try.f46.ntmps := .of h_impl_ArePlaces_c1 hm Go.Proofs.Try.func46
def c47_1 : XC := fun _ => .region [] [xo 4 (.mv (.const (.slice none 0 0)))] [0,1]
def c47_2 : XC := fun _ => .region [] [xo 8 (.mv (xt 0)),
 xo 9 (.mv (xt 1)),
 xo 10 (.call 55 [(xt 8), (xt 9)]),
 xo 5 (.mv (xt 10))] [0,1,5]
def c47_3 : XC := fun _ => .region [] [xo 11 (.mv (xt 5)),
 xo 12 (.bin .eql (xt 11) (xi (-1)))] [0,1,5,12]
def c47_4 : XC := fun _ => .region [] [xo 13 (.mv (xt 0)),
 xo 4 (.mv (xt 13))] [4]
def c47_5 : XC := fun _ => .seq c47_4 (fun _ => .ret)
def c47_6 : XC := fun _ => .cond (xt 12) c47_5 (fun _ => .skip)
def c47_7 : XC := fun _ => .seq c47_3 c47_6
def c47_8 : XC := fun _ => .region [] [xo 14 (.mv (xt 5)),
 xo 15 (.bin .add (xt 14) (xi 1)),
 xo 6 (.mv (xt 15))] [0,1,5,6]
def c47_9 : XC := fun _ => .region [] [xo 16 (.mv (xt 6)),
 xo 17 (.mv (xt 0)),
 xo 18 (.len false (xt 17)),
 xo 19 (.bin .lss (xt 16) (xt 18))] [0,1,5,6,19]
def c47_10 : XC := fun _ => .cond (xt 19) (fun _ => .skip) (fun _ => .exit 0)
def c47_11 : XC := fun _ => .seq c47_9 c47_10
def c47_12 : XC := fun _ => .region [] [xo 22 (.mv (xt 0)),
 xo 23 (.mv (xt 6)),
 xo 24 (.ia (xt 22) (xt 23) 1),
 xo 25 (.ld (xt 24) 1 false),
 xo 7 (.mv (xt 25))] [0,1,5,6,7]
def c47_13 : XC := fun _ => .region [] [xo 26 (.mv (xt 1)),
 xo 27 (.mv (xt 7)),
 xo 28 (.callv (xt 26) [(xt 27)]),
 xo 29 (.not (xt 28))] [0,1,5,6,7,29]
def c47_14 : XC := fun _ => .region [] [xo 30 (.mv (xt 0)),
 xo 31 (.mv (xt 5)),
 xo 32 (.mv (xt 7)),
 xo 33 (.ia (xt 30) (xt 31) 1),
 xn (.sto (xt 33) (xt 32) 1)] [0,1,5,6]
def c47_15 : XC := fun _ => .region [] [xo 34 (.mv (xt 5)),
 xo 35 (.bin .add (xt 34) (xi 1)),
 xo 5 (.mv (xt 35))] [0,1,5,6]
def c47_16 : XC := fun _ => .seq c47_14 c47_15
def c47_17 : XC := fun _ => .cond (xt 29) c47_16 (fun _ => .skip)
def c47_18 : XC := fun _ => .seq c47_13 c47_17
def c47_19 : XC := fun _ => .seq c47_12 c47_18
def c47_20 : XC := fun _ => .block 1 c47_19
def c47_21 : XC := fun _ => .region [] [xo 20 (.mv (xt 6)),
 xo 21 (.bin .add (xt 20) (xi 1)),
 xo 6 (.mv (xt 21))] [0,1,5,6]
def c47_22 : XC := fun _ => .seq c47_20 c47_21
def c47_23 : XC := fun _ => .seq c47_11 c47_22
def c47_24 : XC := fun _ => .loop c47_23
def c47_25 : XC := fun _ => .block 0 c47_24
def c47_26 : XC := fun _ => .seq c47_8 c47_25
def c47_27 : XC := fun _ => .region [] [xo 36 (.mv (xt 0)),
 xo 37 (.mv (xt 5)),
 xo 38 (.slc false (xt 36) (some (xt 37)) none none 1),
 xn (.clr (xt 38) 1 [.int .i64 0])] [0,5]
def c47_28 : XC := fun _ => .region [] [xo 39 (.mv (xt 0)),
 xo 40 (.mv (xt 5)),
 xo 41 (.slc false (xt 39) none (some (xt 40)) none 1),
 xo 4 (.mv (xt 41))] [4]
def c47_29 : XC := fun _ => .seq c47_28 (fun _ => .ret)
def c47_30 : XC := fun _ => .seq c47_27 c47_29
def c47_31 : XC := fun _ => .seq c47_26 c47_30
def c47_32 : XC := fun _ => .seq c47_7 c47_31
def c47_33 : XC := fun _ => .seq c47_2 c47_32
def c47_34 : XC := fun _ => .seq c47_1 c47_33
def m_slices_DeleteFunc_intint : MCode := c47_34 ()
def h_slices_DeleteFunc_intint : Hints := [(0, [0,1], [], [], []), (1, [0,1,5], [], [], []), (2, [0,1,5,12], [], [], []), (3, [4], [], [], []), (4, [0,1,5,6], [], [], []), (5, [0,1,5,6,19], [], [], []), (7, [0,1,5,6,7], [], [], []), (8, [0,1,5,6,7,29], [], [], []), (9, [0,1,5,6], [], [], []), (10, [0,1,5,6], [], [], []), (6, [0,1,5,6], [], [], []), (11, [0,5], [], [], []), (12, [4], [], [], [])]
def r_slices_DeleteFunc_intint : List RV := [.t 4]
abbrev n_slices_DeleteFunc_intint : Nat := 47
theorem k_slices_DeleteFunc_intint : Known Pr mu n_slices_DeleteFunc_intint m_slices_DeleteFunc_intint r_slices_DeleteFunc_intint Go.Proofs.Try.f47.ntmps := .of h_slices_DeleteFunc_intint hm Go.Proofs.Try.func47
def c48_1 : XC := fun _ => .region [] [xo 3 (.mv (xb false))] [0,1]
def c48_2 : XC := fun _ => .region [] [xo 4 (.ld (xt 1) 1 false),
 xo 5 (.mv (xt 0)),
 xo 6 (.call 37 [(xt 4), (xt 5)]),
 xo 3 (.mv (xt 6))] [3]
def c48_3 : XC := fun _ => .seq c48_2 (fun _ => .ret)
def c48_4 : XC := fun _ => .seq c48_1 c48_3
def m_impl_WithoutServers_c1 : MCode := c48_4 ()
def h_impl_WithoutServers_c1 : Hints := [(0, [0,1], [], [], []), (1, [3], [], [], [])]
def r_impl_WithoutServers_c1 : List RV := [.t 3]
abbrev n_impl_WithoutServers_c1 : Nat := 48
theorem k_impl_WithoutServers_c1 : Known Pr mu n_impl_WithoutServers_c1 m_impl_WithoutServers_c1 r_impl_WithoutServers_c1 Go.Proofs.Try.f48.ntmps := .of h_impl_WithoutServers_c1 hm Go.Proofs.Try.func48
def c49_1 : XC := fun _ => .region [] [xo 2 (.mv (.const (.slice none 0 0)))] [0]
def c49_2 : XC := fun _ => .region [] [xo 3 (.mv (xi 0))] [0,3]
def c49_3 : XC := fun _ => .region [] [xo 9 (.mv (xt 0)),
 xo 10 (.len false (xt 9)),
 xo 11 (.mv (xi 0))] [0,3,9,10,11]
def c49_4 : XC := fun _ => .region [] [xo 12 (.bin .lss (xt 11) (xt 10))] [0,3,9,10,11,12]
def c49_5 : XC := fun _ => .cond (xt 12) (fun _ => .skip) (fun _ => .exit 0)
def c49_6 : XC := fun _ => .region [] [xo 13 (.ia (xt 9) (xt 11) 1),
 xo 14 (.ld (xt 13) 1 false),
 xo 5 (.mv (xt 14))] [0,3,5,9,10,11]
def c49_7 : XC := fun _ => .region [] [xo 15 (.mv (xt 3)),
 xo 16 (.mv (xt 5)),
 xo 17 (.len false (xt 16)),
 xo 18 (.bin .add (xt 15) (xt 17)),
 xo 3 (.mv (xt 18))] [0,3,9,10,11]
def c49_8 : XC := fun _ => .region [] [xo 19 (.mv (xt 3)),
 xo 20 (.bin .lss (xt 19) (xi 0))] [0,3,9,10,11,20]
def c49_9 : XC := fun _ => .region [] [xo 21 (.no),
 xn (.no)] [0,3,9,10,11]
def c49_10 : XC := fun _ => .cond (xt 20) c49_9 (fun _ => .skip)
def c49_11 : XC := fun _ => .seq c49_8 c49_10
def c49_12 : XC := fun _ => .seq c49_7 c49_11
def c49_13 : XC := fun _ => .seq c49_6 c49_12
def c49_14 : XC := fun _ => .block 1 c49_13
def c49_15 : XC := fun _ => .region [] [xo 22 (.bin .add (xt 11) (xi 1)),
 xo 11 (.mv (xt 22))] [0,3,9,10,11]
def c49_16 : XC := fun _ => .seq c49_14 c49_15
def c49_17 : XC := fun _ => .seq c49_5 c49_16
def c49_18 : XC := fun _ => .seq c49_4 c49_17
def c49_19 : XC := fun _ => .loop c49_18
def c49_20 : XC := fun _ => .block 0 c49_19
def c49_21 : XC := fun _ => .seq c49_3 c49_20
def c49_22 : XC := fun _ => .region [] [xo 23 (.mv (xt 3)),
 xo 24 (.call 56 [(.const (.slice none 0 0)), (xt 23)]),
 xo 6 (.mv (xt 24))] [0,6]
def c49_23 : XC := fun _ => .region [] [xo 25 (.mv (xt 0)),
 xo 26 (.len false (xt 25)),
 xo 27 (.mv (xi 0))] [6,25,26,27]
def c49_24 : XC := fun _ => .region [] [xo 28 (.bin .lss (xt 27) (xt 26))] [6,25,26,27,28]
def c49_25 : XC := fun _ => .cond (xt 28) (fun _ => .skip) (fun _ => .exit 2)
def c49_26 : XC := fun _ => .region [] [xo 29 (.ia (xt 25) (xt 27) 1),
 xo 30 (.ld (xt 29) 1 false),
 xo 8 (.mv (xt 30))] [6,8,25,26,27]
def c49_27 : XC := fun _ => .region [] [xo 31 (.mv (xt 6)),
 xo 32 (.mv (xt 8)),
 xo 33 (.app (xt 31) (xt 32) 1 8),
 xo 6 (.mv (xt 33))] [6,25,26,27]
def c49_28 : XC := fun _ => .seq c49_26 c49_27
def c49_29 : XC := fun _ => .block 3 c49_28
def c49_30 : XC := fun _ => .region [] [xo 34 (.bin .add (xt 27) (xi 1)),
 xo 27 (.mv (xt 34))] [6,25,26,27]
def c49_31 : XC := fun _ => .seq c49_29 c49_30
def c49_32 : XC := fun _ => .seq c49_25 c49_31
def c49_33 : XC := fun _ => .seq c49_24 c49_32
def c49_34 : XC := fun _ => .loop c49_33
def c49_35 : XC := fun _ => .block 2 c49_34
def c49_36 : XC := fun _ => .seq c49_23 c49_35
def c49_37 : XC := fun _ => .region [] [xo 35 (.mv (xt 6)),
 xo 2 (.mv (xt 35))] [2]
def c49_38 : XC := fun _ => .seq c49_37 (fun _ => .ret)
def c49_39 : XC := fun _ => .seq c49_36 c49_38
def c49_40 : XC := fun _ => .seq c49_22 c49_39
def c49_41 : XC := fun _ => .seq c49_21 c49_40
def c49_42 : XC := fun _ => .seq c49_2 c49_41
def c49_43 : XC := fun _ => .seq c49_1 c49_42
def m_slices_Concat_intint : MCode := c49_43 ()
def h_slices_Concat_intint : Hints := [(0, [0], [], [], []), (1, [0,3], [], [], []), (2, [0,3,9,10,11], [], [], []), (3, [0,3,9,10,11,12], [], [], []), (4, [0,3,5,9,10,11], [], [], []), (5, [0,3,9,10,11], [], [], []), (6, [0,3,9,10,11,20], [], [], []), (7, [0,3,9,10,11], [], [], []), (8, [0,3,9,10,11], [], [], []), (9, [0,6], [], [], []), (10, [6,25,26,27], [], [], []), (11, [6,25,26,27,28], [], [], []), (12, [6,8,25,26,27], [], [], []), (13, [6,25,26,27], [], [], []), (14, [6,25,26,27], [], [], []), (15, [2], [], [], [])]
def r_slices_Concat_intint : List RV := [.t 2]
abbrev n_slices_Concat_intint : Nat := 49
theorem k_slices_Concat_intint : Known Pr mu n_slices_Concat_intint m_slices_Concat_intint r_slices_Concat_intint Go.Proofs.Try.f49.ntmps := .of h_slices_Concat_intint hm Go.Proofs.Try.func49
def c50_1 : XC := fun _ => .region [] [xo 4 (.mv (xb false))] [0,1]
def c50_2 : XC := fun _ => .region [] [xo 5 (.mv (xt 0)),
 xo 6 (.mv (xt 1)),
 xo 7 (.call 57 [(xt 5), (xt 6)]),
 xo 8 (.bin .geq (xt 7) (xi 0)),
 xo 4 (.mv (xt 8))] [4]
def c50_3 : XC := fun _ => .seq c50_2 (fun _ => .ret)
def c50_4 : XC := fun _ => .seq c50_1 c50_3
def m_slices_Contains_intint : MCode := c50_4 ()
def h_slices_Contains_intint : Hints := [(0, [0,1], [], [], []), (1, [4], [], [], [])]
def r_slices_Contains_intint : List RV := [.t 4]
abbrev n_slices_Contains_intint : Nat := 50
theorem k_slices_Contains_intint : Known Pr mu n_slices_Contains_intint m_slices_Contains_intint r_slices_Contains_intint Go.Proofs.Try.f50.ntmps := .of h_slices_Contains_intint hm Go.Proofs.Try.func50
def c51_1 : XC := fun _ => .region [] [xo 2 (.mv (.const (.slice none 0 0)))] [0]
def c51_2 : XC := fun _ => .region [] [xo 3 (.mv (xt 0)),
 xo 4 (.nbin .eql (xt 3) (.const (.slice none 0 0)))] [0,4]
def c51_3 : XC := fun _ => .region [] [xo 2 (.mv (.const (.slice none 0 0)))] [2]
def c51_4 : XC := fun _ => .seq c51_3 (fun _ => .ret)
def c51_5 : XC := fun _ => .cond (xt 4) c51_4 (fun _ => .skip)
def c51_6 : XC := fun _ => .seq c51_2 c51_5
def c51_7 : XC := fun _ => .region [] [xo 5 (.bsl 1 0 [.int .i64 0] []),
 xo 6 (.mv (xt 0)),
 xo 7 (.app (xt 5) (xt 6) 1 8),
 xo 2 (.mv (xt 7))] [2]
def c51_8 : XC := fun _ => .seq c51_7 (fun _ => .ret)
def c51_9 : XC := fun _ => .seq c51_6 c51_8
def c51_10 : XC := fun _ => .seq c51_1 c51_9
def m_slices_Clone_intint : MCode := c51_10 ()
def h_slices_Clone_intint : Hints := [(0, [0], [], [], []), (1, [0,4], [], [], []), (2, [2], [], [], []), (3, [2], [], [], [])]
def r_slices_Clone_intint : List RV := [.t 2]
abbrev n_slices_Clone_intint : Nat := 51
theorem k_slices_Clone_intint : Known Pr mu n_slices_Clone_intint m_slices_Clone_intint r_slices_Clone_intint Go.Proofs.Try.f51.ntmps := .of h_slices_Clone_intint hm Go.Proofs.Try.func51
def c52_1 : XC := fun _ => .region [] [xo 3 (.mv (xt 0)),
 xo 4 (.len false (xt 3)),
 xo 2 (.mv (xt 4))] [0,2]
def c52_2 : XC := fun _ => .region [] [xo 5 (.mv (xt 0)),
 xo 6 (.mv (xt 2)),
 xo 7 (.mv (xt 2)),
 xo 8 (.conv .u64 (xt 7)),
 xo 9 (.call 59 [(xt 8)]),
 xo 10 (.callm 58 [(xt 5), (xi 0), (xt 6), (xt 9)])] []
def c52_3 : XC := fun _ => .seq c52_1 c52_2
def m_slices_Sort_intint : MCode := c52_3 ()
def h_slices_Sort_intint : Hints := [(0, [0,2], [], [], []), (1, [], [], [], [])]
def r_slices_Sort_intint : List RV := []
abbrev n_slices_Sort_intint : Nat := 52
theorem k_slices_Sort_intint : Known Pr mu n_slices_Sort_intint m_slices_Sort_intint r_slices_Sort_intint Go.Proofs.Try.f52.ntmps := .of h_slices_Sort_intint hm Go.Proofs.Try.func52
def c53_1 : XC := fun _ => .region [] [xo 2 (.mv (.const (.slice none 0 0)))] [0]
def c53_2 : XC := fun _ => .region [] [xo 6 (.mv (xt 0)),
 xo 7 (.len false (xt 6)),
 xo 8 (.bin .lss (xt 7) (xi 2))] [0,8]
def c53_3 : XC := fun _ => .region [] [xo 9 (.mv (xt 0)),
 xo 2 (.mv (xt 9))] [2]
def c53_4 : XC := fun _ => .seq c53_3 (fun _ => .ret)
def c53_5 : XC := fun _ => .cond (xt 8) c53_4 (fun _ => .skip)
def c53_6 : XC := fun _ => .seq c53_2 c53_5
def c53_7 : XC := fun _ => .region [] [xo 3 (.mv (xi 1))] [0,3]
def c53_8 : XC := fun _ => .region [] [xo 10 (.mv (xt 3)),
 xo 11 (.mv (xt 0)),
 xo 12 (.len false (xt 11)),
 xo 13 (.bin .lss (xt 10) (xt 12))] [0,3,13]
def c53_9 : XC := fun _ => .cond (xt 13) (fun _ => .skip) (fun _ => .exit 0)
def c53_10 : XC := fun _ => .seq c53_8 c53_9
def c53_11 : XC := fun _ => .region [] [xo 16 (.mv (xt 0)),
 xo 17 (.mv (xt 3)),
 xo 18 (.ia (xt 16) (xt 17) 1),
 xo 19 (.ld (xt 18) 1 false),
 xo 20 (.mv (xt 0)),
 xo 21 (.mv (xt 3)),
 xo 22 (.bin .sub (xt 21) (xi 1)),
 ⟨(some 23), .ia (xt 20) (xt 22) 1, none, [0, 1, 2, 3]⟩,
 ⟨(some 24), .ld (xt 23) 1 false, none, [0, 1, 2, 3]⟩,
 xo 25 (.bin .eql (xt 19) (xt 24))] [0,3,25]
def c53_12 : XC := fun _ => .region [] [xo 26 (.mv (xt 0)),
 xo 27 (.mv (xt 3)),
 xo 28 (.slc false (xt 26) (some (xt 27)) none none 1),
 xo 4 (.mv (xt 28))] [0,3,4]
def c53_13 : XC := fun _ => .region [] [xo 5 (.mv (xi 1))] [0,3,4,5]
def c53_14 : XC := fun _ => .region [] [xo 29 (.mv (xt 5)),
 xo 30 (.mv (xt 4)),
 xo 31 (.len false (xt 30)),
 xo 32 (.bin .lss (xt 29) (xt 31))] [0,3,4,5,32]
def c53_15 : XC := fun _ => .cond (xt 32) (fun _ => .skip) (fun _ => .exit 2)
def c53_16 : XC := fun _ => .seq c53_14 c53_15
def c53_17 : XC := fun _ => .region [] [xo 35 (.mv (xt 4)),
 xo 36 (.mv (xt 5)),
 xo 37 (.ia (xt 35) (xt 36) 1),
 xo 38 (.ld (xt 37) 1 false),
 xo 39 (.mv (xt 4)),
 xo 40 (.mv (xt 5)),
 xo 41 (.bin .sub (xt 40) (xi 1)),
 ⟨(some 42), .ia (xt 39) (xt 41) 1, none, [0, 1, 2, 3]⟩,
 ⟨(some 43), .ld (xt 42) 1 false, none, [0, 1, 2, 3]⟩,
 xo 44 (.bin .neq (xt 38) (xt 43))] [0,3,4,5,44]
def c53_18 : XC := fun _ => .region [] [xo 45 (.mv (xt 0)),
 xo 46 (.mv (xt 3)),
 xo 47 (.mv (xt 4)),
 xo 48 (.mv (xt 5)),
 xo 49 (.ia (xt 47) (xt 48) 1),
 xo 50 (.ld (xt 49) 1 false),
 xo 51 (.ia (xt 45) (xt 46) 1),
 xn (.sto (xt 51) (xt 50) 1)] [0,3,4,5]
def c53_19 : XC := fun _ => .region [] [xo 52 (.mv (xt 3)),
 xo 53 (.bin .add (xt 52) (xi 1)),
 xo 3 (.mv (xt 53))] [0,3,4,5]
def c53_20 : XC := fun _ => .seq c53_18 c53_19
def c53_21 : XC := fun _ => .cond (xt 44) c53_20 (fun _ => .skip)
def c53_22 : XC := fun _ => .seq c53_17 c53_21
def c53_23 : XC := fun _ => .block 3 c53_22
def c53_24 : XC := fun _ => .region [] [xo 33 (.mv (xt 5)),
 xo 34 (.bin .add (xt 33) (xi 1)),
 xo 5 (.mv (xt 34))] [0,3,4,5]
def c53_25 : XC := fun _ => .seq c53_23 c53_24
def c53_26 : XC := fun _ => .seq c53_16 c53_25
def c53_27 : XC := fun _ => .loop c53_26
def c53_28 : XC := fun _ => .block 2 c53_27
def c53_29 : XC := fun _ => .seq c53_13 c53_28
def c53_30 : XC := fun _ => .region [] [xo 54 (.mv (xt 0)),
 xo 55 (.mv (xt 3)),
 xo 56 (.slc false (xt 54) (some (xt 55)) none none 1),
 xn (.clr (xt 56) 1 [.int .i64 0])] [0,3]
def c53_31 : XC := fun _ => .region [] [xo 57 (.mv (xt 0)),
 xo 58 (.mv (xt 3)),
 xo 59 (.slc false (xt 57) none (some (xt 58)) none 1),
 xo 2 (.mv (xt 59))] [2]
def c53_32 : XC := fun _ => .seq c53_31 (fun _ => .ret)
def c53_33 : XC := fun _ => .seq c53_30 c53_32
def c53_34 : XC := fun _ => .seq c53_29 c53_33
def c53_35 : XC := fun _ => .seq c53_12 c53_34
def c53_36 : XC := fun _ => .cond (xt 25) c53_35 (fun _ => .skip)
def c53_37 : XC := fun _ => .seq c53_11 c53_36
def c53_38 : XC := fun _ => .block 1 c53_37
def c53_39 : XC := fun _ => .region [] [xo 14 (.mv (xt 3)),
 xo 15 (.bin .add (xt 14) (xi 1)),
 xo 3 (.mv (xt 15))] [0,3]
def c53_40 : XC := fun _ => .seq c53_38 c53_39
def c53_41 : XC := fun _ => .seq c53_10 c53_40
def c53_42 : XC := fun _ => .loop c53_41
def c53_43 : XC := fun _ => .block 0 c53_42
def c53_44 : XC := fun _ => .seq c53_7 c53_43
def c53_45 : XC := fun _ => .region [] [xo 60 (.mv (xt 0)),
 xo 2 (.mv (xt 60))] [2]
def c53_46 : XC := fun _ => .seq c53_45 (fun _ => .ret)
def c53_47 : XC := fun _ => .seq c53_44 c53_46
def c53_48 : XC := fun _ => .seq c53_6 c53_47
def c53_49 : XC := fun _ => .seq c53_1 c53_48
def m_slices_Compact_intint : MCode := c53_49 ()
def h_slices_Compact_intint : Hints := [(0, [0], [], [], []), (1, [0,8], [], [], []), (2, [2], [], [], []), (3, [0,3], [], [], []), (4, [0,3,13], [], [], []), (6, [0,3,25], [[],[],[],[],[],[],[],[0,1,2,3],[0,1,2,3]], [], []), (7, [0,3,4], [], [], []), (8, [0,3,4,5], [], [], []), (9, [0,3,4,5,32], [], [], []), (11, [0,3,4,5,44], [[],[],[],[],[],[],[],[0,1,2,3],[0,1,2,3]], [], []), (12, [0,3,4,5], [], [], []), (13, [0,3,4,5], [], [], []), (10, [0,3,4,5], [], [], []), (14, [0,3], [], [], []), (15, [2], [], [], []), (5, [0,3], [], [], []), (16, [2], [], [], [])]
def r_slices_Compact_intint : List RV := [.t 2]
abbrev n_slices_Compact_intint : Nat := 53
theorem k_slices_Compact_intint : Known Pr mu n_slices_Compact_intint m_slices_Compact_intint r_slices_Compact_intint Go.Proofs.Try.f53.ntmps := .of h_slices_Compact_intint hm Go.Proofs.Try.func53
def c54_1 : XC := fun _ => .region [] [xo 4 (.mv (xi 0))] [0,1]
def c54_2 : XC := fun _ => .region [] [xo 6 (.mv (xt 0)),
 xo 7 (.len false (xt 6)),
 xo 8 (.mv (xi 0))] [0,1,7,8]
def c54_3 : XC := fun _ => .region [] [xo 9 (.bin .lss (xt 8) (xt 7))] [0,1,7,8,9]
def c54_4 : XC := fun _ => .cond (xt 9) (fun _ => .skip) (fun _ => .exit 0)
def c54_5 : XC := fun _ => .region [] [xo 10 (.mv (xt 8)),
 xo 5 (.mv (xt 10))] [0,1,5,7,8]
def c54_6 : XC := fun _ => .region [] [xo 11 (.mv (xt 1)),
 xo 12 (.mv (xt 0)),
 xo 13 (.mv (xt 5)),
 xo 14 (.ia (xt 12) (xt 13) 3),
 xo 15 (.ld (xt 14) 3 true),
 xo 16 (.callv (xt 11) [(xt 15)])] [0,1,5,7,8,16]
def c54_7 : XC := fun _ => .region [] [xo 17 (.mv (xt 5)),
 xo 4 (.mv (xt 17))] [4]
def c54_8 : XC := fun _ => .seq c54_7 (fun _ => .ret)
def c54_9 : XC := fun _ => .cond (xt 16) c54_8 (fun _ => .skip)
def c54_10 : XC := fun _ => .seq c54_6 c54_9
def c54_11 : XC := fun _ => .seq c54_5 c54_10
def c54_12 : XC := fun _ => .block 1 c54_11
def c54_13 : XC := fun _ => .region [] [xo 18 (.bin .add (xt 8) (xi 1)),
 xo 8 (.mv (xt 18))] [0,1,7,8]
def c54_14 : XC := fun _ => .seq c54_12 c54_13
def c54_15 : XC := fun _ => .seq c54_4 c54_14
def c54_16 : XC := fun _ => .seq c54_3 c54_15
def c54_17 : XC := fun _ => .loop c54_16
def c54_18 : XC := fun _ => .block 0 c54_17
def c54_19 : XC := fun _ => .seq c54_2 c54_18
def c54_20 : XC := fun _ => .region [] [xo 4 (.mv (xi (-1)))] [4]
def c54_21 : XC := fun _ => .seq c54_20 (fun _ => .ret)
def c54_22 : XC := fun _ => .seq c54_19 c54_21
def c54_23 : XC := fun _ => .seq c54_1 c54_22
def m_slices_IndexFunc_implPlaceimplPlace : MCode := c54_23 ()
def h_slices_IndexFunc_implPlaceimplPlace : Hints := [(0, [0,1], [], [], []), (1, [0,1,7,8], [], [], []), (2, [0,1,7,8,9], [], [], []), (3, [0,1,5,7,8], [], [], []), (4, [0,1,5,7,8,16], [], [], []), (5, [4], [], [], []), (6, [0,1,7,8], [], [], []), (7, [4], [], [], [])]
def r_slices_IndexFunc_implPlaceimplPlace : List RV := [.t 4]
abbrev n_slices_IndexFunc_implPlaceimplPlace : Nat := 54
theorem k_slices_IndexFunc_implPlaceimplPlace : Known Pr mu n_slices_IndexFunc_implPlaceimplPlace m_slices_IndexFunc_implPlaceimplPlace r_slices_IndexFunc_implPlaceimplPlace Go.Proofs.Try.f54.ntmps := .of h_slices_IndexFunc_implPlaceimplPlace hm Go.Proofs.Try.func54
def c55_1 : XC := fun _ => .region [] [xo 4 (.mv (xi 0))] [0,1]
def c55_2 : XC := fun _ => .region [] [xo 6 (.mv (xt 0)),
 xo 7 (.len false (xt 6)),
 xo 8 (.mv (xi 0))] [0,1,7,8]
def c55_3 : XC := fun _ => .region [] [xo 9 (.bin .lss (xt 8) (xt 7))] [0,1,7,8,9]
def c55_4 : XC := fun _ => .cond (xt 9) (fun _ => .skip) (fun _ => .exit 0)
def c55_5 : XC := fun _ => .region [] [xo 10 (.mv (xt 8)),
 xo 5 (.mv (xt 10))] [0,1,5,7,8]
def c55_6 : XC := fun _ => .region [] [xo 11 (.mv (xt 1)),
 xo 12 (.mv (xt 0)),
 xo 13 (.mv (xt 5)),
 xo 14 (.ia (xt 12) (xt 13) 1),
 xo 15 (.ld (xt 14) 1 false),
 xo 16 (.callv (xt 11) [(xt 15)])] [0,1,5,7,8,16]
def c55_7 : XC := fun _ => .region [] [xo 17 (.mv (xt 5)),
 xo 4 (.mv (xt 17))] [4]
def c55_8 : XC := fun _ => .seq c55_7 (fun _ => .ret)
def c55_9 : XC := fun _ => .cond (xt 16) c55_8 (fun _ => .skip)
def c55_10 : XC := fun _ => .seq c55_6 c55_9
def c55_11 : XC := fun _ => .seq c55_5 c55_10
def c55_12 : XC := fun _ => .block 1 c55_11
def c55_13 : XC := fun _ => .region [] [xo 18 (.bin .add (xt 8) (xi 1)),
 xo 8 (.mv (xt 18))] [0,1,7,8]
def c55_14 : XC := fun _ => .seq c55_12 c55_13
def c55_15 : XC := fun _ => .seq c55_4 c55_14
def c55_16 : XC := fun _ => .seq c55_3 c55_15
def c55_17 : XC := fun _ => .loop c55_16
def c55_18 : XC := fun _ => .block 0 c55_17
def c55_19 : XC := fun _ => .seq c55_2 c55_18
def c55_20 : XC := fun _ => .region [] [xo 4 (.mv (xi (-1)))] [4]
def c55_21 : XC := fun _ => .seq c55_20 (fun _ => .ret)
def c55_22 : XC := fun _ => .seq c55_19 c55_21
def c55_23 : XC := fun _ => .seq c55_1 c55_22
def m_slices_IndexFunc_intint : MCode := c55_23 ()
def h_slices_IndexFunc_intint : Hints := [(0, [0,1], [], [], []), (1, [0,1,7,8], [], [], []), (2, [0,1,7,8,9], [], [], []), (3, [0,1,5,7,8], [], [], []), (4, [0,1,5,7,8,16], [], [], []), (5, [4], [], [], []), (6, [0,1,7,8], [], [], []), (7, [4], [], [], [])]
def r_slices_IndexFunc_intint : List RV := [.t 4]
abbrev n_slices_IndexFunc_intint : Nat := 55
theorem k_slices_IndexFunc_intint : Known Pr mu n_slices_IndexFunc_intint m_slices_IndexFunc_intint r_slices_IndexFunc_intint Go.Proofs.Try.f55.ntmps := .of h_slices_IndexFunc_intint hm Go.Proofs.Try.func55
def c56_1 : XC := fun _ => .region [] [xo 4 (.mv (.const (.slice none 0 0)))] [0,1]
def c56_2 : XC := fun _ => .region [] [xo 5 (.mv (xt 1)),
 xo 6 (.bin .lss (xt 5) (xi 0))] [0,1,6]
def c56_3 : XC := fun _ => .region [] [xo 7 (.no),
 xn (.no)] [0,1]
def c56_4 : XC := fun _ => .cond (xt 6) c56_3 (fun _ => .skip)
def c56_5 : XC := fun _ => .seq c56_2 c56_4
def c56_6 : XC := fun _ => .region [] [xo 8 (.mv (xt 1)),
 xo 9 (.mv (xt 0)),
 xo 10 (.cap (xt 9)),
 xo 11 (.mv (xt 0)),
 xo 12 (.len false (xt 11)),
 xo 13 (.bin .sub (xt 10) (xt 12)),
 xo 14 (.bin .sub (xt 8) (xt 13)),
 xo 1 (.mv (xt 14))] [0,1]
def c56_7 : XC := fun _ => .region [] [xo 15 (.mv (xt 1)),
 xo 16 (.bin .gtr (xt 15) (xi 0))] [0,1,16]
def c56_8 : XC := fun _ => .region [] [xo 17 (.mv (xt 0)),
 xo 18 (.mv (xt 0)),
 xo 19 (.cap (xt 18)),
 xo 20 (.slc false (xt 17) none (some (xt 19)) none 1),
 xo 21 (.mv (xt 1)),
 xo 22 (.appz (xt 20) (xt 21) 1 8 [.int .i64 0]),
 xo 23 (.mv (xt 0)),
 xo 24 (.len false (xt 23)),
 xo 25 (.slc false (xt 22) none (some (xt 24)) none 1),
 xo 0 (.mv (xt 25))] [0]
def c56_9 : XC := fun _ => .cond (xt 16) c56_8 (fun _ => .skip)
def c56_10 : XC := fun _ => .seq c56_7 c56_9
def c56_11 : XC := fun _ => .seq c56_6 c56_10
def c56_12 : XC := fun _ => .region [] [xo 26 (.mv (xt 0)),
 xo 4 (.mv (xt 26))] [4]
def c56_13 : XC := fun _ => .seq c56_12 (fun _ => .ret)
def c56_14 : XC := fun _ => .seq c56_11 c56_13
def c56_15 : XC := fun _ => .seq c56_5 c56_14
def c56_16 : XC := fun _ => .seq c56_1 c56_15
def m_slices_Grow_intint : MCode := c56_16 ()
def h_slices_Grow_intint : Hints := [(0, [0,1], [], [], []), (1, [0,1,6], [], [], []), (2, [0,1], [], [], []), (3, [0,1], [], [], []), (4, [0,1,16], [], [], []), (5, [0], [], [], []), (6, [4], [], [], [])]
def r_slices_Grow_intint : List RV := [.t 4]
abbrev n_slices_Grow_intint : Nat := 56
theorem k_slices_Grow_intint : Known Pr mu n_slices_Grow_intint m_slices_Grow_intint r_slices_Grow_intint Go.Proofs.Try.f56.ntmps := .of h_slices_Grow_intint hm Go.Proofs.Try.func56
def c57_1 : XC := fun _ => .region [] [xo 4 (.mv (xi 0))] [0,1]
def c57_2 : XC := fun _ => .region [] [xo 6 (.mv (xt 0)),
 xo 7 (.len false (xt 6)),
 xo 8 (.mv (xi 0))] [0,1,7,8]
def c57_3 : XC := fun _ => .region [] [xo 9 (.bin .lss (xt 8) (xt 7))] [0,1,7,8,9]
def c57_4 : XC := fun _ => .cond (xt 9) (fun _ => .skip) (fun _ => .exit 0)
def c57_5 : XC := fun _ => .region [] [xo 10 (.mv (xt 8)),
 xo 5 (.mv (xt 10))] [0,1,5,7,8]
def c57_6 : XC := fun _ => .region [] [xo 11 (.mv (xt 1)),
 xo 12 (.mv (xt 0)),
 xo 13 (.mv (xt 5)),
 xo 14 (.ia (xt 12) (xt 13) 1),
 xo 15 (.ld (xt 14) 1 false),
 xo 16 (.bin .eql (xt 11) (xt 15))] [0,1,5,7,8,16]
def c57_7 : XC := fun _ => .region [] [xo 17 (.mv (xt 5)),
 xo 4 (.mv (xt 17))] [4]
def c57_8 : XC := fun _ => .seq c57_7 (fun _ => .ret)
def c57_9 : XC := fun _ => .cond (xt 16) c57_8 (fun _ => .skip)
def c57_10 : XC := fun _ => .seq c57_6 c57_9
def c57_11 : XC := fun _ => .seq c57_5 c57_10
def c57_12 : XC := fun _ => .block 1 c57_11
def c57_13 : XC := fun _ => .region [] [xo 18 (.bin .add (xt 8) (xi 1)),
 xo 8 (.mv (xt 18))] [0,1,7,8]
def c57_14 : XC := fun _ => .seq c57_12 c57_13
def c57_15 : XC := fun _ => .seq c57_4 c57_14
def c57_16 : XC := fun _ => .seq c57_3 c57_15
def c57_17 : XC := fun _ => .loop c57_16
def c57_18 : XC := fun _ => .block 0 c57_17
def c57_19 : XC := fun _ => .seq c57_2 c57_18
def c57_20 : XC := fun _ => .region [] [xo 4 (.mv (xi (-1)))] [4]
def c57_21 : XC := fun _ => .seq c57_20 (fun _ => .ret)
def c57_22 : XC := fun _ => .seq c57_19 c57_21
def c57_23 : XC := fun _ => .seq c57_1 c57_22
def m_slices_Index_intint : MCode := c57_23 ()
def h_slices_Index_intint : Hints := [(0, [0,1], [], [], []), (1, [0,1,7,8], [], [], []), (2, [0,1,7,8,9], [], [], []), (3, [0,1,5,7,8], [], [], []), (4, [0,1,5,7,8,16], [], [], []), (5, [4], [], [], []), (6, [0,1,7,8], [], [], []), (7, [4], [], [], [])]
def r_slices_Index_intint : List RV := [.t 4]
abbrev n_slices_Index_intint : Nat := 57
theorem k_slices_Index_intint : Known Pr mu n_slices_Index_intint m_slices_Index_intint r_slices_Index_intint Go.Proofs.Try.f57.ntmps := .of h_slices_Index_intint hm Go.Proofs.Try.func57
def c58_1 : XC := fun _ => .region [] [xo 8 (.mv (xb true))] [0,1,2,3,8]
def c58_2 : XC := fun _ => .region [] [xo 9 (.mv (xb true))] [0,1,2,3,8,9]
def c58_3 : XC := fun _ => .region [] [xo 19 (.mv (xt 2)),
 xo 20 (.mv (xt 1)),
 xo 21 (.bin .sub (xt 19) (xt 20)),
 xo 10 (.mv (xt 21))] [0,1,2,3,8,9,10]
def c58_4 : XC := fun _ => .region [] [xo 22 (.mv (xt 10)),
 xo 23 (.bin .leq (xt 22) (xi 12))] [0,1,2,3,8,9,10,23]
def c58_5 : XC := fun _ => .region [] [xo 24 (.mv (xt 0)),
 xo 25 (.mv (xt 1)),
 xo 26 (.mv (xt 2)),
 xo 27 (.callm 60 [(xt 24), (xt 25), (xt 26)])] []
def c58_6 : XC := fun _ => .seq c58_5 (fun _ => .ret)
def c58_7 : XC := fun _ => .cond (xt 23) c58_6 (fun _ => .skip)
def c58_8 : XC := fun _ => .seq c58_4 c58_7
def c58_9 : XC := fun _ => .region [] [xo 28 (.mv (xt 3)),
 xo 29 (.bin .eql (xt 28) (xi 0))] [0,1,2,3,8,9,10,29]
def c58_10 : XC := fun _ => .region [] [xo 30 (.mv (xt 0)),
 xo 31 (.mv (xt 1)),
 xo 32 (.mv (xt 2)),
 xo 33 (.callm 61 [(xt 30), (xt 31), (xt 32)])] []
def c58_11 : XC := fun _ => .seq c58_10 (fun _ => .ret)
def c58_12 : XC := fun _ => .cond (xt 29) c58_11 (fun _ => .skip)
def c58_13 : XC := fun _ => .seq c58_9 c58_12
def c58_14 : XC := fun _ => .region [] [xo 34 (.mv (xt 8)),
 xo 35 (.not (xt 34))] [0,1,2,3,8,9,10,35]
def c58_15 : XC := fun _ => .region [] [xo 36 (.mv (xt 0)),
 xo 37 (.mv (xt 1)),
 xo 38 (.mv (xt 2)),
 xo 39 (.callm 62 [(xt 36), (xt 37), (xt 38)])] [0,1,2,3,8,9,10]
def c58_16 : XC := fun _ => .region [] [xo 40 (.mv (xt 3)),
 xo 41 (.bin .sub (xt 40) (xi 1)),
 xo 3 (.mv (xt 41))] [0,1,2,3,8,9,10]
def c58_17 : XC := fun _ => .seq c58_15 c58_16
def c58_18 : XC := fun _ => .cond (xt 35) c58_17 (fun _ => .skip)
def c58_19 : XC := fun _ => .seq c58_14 c58_18
def c58_20 : XC := fun _ => .region [] [xo 43 (.mv (xt 0)),
 xo 44 (.mv (xt 1)),
 xo 45 (.mv (xt 2)),
 xo 46 (.call 63 [(xt 43), (xt 44), (xt 45)]),
 xo 42 (.mv (xt 46)),
 xo 47 (.ext (xt 42) 0),
 xo 48 (.ext (xt 42) 1),
 xo 11 (.mv (xt 47)),
 xo 12 (.mv (xt 48))] [0,1,2,3,8,9,10,11,12]
def c58_21 : XC := fun _ => .region [] [xo 49 (.mv (xt 12)),
 xo 50 (.bin .eql (xt 49) (xi 2))] [0,1,2,3,8,9,10,11,12,50]
def c58_22 : XC := fun _ => .region [] [xo 51 (.mv (xt 0)),
 xo 52 (.mv (xt 1)),
 xo 53 (.mv (xt 2)),
 xo 54 (.callm 64 [(xt 51), (xt 52), (xt 53)])] [0,1,2,3,8,9,10,11]
def c58_23 : XC := fun _ => .region [] [xo 55 (.mv (xt 2)),
 xo 56 (.bin .sub (xt 55) (xi 1)),
 xo 57 (.mv (xt 11)),
 xo 58 (.mv (xt 1)),
 xo 59 (.bin .sub (xt 57) (xt 58)),
 xo 60 (.bin .sub (xt 56) (xt 59)),
 xo 11 (.mv (xt 60))] [0,1,2,3,8,9,10,11]
def c58_24 : XC := fun _ => .region [] [xo 12 (.mv (xi 1))] [0,1,2,3,8,9,10,11,12]
def c58_25 : XC := fun _ => .seq c58_23 c58_24
def c58_26 : XC := fun _ => .seq c58_22 c58_25
def c58_27 : XC := fun _ => .cond (xt 50) c58_26 (fun _ => .skip)
def c58_28 : XC := fun _ => .seq c58_21 c58_27
def c58_29 : XC := fun _ => .region [] [xo 61 (.mv (xt 8)),
 xo 62 (.mv (xt 61)),
 ⟨(some 63), .mv (xt 9), (some (62, true)), []⟩,
 xo 64 (.pick (xt 62) (xt 63) (xb false)),
 xo 65 (.mv (xt 64)),
 ⟨(some 66), .mv (xt 12), (some (65, true)), []⟩,
 ⟨(some 67), .bin .eql (xt 66) (xi 1), (some (65, true)), []⟩,
 xo 68 (.pick (xt 65) (xt 67) (xb false))] [0,1,2,3,8,9,10,11,68]
def c58_30 : XC := fun _ => .region [] [xo 69 (.mv (xt 0)),
 xo 70 (.mv (xt 1)),
 xo 71 (.mv (xt 2)),
 xo 72 (.callm 65 [(xt 69), (xt 70), (xt 71)])] [0,1,2,3,8,9,10,11,72]
def c58_31 : XC := fun _ => .cond (xt 72) (fun _ => .ret) (fun _ => .skip)
def c58_32 : XC := fun _ => .seq c58_30 c58_31
def c58_33 : XC := fun _ => .cond (xt 68) c58_32 (fun _ => .skip)
def c58_34 : XC := fun _ => .seq c58_29 c58_33
def c58_35 : XC := fun _ => .region [] [xo 73 (.mv (xt 1)),
 xo 74 (.bin .gtr (xt 73) (xi 0)),
 xo 75 (.mv (xt 74)),
 ⟨(some 76), .mv (xt 0), (some (75, true)), []⟩,
 ⟨(some 77), .mv (xt 1), (some (75, true)), []⟩,
 ⟨(some 78), .bin .sub (xt 77) (xi 1), (some (75, true)), []⟩,
 ⟨(some 79), .ia (xt 76) (xt 78) 1, (some (75, true)), []⟩,
 ⟨(some 80), .ld (xt 79) 1 false, (some (75, true)), []⟩,
 ⟨(some 81), .mv (xt 0), (some (75, true)), []⟩,
 ⟨(some 82), .mv (xt 11), (some (75, true)), []⟩,
 ⟨(some 83), .ia (xt 81) (xt 82) 1, (some (75, true)), [3, 4, 5, 6, 7]⟩,
 ⟨(some 84), .ld (xt 83) 1 false, (some (75, true)), [3, 4, 5, 6, 7]⟩,
 ⟨(some 85), .call 66 [(xt 80), (xt 84)], (some (75, true)), []⟩,
 ⟨(some 86), .not (xt 85), (some (75, true)), []⟩,
 xo 87 (.pick (xt 75) (xt 86) (xb false))] [0,1,2,3,8,9,10,11,87]
def c58_36 : XC := fun _ => .region [] [xo 88 (.mv (xt 0)),
 xo 89 (.mv (xt 1)),
 xo 90 (.mv (xt 2)),
 xo 91 (.mv (xt 11)),
 xo 92 (.callm 67 [(xt 88), (xt 89), (xt 90), (xt 91)]),
 xo 13 (.mv (xt 92))] [0,2,3,8,9,13]
def c58_37 : XC := fun _ => .region [] [xo 93 (.mv (xt 13)),
 xo 1 (.mv (xt 93))] [0,1,2,3,8,9]
def c58_38 : XC := fun _ => .seq c58_37 (fun _ => .exit 1)
def c58_39 : XC := fun _ => .seq c58_36 c58_38
def c58_40 : XC := fun _ => .cond (xt 87) c58_39 (fun _ => .skip)
def c58_41 : XC := fun _ => .seq c58_35 c58_40
def c58_42 : XC := fun _ => .region [] [xo 95 (.mv (xt 0)),
 xo 96 (.mv (xt 1)),
 xo 97 (.mv (xt 2)),
 xo 98 (.mv (xt 11)),
 xo 99 (.callm 68 [(xt 95), (xt 96), (xt 97), (xt 98)]),
 xo 94 (.mv (xt 99)),
 xo 100 (.ext (xt 94) 0),
 xo 101 (.ext (xt 94) 1),
 xo 14 (.mv (xt 100)),
 xo 15 (.mv (xt 101))] [0,1,2,3,10,14,15]
def c58_43 : XC := fun _ => .region [] [xo 102 (.mv (xt 15)),
 xo 9 (.mv (xt 102))] [0,1,2,3,9,10,14]
def c58_44 : XC := fun _ => .region [] [xo 103 (.mv (xt 14)),
 xo 104 (.mv (xt 1)),
 xo 105 (.bin .sub (xt 103) (xt 104)),
 xo 106 (.mv (xt 2)),
 xo 107 (.mv (xt 14)),
 xo 108 (.bin .sub (xt 106) (xt 107)),
 xo 16 (.mv (xt 105)),
 xo 17 (.mv (xt 108))] [0,1,2,3,9,10,14,16,17]
def c58_45 : XC := fun _ => .region [] [xo 109 (.mv (xt 10)),
 xo 110 (.bin .quo (xt 109) (xi 8)),
 xo 18 (.mv (xt 110))] [0,1,2,3,9,14,16,17,18]
def c58_46 : XC := fun _ => .region [] [xo 111 (.mv (xt 16)),
 xo 112 (.mv (xt 17)),
 xo 113 (.bin .lss (xt 111) (xt 112))] [0,1,2,3,9,14,16,17,18,113]
def c58_47 : XC := fun _ => .region [] [xo 114 (.mv (xt 16)),
 xo 115 (.mv (xt 18)),
 xo 116 (.bin .geq (xt 114) (xt 115)),
 xo 8 (.mv (xt 116))] [0,1,2,3,8,9,14]
def c58_48 : XC := fun _ => .region [] [xo 117 (.mv (xt 0)),
 xo 118 (.mv (xt 1)),
 xo 119 (.mv (xt 14)),
 xo 120 (.mv (xt 3)),
 xo 121 (.callm 58 [(xt 117), (xt 118), (xt 119), (xt 120)])] [0,2,3,8,9,14]
def c58_49 : XC := fun _ => .region [] [xo 122 (.mv (xt 14)),
 xo 123 (.bin .add (xt 122) (xi 1)),
 xo 1 (.mv (xt 123))] [0,1,2,3,8,9]
def c58_50 : XC := fun _ => .seq c58_48 c58_49
def c58_51 : XC := fun _ => .seq c58_47 c58_50
def c58_52 : XC := fun _ => .region [] [xo 124 (.mv (xt 17)),
 xo 125 (.mv (xt 18)),
 xo 126 (.bin .geq (xt 124) (xt 125)),
 xo 8 (.mv (xt 126))] [0,1,2,3,8,9,14]
def c58_53 : XC := fun _ => .region [] [xo 127 (.mv (xt 0)),
 xo 128 (.mv (xt 14)),
 xo 129 (.bin .add (xt 128) (xi 1)),
 xo 130 (.mv (xt 2)),
 xo 131 (.mv (xt 3)),
 xo 132 (.callm 58 [(xt 127), (xt 129), (xt 130), (xt 131)])] [0,1,3,8,9,14]
def c58_54 : XC := fun _ => .region [] [xo 133 (.mv (xt 14)),
 xo 2 (.mv (xt 133))] [0,1,2,3,8,9]
def c58_55 : XC := fun _ => .seq c58_53 c58_54
def c58_56 : XC := fun _ => .seq c58_52 c58_55
def c58_57 : XC := fun _ => .cond (xt 113) c58_51 c58_56
def c58_58 : XC := fun _ => .seq c58_46 c58_57
def c58_59 : XC := fun _ => .seq c58_45 c58_58
def c58_60 : XC := fun _ => .seq c58_44 c58_59
def c58_61 : XC := fun _ => .seq c58_43 c58_60
def c58_62 : XC := fun _ => .seq c58_42 c58_61
def c58_63 : XC := fun _ => .seq c58_41 c58_62
def c58_64 : XC := fun _ => .seq c58_34 c58_63
def c58_65 : XC := fun _ => .seq c58_28 c58_64
def c58_66 : XC := fun _ => .seq c58_20 c58_65
def c58_67 : XC := fun _ => .seq c58_19 c58_66
def c58_68 : XC := fun _ => .seq c58_13 c58_67
def c58_69 : XC := fun _ => .seq c58_8 c58_68
def c58_70 : XC := fun _ => .seq c58_3 c58_69
def c58_71 : XC := fun _ => .block 1 c58_70
def c58_72 : XC := fun _ => .loop c58_71
def c58_73 : XC := fun _ => .block 0 c58_72
def c58_74 : XC := fun _ => .seq c58_2 c58_73
def c58_75 : XC := fun _ => .seq c58_1 c58_74
def m_slices_pdqsortOrdered_int : MCode := c58_75 ()
def h_slices_pdqsortOrdered_int : Hints := [(0, [0,1,2,3,8], [], [], []), (1, [0,1,2,3,8,9], [], [], []), (2, [0,1,2,3,8,9,10], [], [], []), (3, [0,1,2,3,8,9,10,23], [], [], []), (4, [], [], [], []), (5, [0,1,2,3,8,9,10,29], [], [], []), (6, [], [], [], []), (7, [0,1,2,3,8,9,10,35], [], [], []), (8, [0,1,2,3,8,9,10], [], [], []), (9, [0,1,2,3,8,9,10], [], [], []), (10, [0,1,2,3,8,9,10,11,12], [], [], []), (11, [0,1,2,3,8,9,10,11,12,50], [], [], []), (12, [0,1,2,3,8,9,10,11], [], [], []), (13, [0,1,2,3,8,9,10,11], [], [], []), (14, [0,1,2,3,8,9,10,11,12], [], [], []), (15, [0,1,2,3,8,9,10,11,68], [], [], []), (16, [0,1,2,3,8,9,10,11,72], [], [], []), (17, [0,1,2,3,8,9,10,11,87], [[],[],[],[],[],[],[],[],[],[],[3,4,5,6,7],[3,4,5,6,7]], [], []), (18, [0,2,3,8,9,13], [], [], []), (19, [0,1,2,3,8,9], [], [], []), (20, [0,1,2,3,10,14,15], [], [], []), (21, [0,1,2,3,9,10,14], [], [], []), (22, [0,1,2,3,9,10,14,16,17], [], [], []), (23, [0,1,2,3,9,14,16,17,18], [], [], []), (24, [0,1,2,3,9,14,16,17,18,113], [], [], []), (25, [0,1,2,3,8,9,14], [], [], []), (26, [0,2,3,8,9,14], [], [], []), (27, [0,1,2,3,8,9], [], [], []), (28, [0,1,2,3,8,9,14], [], [], []), (29, [0,1,3,8,9,14], [], [], []), (30, [0,1,2,3,8,9], [], [], [])]
def r_slices_pdqsortOrdered_int : List RV := []
abbrev n_slices_pdqsortOrdered_int : Nat := 58
theorem k_slices_pdqsortOrdered_int : Known Pr mu n_slices_pdqsortOrdered_int m_slices_pdqsortOrdered_int r_slices_pdqsortOrdered_int Go.Proofs.Try.f58.ntmps := .of h_slices_pdqsortOrdered_int hm Go.Proofs.Try.func58
def c59_1 : XC := fun _ => .region [] [xo 2 (.mv (xi 0))] [0]
def c59_2 : XC := fun _ => .region [] [xo 3 (.mv (xt 0)),
 xo 4 (.conv .u32 (xt 3)),
 xo 5 (.call 69 [(xt 4)]),
 xo 2 (.mv (xt 5))] [2]
def c59_3 : XC := fun _ => .seq c59_2 (fun _ => .ret)
def c59_4 : XC := fun _ => .cond (xb false) c59_3 (fun _ => .skip)
def c59_5 : XC := fun _ => .region [] [xo 6 (.mv (xt 0)),
 xo 7 (.call 70 [(xt 6)]),
 xo 2 (.mv (xt 7))] [2]
def c59_6 : XC := fun _ => .seq c59_5 (fun _ => .ret)
def c59_7 : XC := fun _ => .seq c59_4 c59_6
def c59_8 : XC := fun _ => .seq c59_1 c59_7
def m_math_bits_Len : MCode := c59_8 ()
def h_math_bits_Len : Hints := [(0, [0], [], [], []), (1, [2], [], [], []), (2, [2], [], [], [])]
def r_math_bits_Len : List RV := [.t 2]
abbrev n_math_bits_Len : Nat := 59
theorem k_math_bits_Len : Known Pr mu n_math_bits_Len m_math_bits_Len r_math_bits_Len Go.Proofs.Try.f59.ntmps := .of h_math_bits_Len hm Go.Proofs.Try.func59
def c60_1 : XC := fun _ => .region [] [xo 8 (.mv (xt 1)),
 xo 9 (.bin .add (xt 8) (xi 1)),
 xo 6 (.mv (xt 9))] [0,1,2,6]
def c60_2 : XC := fun _ => .region [] [xo 10 (.mv (xt 6)),
 xo 11 (.mv (xt 2)),
 xo 12 (.bin .lss (xt 10) (xt 11))] [0,1,2,6,12]
def c60_3 : XC := fun _ => .cond (xt 12) (fun _ => .skip) (fun _ => .exit 0)
def c60_4 : XC := fun _ => .seq c60_2 c60_3
def c60_5 : XC := fun _ => .region [] [xo 15 (.mv (xt 6)),
 xo 7 (.mv (xt 15))] [0,1,2,6,7]
def c60_6 : XC := fun _ => .region [] [xo 16 (.mv (xt 7)),
 xo 17 (.mv (xt 1)),
 xo 18 (.bin .gtr (xt 16) (xt 17)),
 xo 19 (.mv (xt 18)),
 ⟨(some 20), .mv (xt 0), (some (19, true)), []⟩,
 ⟨(some 21), .mv (xt 7), (some (19, true)), []⟩,
 ⟨(some 22), .ia (xt 20) (xt 21) 1, (some (19, true)), []⟩,
 ⟨(some 23), .ld (xt 22) 1 false, (some (19, true)), []⟩,
 ⟨(some 24), .mv (xt 0), (some (19, true)), []⟩,
 ⟨(some 25), .mv (xt 7), (some (19, true)), []⟩,
 ⟨(some 26), .bin .sub (xt 25) (xi 1), (some (19, true)), []⟩,
 ⟨(some 27), .ia (xt 24) (xt 26) 1, (some (19, true)), [4, 5, 6, 7]⟩,
 ⟨(some 28), .ld (xt 27) 1 false, (some (19, true)), [4, 5, 6, 7]⟩,
 ⟨(some 29), .call 66 [(xt 23), (xt 28)], (some (19, true)), []⟩,
 xo 30 (.pick (xt 19) (xt 29) (xb false))] [0,1,2,6,7,30]
def c60_7 : XC := fun _ => .cond (xt 30) (fun _ => .skip) (fun _ => .exit 2)
def c60_8 : XC := fun _ => .seq c60_6 c60_7
def c60_9 : XC := fun _ => .region [] [xo 33 (.mv (xt 0)),
 xo 34 (.mv (xt 7)),
 xo 35 (.mv (xt 0)),
 xo 36 (.mv (xt 7)),
 xo 37 (.bin .sub (xt 36) (xi 1)),
 xo 38 (.mv (xt 0)),
 xo 39 (.mv (xt 7)),
 xo 40 (.bin .sub (xt 39) (xi 1)),
 ⟨(some 41), .ia (xt 38) (xt 40) 1, none, [0, 1, 2, 3, 4]⟩,
 ⟨(some 42), .ld (xt 41) 1 false, none, [0, 1, 2, 3, 4]⟩,
 xo 43 (.mv (xt 0)),
 xo 44 (.mv (xt 7)),
 ⟨(some 45), .ia (xt 43) (xt 44) 1, none, [0, 1, 2, 3, 4, 5, 6, 7, 8, 9]⟩,
 ⟨(some 46), .ld (xt 45) 1 false, none, [0, 1, 2, 3, 4, 5, 6, 7, 8, 9]⟩,
 ⟨(some 47), .ia (xt 33) (xt 34) 1, none, [2, 3, 4]⟩,
 xn (.sto (xt 47) (xt 42) 1),
 xo 48 (.ia (xt 35) (xt 37) 1),
 xn (.sto (xt 48) (xt 46) 1)] [0,1,2,6,7]
def c60_10 : XC := fun _ => .block 3 c60_9
def c60_11 : XC := fun _ => .region [] [xo 31 (.mv (xt 7)),
 xo 32 (.bin .sub (xt 31) (xi 1)),
 xo 7 (.mv (xt 32))] [0,1,2,6,7]
def c60_12 : XC := fun _ => .seq c60_10 c60_11
def c60_13 : XC := fun _ => .seq c60_8 c60_12
def c60_14 : XC := fun _ => .loop c60_13
def c60_15 : XC := fun _ => .block 2 c60_14
def c60_16 : XC := fun _ => .seq c60_5 c60_15
def c60_17 : XC := fun _ => .block 1 c60_16
def c60_18 : XC := fun _ => .region [] [xo 13 (.mv (xt 6)),
 xo 14 (.bin .add (xt 13) (xi 1)),
 xo 6 (.mv (xt 14))] [0,1,2,6]
def c60_19 : XC := fun _ => .seq c60_17 c60_18
def c60_20 : XC := fun _ => .seq c60_4 c60_19
def c60_21 : XC := fun _ => .loop c60_20
def c60_22 : XC := fun _ => .block 0 c60_21
def c60_23 : XC := fun _ => .seq c60_1 c60_22
def m_slices_insertionSortOrdered_int : MCode := c60_23 ()
def h_slices_insertionSortOrdered_int : Hints := [(0, [0,1,2,6], [], [], []), (1, [0,1,2,6,12], [], [], []), (3, [0,1,2,6,7], [], [], []), (4, [0,1,2,6,7,30], [[],[],[],[],[],[],[],[],[],[],[],[4,5,6,7],[4,5,6,7]], [], []), (6, [0,1,2,6,7], [[],[],[],[],[],[],[],[],[0,1,2,3,4],[0,1,2,3,4],[],[],[0,1,2,3,4,5,6,7,8,9],[0,1,2,3,4,5,6,7,8,9],[2,3,4]], [], [2,3,4]), (5, [0,1,2,6,7], [], [], []), (2, [0,1,2,6], [], [], [])]
def r_slices_insertionSortOrdered_int : List RV := []
abbrev n_slices_insertionSortOrdered_int : Nat := 60
theorem k_slices_insertionSortOrdered_int : Known Pr mu n_slices_insertionSortOrdered_int m_slices_insertionSortOrdered_int r_slices_insertionSortOrdered_int Go.Proofs.Try.f60.ntmps := .of h_slices_insertionSortOrdered_int hm Go.Proofs.Try.func60
def c66_1 : XC := fun _ => .region [] [xo 4 (.mv (xb false))] [0,1]
def c66_2 : XC := fun _ => .region [] [xo 5 (.mv (xt 0)),
 xo 6 (.call 76 [(xt 5)]),
 xo 7 (.mv (xt 6)),
 ⟨(some 8), .mv (xt 1), (some (7, true)), []⟩,
 ⟨(some 9), .call 76 [(xt 8)], (some (7, true)), []⟩,
 ⟨(some 10), .not (xt 9), (some (7, true)), []⟩,
 xo 11 (.pick (xt 7) (xt 10) (xb false)),
 xo 12 (.mv (xt 11)),
 ⟨(some 13), .mv (xt 0), (some (12, false)), []⟩,
 ⟨(some 14), .mv (xt 1), (some (12, false)), []⟩,
 ⟨(some 15), .bin .lss (xt 13) (xt 14), (some (12, false)), []⟩,
 xo 16 (.pick (xt 12) (xb true) (xt 15)),
 xo 4 (.mv (xt 16))] [4]
def c66_3 : XC := fun _ => .seq c66_2 (fun _ => .ret)
def c66_4 : XC := fun _ => .seq c66_1 c66_3
def m_cmp_Less_int : MCode := c66_4 ()
def h_cmp_Less_int : Hints := [(0, [0,1], [], [], []), (1, [4], [], [], [])]
def r_cmp_Less_int : List RV := [.t 4]
abbrev n_cmp_Less_int : Nat := 66
theorem k_cmp_Less_int : Known Pr mu n_cmp_Less_int m_cmp_Less_int r_cmp_Less_int Go.Proofs.Try.f66.ntmps := .of h_cmp_Less_int hm Go.Proofs.Try.func66
def c70_1 : XC := fun _ => .region [] [xo 2 (.mv (xi 0))] [0,2]
def c70_2 : XC := fun _ => .region [] [xo 3 (.mv (xt 0)),
 xo 4 (.bin .geq (xt 3) (.const (.int .u64 4294967296)))] [0,2,4]
def c70_3 : XC := fun _ => .region [] [xo 5 (.mv (xt 0)),
 xo 6 (.bit .shr (xt 5) (.const (.int .u64 32))),
 xo 0 (.mv (xt 6))] [0]
def c70_4 : XC := fun _ => .region [] [xo 2 (.mv (xi 32))] [0,2]
def c70_5 : XC := fun _ => .seq c70_3 c70_4
def c70_6 : XC := fun _ => .cond (xt 4) c70_5 (fun _ => .skip)
def c70_7 : XC := fun _ => .seq c70_2 c70_6
def c70_8 : XC := fun _ => .region [] [xo 7 (.mv (xt 0)),
 xo 8 (.bin .geq (xt 7) (.const (.int .u64 65536)))] [0,2,8]
def c70_9 : XC := fun _ => .region [] [xo 9 (.mv (xt 0)),
 xo 10 (.bit .shr (xt 9) (.const (.int .u64 16))),
 xo 0 (.mv (xt 10))] [0,2]
def c70_10 : XC := fun _ => .region [] [xo 11 (.mv (xt 2)),
 xo 12 (.bin .add (xt 11) (xi 16)),
 xo 2 (.mv (xt 12))] [0,2]
def c70_11 : XC := fun _ => .seq c70_9 c70_10
def c70_12 : XC := fun _ => .cond (xt 8) c70_11 (fun _ => .skip)
def c70_13 : XC := fun _ => .seq c70_8 c70_12
def c70_14 : XC := fun _ => .region [] [xo 13 (.mv (xt 0)),
 xo 14 (.bin .geq (xt 13) (.const (.int .u64 256)))] [0,2,14]
def c70_15 : XC := fun _ => .region [] [xo 15 (.mv (xt 0)),
 xo 16 (.bit .shr (xt 15) (.const (.int .u64 8))),
 xo 0 (.mv (xt 16))] [0,2]
def c70_16 : XC := fun _ => .region [] [xo 17 (.mv (xt 2)),
 xo 18 (.bin .add (xt 17) (xi 8)),
 xo 2 (.mv (xt 18))] [0,2]
def c70_17 : XC := fun _ => .seq c70_15 c70_16
def c70_18 : XC := fun _ => .cond (xt 14) c70_17 (fun _ => .skip)
def c70_19 : XC := fun _ => .seq c70_14 c70_18
def c70_20 : XC := fun _ => .region [] [xo 19 (.mv (xt 2)),
 xo 20 (.mv (xt 0)),
 xo 21 (.conv .u8 (xt 20)),
 xo 22 (.sidx (.const (.string ⟨#[0, 1, 2, 2, 3, 3, 3, 3, 4, 4, 4, 4, 4, 4, 4, 4, 5, 5, 5, 5, 5, 5, 5, 5, 5, 5, 5, 5, 5, 5, 5, 5, 6, 6, 6, 6, 6, 6, 6, 6, 6, 6, 6, 6, 6, 6, 6, 6, 6, 6, 6, 6, 6, 6, 6, 6, 6, 6, 6, 6, 6, 6, 6, 6, 7, 7, 7, 7, 7, 7, 7, 7, 7, 7, 7, 7, 7, 7, 7, 7, 7, 7, 7, 7, 7, 7, 7, 7, 7, 7, 7, 7, 7, 7, 7, 7, 7, 7, 7, 7, 7, 7, 7, 7, 7, 7, 7, 7, 7, 7, 7, 7, 7, 7, 7, 7, 7, 7, 7, 7, 7, 7, 7, 7, 7, 7, 7, 7, 8, 8, 8, 8, 8, 8, 8, 8, 8, 8, 8, 8, 8, 8, 8, 8, 8, 8, 8, 8, 8, 8, 8, 8, 8, 8, 8, 8, 8, 8, 8, 8, 8, 8, 8, 8, 8, 8, 8, 8, 8, 8, 8, 8, 8, 8, 8, 8, 8, 8, 8, 8, 8, 8, 8, 8, 8, 8, 8, 8, 8, 8, 8, 8, 8, 8, 8, 8, 8, 8, 8, 8, 8, 8, 8, 8, 8, 8, 8, 8, 8, 8, 8, 8, 8, 8, 8, 8, 8, 8, 8, 8, 8, 8, 8, 8, 8, 8, 8, 8, 8, 8, 8, 8, 8, 8, 8, 8, 8, 8, 8, 8, 8, 8, 8, 8, 8, 8, 8, 8, 8, 8, 8, 8, 8, 8, 8, 8]⟩)) (xt 21)),
 xo 23 (.conv .i64 (xt 22)),
 xo 24 (.bin .add (xt 19) (xt 23)),
 xo 2 (.mv (xt 24))] [2]
def c70_21 : XC := fun _ => .seq c70_20 (fun _ => .ret)
def c70_22 : XC := fun _ => .seq c70_19 c70_21
def c70_23 : XC := fun _ => .seq c70_13 c70_22
def c70_24 : XC := fun _ => .seq c70_7 c70_23
def c70_25 : XC := fun _ => .seq c70_1 c70_24
def m_math_bits_Len64 : MCode := c70_25 ()
def h_math_bits_Len64 : Hints := [(0, [0,2], [], [], []), (1, [0,2,4], [], [], []), (2, [0], [], [], []), (3, [0,2], [], [], []), (4, [0,2,8], [], [], []), (5, [0,2], [], [], []), (6, [0,2], [], [], []), (7, [0,2,14], [], [], []), (8, [0,2], [], [], []), (9, [0,2], [], [], []), (10, [2], [], [], [])]
def r_math_bits_Len64 : List RV := [.t 2]
abbrev n_math_bits_Len64 : Nat := 70
theorem k_math_bits_Len64 : Known Pr mu n_math_bits_Len64 m_math_bits_Len64 r_math_bits_Len64 Go.Proofs.Try.f70.ntmps := .of h_math_bits_Len64 hm Go.Proofs.Try.func70
def c76_1 : XC := fun _ => .region [] [xo 2 (.mv (xb false))] [0]
def c76_2 : XC := fun _ => .region [] [xo 3 (.mv (xt 0)),
 xo 4 (.mv (xt 0)),
 xo 5 (.bin .neq (xt 3) (xt 4)),
 xo 2 (.mv (xt 5))] [2]
def c76_3 : XC := fun _ => .seq c76_2 (fun _ => .ret)
def c76_4 : XC := fun _ => .seq c76_1 c76_3
def m_cmp_isNaN_int : MCode := c76_4 ()
def h_cmp_isNaN_int : Hints := [(0, [0], [], [], []), (1, [2], [], [], [])]
def r_cmp_isNaN_int : List RV := [.t 2]
abbrev n_cmp_isNaN_int : Nat := 76
theorem k_cmp_isNaN_int : Known Pr mu n_cmp_isNaN_int m_cmp_isNaN_int r_cmp_isNaN_int Go.Proofs.Try.f76.ntmps := .of h_cmp_isNaN_int hm Go.Proofs.Try.func76
end Go.V.T
