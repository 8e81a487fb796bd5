/- The short code of the functions that FnExactRunProposals reaches, held against the program. Conditions: none. -/
import Derived.Test.YtgdhfdkdbfeagabV6
import Derived.Test.YtgdhfdkdbfeagabProg
namespace Go.V.T
open Go Go.V
noncomputable abbrev Pr := Go.Proofs.Try.prog
def mu : Nat → Bool := fun n => Nat.beq n 11 || Nat.beq n 12 || Nat.beq n 13 || Nat.beq n 24 || Nat.beq n 67 || Nat.beq n 73 || Nat.beq n 74 || Nat.beq n 75 || Nat.beq n 77 || Nat.beq n 78 || Nat.beq n 79 || Nat.beq n 81 || Nat.beq n 82 || Nat.beq n 84 || Nat.beq n 85 || Nat.beq n 88
def muc : Nat → Bool := fun n => Nat.beq n 3000000 || mu n
abbrev XC := Unit → MCode
def xt (n : Nat) : Operand := .tmp n
def xi (n : Int) : Operand := .const (.int .i64 n)
def xb (b : Bool) : Operand := .const (.bool b)
def xo (d : Nat) (m : MOp) : MOper := ⟨some d, m, none, []⟩
def xn (m : MOp) : MOper := ⟨none, m, none, []⟩
theorem hm : Pr.follows .mixedOrders = true := by kernel_rfl
def c3_1 : XC := fun _ => .region [] [xo 2 (.mv (xb false))] [0]
def c3_2 : XC := fun _ => .region [] [xo 3 (.mv (xi 1048576))] [0,3]
def c3_3 : XC := fun _ => .region [] [xo 14 (.mv (xt 0)),
 xo 15 (.mv (xt 3)),
 xo 16 (.call 4 [(xt 14), (xt 15)]),
 xo 3 (.mv (xt 16))] [0,3]
def c3_4 : XC := fun _ => .region [] [xo 17 (.mv (xt 3)),
 xo 18 (.bin .lss (xt 17) (xi 0))] [0,18]
def c3_5 : XC := fun _ => .region [] [xo 2 (.mv (xb true))] [2]
def c3_6 : XC := fun _ => .seq c3_5 (fun _ => .ret)
def c3_7 : XC := fun _ => .cond (xt 18) c3_6 (fun _ => .skip)
def c3_8 : XC := fun _ => .seq c3_4 c3_7
def c3_9 : XC := fun _ => .region [] [xo 20 (.mv (xt 0)),
 xo 21 (.call 6 [(xt 20)]),
 xo 22 (.call 5 [(xt 21)]),
 xo 19 (.mv (xt 22)),
 xo 23 (.ext (xt 19) 0),
 xo 24 (.ext (xt 19) 1),
 xo 4 (.mv (xt 23)),
 xo 5 (.mv (xt 24))] [0,4,5]
def c3_10 : XC := fun _ => .region [] [xo 25 (.mv (xt 0)),
 xo 26 (.call 6 [(xt 25)]),
 xo 6 (.mv (xt 26))] [0,4,5,6]
def c3_11 : XC := fun _ => .region [] [xo 28 (.mv (xt 6)),
 xo 29 (.call 7 [(xt 28)]),
 xo 27 (.mv (xt 29)),
 xo 30 (.ext (xt 27) 0),
 xo 31 (.ext (xt 27) 1),
 xo 7 (.mv (xt 30)),
 xo 8 (.mv (xt 31))] [0,4,5,6,7,8]
def c3_12 : XC := fun _ => .region [] [xo 32 (.mv (xt 7)),
 xo 33 (.mv (xt 4)),
 xo 34 (.call 8 [(xt 32), (xt 33)]),
 xo 35 (.not (xt 34)),
 xo 36 (.mv (xt 35)),
 ⟨(some 37), .mv (xt 8), (some (36, false)), []⟩,
 ⟨(some 38), .mv (xt 5), (some (36, false)), []⟩,
 ⟨(some 39), .call 9 [(xt 37), (xt 38)], (some (36, false)), []⟩,
 ⟨(some 40), .not (xt 39), (some (36, false)), []⟩,
 xo 41 (.pick (xt 36) (xb true) (xt 40))] [0,4,5,6,7,8,41]
def c3_13 : XC := fun _ => .region [] [xo 2 (.mv (xb false))] [2]
def c3_14 : XC := fun _ => .seq c3_13 (fun _ => .ret)
def c3_15 : XC := fun _ => .cond (xt 41) c3_14 (fun _ => .skip)
def c3_16 : XC := fun _ => .seq c3_12 c3_15
def c3_17 : XC := fun _ => .region [] [xo 42 (.mv (xt 6)),
 xo 43 (.mv (xt 0)),
 xo 44 (.call 6 [(xt 43)]),
 xo 45 (.call 10 [(xt 42), (xt 44)]),
 xo 46 (.not (xt 45))] [0,4,5,6,7,8,46]
def c3_18 : XC := fun _ => .region [] [xo 2 (.mv (xb false))] [2]
def c3_19 : XC := fun _ => .seq c3_18 (fun _ => .ret)
def c3_20 : XC := fun _ => .cond (xt 46) c3_19 (fun _ => .skip)
def c3_21 : XC := fun _ => .seq c3_17 c3_20
def c3_22 : XC := fun _ => .region [] [xo 9 (.mv (xi 1))] [0,4,5,6,7,8,9]
def c3_23 : XC := fun _ => .region [] [xo 47 (.mv (xt 6)),
 xo 48 (.mv (xt 9)),
 xo 49 (.callm 11 [(xt 47), (xt 48)]),
 xo 9 (.mv (xt 49))] [0,4,5,7,8,9]
def c3_24 : XC := fun _ => .region [] [xo 50 (.mv (xt 9)),
 xo 51 (.bin .lss (xt 50) (xi 0)),
 xo 52 (.mv (xt 51)),
 ⟨(some 53), .mv (xt 7), (some (52, false)), []⟩,
 ⟨(some 54), .mv (xt 4), (some (52, false)), []⟩,
 ⟨(some 55), .call 8 [(xt 53), (xt 54)], (some (52, false)), []⟩,
 ⟨(some 56), .not (xt 55), (some (52, false)), []⟩,
 xo 57 (.pick (xt 52) (xb true) (xt 56)),
 xo 58 (.mv (xt 57)),
 ⟨(some 59), .mv (xt 8), (some (58, false)), []⟩,
 ⟨(some 60), .mv (xt 5), (some (58, false)), []⟩,
 ⟨(some 61), .call 9 [(xt 59), (xt 60)], (some (58, false)), []⟩,
 ⟨(some 62), .not (xt 61), (some (58, false)), []⟩,
 xo 63 (.pick (xt 58) (xb true) (xt 62))] [0,4,5,7,8,63]
def c3_25 : XC := fun _ => .region [] [xo 2 (.mv (xb false))] [2]
def c3_26 : XC := fun _ => .seq c3_25 (fun _ => .ret)
def c3_27 : XC := fun _ => .cond (xt 63) c3_26 (fun _ => .skip)
def c3_28 : XC := fun _ => .seq c3_24 c3_27
def c3_29 : XC := fun _ => .region [] [xo 10 (.mv (xi 1))] [0,4,5,7,8,10]
def c3_30 : XC := fun _ => .region [] [xo 64 (.mv (xt 7)),
 xo 65 (.mv (xt 10)),
 xo 66 (.callm 12 [(xt 64), (xt 65)]),
 xo 10 (.mv (xt 66))] [0,4,5,7,8,10]
def c3_31 : XC := fun _ => .region [] [xo 67 (.mv (xt 8)),
 xo 68 (.mv (xt 10)),
 xo 69 (.callm 13 [(xt 67), (xt 68)]),
 xo 10 (.mv (xt 69))] [0,4,5,7,8,10]
def c3_32 : XC := fun _ => .region [] [xo 11 (.mv (xi 1))] [0,4,5,7,8,10,11]
def c3_33 : XC := fun _ => .region [] [xo 70 (.mv (xt 7)),
 xo 71 (.mv (xt 11)),
 xo 72 (.call 14 [(xt 70), (xt 71)]),
 xo 11 (.mv (xt 72))] [0,4,5,7,8,10,11]
def c3_34 : XC := fun _ => .region [] [xo 73 (.mv (xt 11)),
 xo 74 (.bin .lss (xt 73) (xi 0))] [0,4,5,7,8,10,11,74]
def c3_35 : XC := fun _ => .region [] [xo 2 (.mv (xb false))] [2]
def c3_36 : XC := fun _ => .seq c3_35 (fun _ => .ret)
def c3_37 : XC := fun _ => .cond (xt 74) c3_36 (fun _ => .skip)
def c3_38 : XC := fun _ => .seq c3_34 c3_37
def c3_39 : XC := fun _ => .region [] [xo 75 (.mv (xt 8)),
 xo 76 (.mv (xt 11)),
 xo 77 (.call 15 [(xt 75), (xt 76)]),
 xo 11 (.mv (xt 77))] [0,4,5,7,8,10,11]
def c3_40 : XC := fun _ => .region [] [xo 78 (.mv (xt 11)),
 xo 79 (.bin .lss (xt 78) (xi 0))] [0,4,5,7,8,10,11,79]
def c3_41 : XC := fun _ => .region [] [xo 2 (.mv (xb false))] [2]
def c3_42 : XC := fun _ => .seq c3_41 (fun _ => .ret)
def c3_43 : XC := fun _ => .cond (xt 79) c3_42 (fun _ => .skip)
def c3_44 : XC := fun _ => .seq c3_40 c3_43
def c3_45 : XC := fun _ => .region [] [xo 80 (.mv (xt 11)),
 xo 81 (.mv (xt 10)),
 xo 82 (.bin .neq (xt 80) (xt 81))] [0,4,5,7,8,10,82]
def c3_46 : XC := fun _ => .region [] [xo 2 (.mv (xb false))] [2]
def c3_47 : XC := fun _ => .seq c3_46 (fun _ => .ret)
def c3_48 : XC := fun _ => .cond (xt 82) c3_47 (fun _ => .skip)
def c3_49 : XC := fun _ => .seq c3_45 c3_48
def c3_50 : XC := fun _ => .region [] [xo 84 (.mv (xt 0)),
 xo 85 (.call 6 [(xt 84)]),
 xo 86 (.call 7 [(xt 85)]),
 xo 83 (.mv (xt 86)),
 xo 87 (.ext (xt 83) 0),
 xo 88 (.ext (xt 83) 1),
 xo 12 (.mv (xt 87)),
 xo 13 (.mv (xt 88))] [4,5,7,8,10,12,13]
def c3_51 : XC := fun _ => .region [] [xo 89 (.mv (xt 12)),
 xo 90 (.mv (xt 4)),
 xo 91 (.call 8 [(xt 89), (xt 90)]),
 xo 92 (.not (xt 91)),
 xo 93 (.mv (xt 92)),
 ⟨(some 94), .mv (xt 13), (some (93, false)), []⟩,
 ⟨(some 95), .mv (xt 5), (some (93, false)), []⟩,
 ⟨(some 96), .call 9 [(xt 94), (xt 95)], (some (93, false)), []⟩,
 ⟨(some 97), .not (xt 96), (some (93, false)), []⟩,
 xo 98 (.pick (xt 93) (xb true) (xt 97))] [7,8,10,98]
def c3_52 : XC := fun _ => .region [] [xo 2 (.mv (xb false))] [2]
def c3_53 : XC := fun _ => .seq c3_52 (fun _ => .ret)
def c3_54 : XC := fun _ => .cond (xt 98) c3_53 (fun _ => .skip)
def c3_55 : XC := fun _ => .seq c3_51 c3_54
def c3_56 : XC := fun _ => .region [] [xo 11 (.mv (xi 1))] [7,8,10,11]
def c3_57 : XC := fun _ => .region [] [xo 99 (.mv (xt 7)),
 xo 100 (.mv (xt 11)),
 xo 101 (.call 14 [(xt 99), (xt 100)]),
 xo 11 (.mv (xt 101))] [8,10,11]
def c3_58 : XC := fun _ => .region [] [xo 102 (.mv (xt 11)),
 xo 103 (.bin .lss (xt 102) (xi 0))] [8,10,11,103]
def c3_59 : XC := fun _ => .region [] [xo 2 (.mv (xb false))] [2]
def c3_60 : XC := fun _ => .seq c3_59 (fun _ => .ret)
def c3_61 : XC := fun _ => .cond (xt 103) c3_60 (fun _ => .skip)
def c3_62 : XC := fun _ => .seq c3_58 c3_61
def c3_63 : XC := fun _ => .region [] [xo 104 (.mv (xt 8)),
 xo 105 (.mv (xt 11)),
 xo 106 (.call 15 [(xt 104), (xt 105)]),
 xo 11 (.mv (xt 106))] [10,11]
def c3_64 : XC := fun _ => .region [] [xo 107 (.mv (xt 11)),
 xo 108 (.bin .lss (xt 107) (xi 0))] [10,11,108]
def c3_65 : XC := fun _ => .region [] [xo 2 (.mv (xb false))] [2]
def c3_66 : XC := fun _ => .seq c3_65 (fun _ => .ret)
def c3_67 : XC := fun _ => .cond (xt 108) c3_66 (fun _ => .skip)
def c3_68 : XC := fun _ => .seq c3_64 c3_67
def c3_69 : XC := fun _ => .region [] [xo 109 (.mv (xt 11)),
 xo 110 (.mv (xt 10)),
 xo 111 (.bin .neq (xt 109) (xt 110))] [111]
def c3_70 : XC := fun _ => .region [] [xo 2 (.mv (xb false))] [2]
def c3_71 : XC := fun _ => .seq c3_70 (fun _ => .ret)
def c3_72 : XC := fun _ => .cond (xt 111) c3_71 (fun _ => .skip)
def c3_73 : XC := fun _ => .seq c3_69 c3_72
def c3_74 : XC := fun _ => .region [] [xo 2 (.mv (xb true))] [2]
def c3_75 : XC := fun _ => .seq c3_74 (fun _ => .ret)
def c3_76 : XC := fun _ => .seq c3_73 c3_75
def c3_77 : XC := fun _ => .seq c3_68 c3_76
def c3_78 : XC := fun _ => .seq c3_63 c3_77
def c3_79 : XC := fun _ => .seq c3_62 c3_78
def c3_80 : XC := fun _ => .seq c3_57 c3_79
def c3_81 : XC := fun _ => .seq c3_56 c3_80
def c3_82 : XC := fun _ => .seq c3_55 c3_81
def c3_83 : XC := fun _ => .seq c3_50 c3_82
def c3_84 : XC := fun _ => .seq c3_49 c3_83
def c3_85 : XC := fun _ => .seq c3_44 c3_84
def c3_86 : XC := fun _ => .seq c3_39 c3_85
def c3_87 : XC := fun _ => .seq c3_38 c3_86
def c3_88 : XC := fun _ => .seq c3_33 c3_87
def c3_89 : XC := fun _ => .seq c3_32 c3_88
def c3_90 : XC := fun _ => .seq c3_31 c3_89
def c3_91 : XC := fun _ => .seq c3_30 c3_90
def c3_92 : XC := fun _ => .seq c3_29 c3_91
def c3_93 : XC := fun _ => .seq c3_28 c3_92
def c3_94 : XC := fun _ => .seq c3_23 c3_93
def c3_95 : XC := fun _ => .seq c3_22 c3_94
def c3_96 : XC := fun _ => .seq c3_21 c3_95
def c3_97 : XC := fun _ => .seq c3_16 c3_96
def c3_98 : XC := fun _ => .seq c3_11 c3_97
def c3_99 : XC := fun _ => .seq c3_10 c3_98
def c3_100 : XC := fun _ => .seq c3_9 c3_99
def c3_101 : XC := fun _ => .seq c3_8 c3_100
def c3_102 : XC := fun _ => .seq c3_3 c3_101
def c3_103 : XC := fun _ => .seq c3_2 c3_102
def c3_104 : XC := fun _ => .seq c3_1 c3_103
def m_laws_FnExactRunProposals : MCode := c3_104 ()
def h_laws_FnExactRunProposals : Hints := [(0, [0], [], [], []), (1, [0,3], [], [], []), (2, [0,3], [], [], []), (3, [0,18], [], [], []), (4, [2], [], [], []), (5, [0,4,5], [], [], []), (6, [0,4,5,6], [], [], []), (7, [0,4,5,6,7,8], [], [], []), (8, [0,4,5,6,7,8,41], [], [], []), (9, [2], [], [], []), (10, [0,4,5,6,7,8,46], [], [], []), (11, [2], [], [], []), (12, [0,4,5,6,7,8,9], [], [], []), (13, [0,4,5,7,8,9], [], [], []), (14, [0,4,5,7,8,63], [], [], []), (15, [2], [], [], []), (16, [0,4,5,7,8,10], [], [], []), (17, [0,4,5,7,8,10], [], [], []), (18, [0,4,5,7,8,10], [], [], []), (19, [0,4,5,7,8,10,11], [], [], []), (20, [0,4,5,7,8,10,11], [], [], []), (21, [0,4,5,7,8,10,11,74], [], [], []), (22, [2], [], [], []), (23, [0,4,5,7,8,10,11], [], [], []), (24, [0,4,5,7,8,10,11,79], [], [], []), (25, [2], [], [], []), (26, [0,4,5,7,8,10,82], [], [], []), (27, [2], [], [], []), (28, [4,5,7,8,10,12,13], [], [], []), (29, [7,8,10,98], [], [], []), (30, [2], [], [], []), (31, [7,8,10,11], [], [], []), (32, [8,10,11], [], [], []), (33, [8,10,11,103], [], [], []), (34, [2], [], [], []), (35, [10,11], [], [], []), (36, [10,11,108], [], [], []), (37, [2], [], [], []), (38, [111], [], [], []), (39, [2], [], [], []), (40, [2], [], [], [])]
def r_laws_FnExactRunProposals : List RV := [.t 2]
abbrev n_laws_FnExactRunProposals : Nat := 3
theorem k_laws_FnExactRunProposals : Known Pr mu n_laws_FnExactRunProposals m_laws_FnExactRunProposals r_laws_FnExactRunProposals Go.Proofs.Try.f3.ntmps := .of h_laws_FnExactRunProposals hm Go.Proofs.Try.func3
def c4_1 : XC := fun _ => .region [] [xo 4 (.mv (xi 0))] [0,1]
def c4_2 : XC := fun _ => .region [] [xo 6 (.mv (xt 1)),
 xo 7 (.mv (xt 0)),
 xo 8 (.len false (xt 7)),
 xo 9 (.bin .sub (xt 6) (xt 8)),
 xo 1 (.mv (xt 9))] [0,1]
def c4_3 : XC := fun _ => .region [] [xo 10 (.mv (xt 1)),
 xo 11 (.bin .lss (xt 10) (xi 0))] [0,1,11]
def c4_4 : XC := fun _ => .region [] [xo 4 (.mv (xi (-1)))] [4]
def c4_5 : XC := fun _ => .seq c4_4 (fun _ => .ret)
def c4_6 : XC := fun _ => .cond (xt 11) c4_5 (fun _ => .skip)
def c4_7 : XC := fun _ => .seq c4_3 c4_6
def c4_8 : XC := fun _ => .region [] [xo 5 (.mv (xi 0))] [0,1,5]
def c4_9 : XC := fun _ => .region [] [xo 12 (.mv (xt 5)),
 xo 13 (.mv (xt 0)),
 xo 14 (.len false (xt 13)),
 xo 15 (.bin .lss (xt 12) (xt 14))] [0,1,5,15]
def c4_10 : XC := fun _ => .cond (xt 15) (fun _ => .skip) (fun _ => .exit 0)
def c4_11 : XC := fun _ => .seq c4_9 c4_10
def c4_12 : XC := fun _ => .region [] [xo 18 (.mv (xt 0)),
 xo 19 (.mv (xt 5)),
 xo 20 (.ia (xt 18) (xt 19) 7),
 xo 21 (.ld (xt 20) 7 true),
 xo 22 (.mv (xt 1)),
 xo 23 (.call 16 [(xt 21), (xt 22)]),
 xo 1 (.mv (xt 23))] [0,1,5]
def c4_13 : XC := fun _ => .region [] [xo 24 (.mv (xt 1)),
 xo 25 (.bin .lss (xt 24) (xi 0))] [0,1,5,25]
def c4_14 : XC := fun _ => .region [] [xo 4 (.mv (xi (-1)))] [4]
def c4_15 : XC := fun _ => .seq c4_14 (fun _ => .ret)
def c4_16 : XC := fun _ => .cond (xt 25) c4_15 (fun _ => .skip)
def c4_17 : XC := fun _ => .seq c4_13 c4_16
def c4_18 : XC := fun _ => .seq c4_12 c4_17
def c4_19 : XC := fun _ => .block 1 c4_18
def c4_20 : XC := fun _ => .region [] [xo 16 (.mv (xt 5)),
 xo 17 (.bin .add (xt 16) (xi 1)),
 xo 5 (.mv (xt 17))] [0,1,5]
def c4_21 : XC := fun _ => .seq c4_19 c4_20
def c4_22 : XC := fun _ => .seq c4_11 c4_21
def c4_23 : XC := fun _ => .loop c4_22
def c4_24 : XC := fun _ => .block 0 c4_23
def c4_25 : XC := fun _ => .seq c4_8 c4_24
def c4_26 : XC := fun _ => .region [] [xo 26 (.mv (xt 1)),
 xo 4 (.mv (xt 26))] [4]
def c4_27 : XC := fun _ => .seq c4_26 (fun _ => .ret)
def c4_28 : XC := fun _ => .seq c4_25 c4_27
def c4_29 : XC := fun _ => .seq c4_7 c4_28
def c4_30 : XC := fun _ => .seq c4_2 c4_29
def c4_31 : XC := fun _ => .seq c4_1 c4_30
def m_laws_szProposalS : MCode := c4_31 ()
def h_laws_szProposalS : Hints := [(0, [0,1], [], [], []), (1, [0,1], [], [], []), (2, [0,1,11], [], [], []), (3, [4], [], [], []), (4, [0,1,5], [], [], []), (5, [0,1,5,15], [], [], []), (7, [0,1,5], [], [], []), (8, [0,1,5,25], [], [], []), (9, [4], [], [], []), (6, [0,1,5], [], [], []), (10, [4], [], [], [])]
def r_laws_szProposalS : List RV := [.t 4]
abbrev n_laws_szProposalS : Nat := 4
theorem k_laws_szProposalS : Known Pr mu n_laws_szProposalS m_laws_szProposalS r_laws_szProposalS Go.Proofs.Try.f4.ntmps := .of h_laws_szProposalS hm Go.Proofs.Try.func4
def c5_1 : XC := fun _ => .region [] [xo 2 (.mv (.const (.slice none 0 0))),
 xo 3 (.mv (.const (.slice none 0 0)))] [0]
def c5_2 : XC := fun _ => .region [] [xo 10 (.call 17 []),
 xo 4 (.mv (xt 10))] [0,4]
def c5_3 : XC := fun _ => .region [] [xo 11 (.bsl 1 0 [.bool false] []),
 xo 5 (.mv (xt 11))] [0,4,5]
def c5_4 : XC := fun _ => .region [] [xo 6 (.mv (xi 0))] [0,4,5,6]
def c5_5 : XC := fun _ => .region [] [xo 12 (.mv (xt 6)),
 xo 13 (.mv (xt 0)),
 xo 14 (.len false (xt 13)),
 xo 15 (.bin .lss (xt 12) (xt 14)),
 xo 16 (.mv (xt 15)),
 ⟨(some 17), .mv (xt 6), (some (16, true)), []⟩,
 ⟨(some 18), .bin .lss (xt 17) (xi 20), (some (16, true)), []⟩,
 xo 19 (.pick (xt 16) (xt 18) (xb false))] [0,4,5,6,19]
def c5_6 : XC := fun _ => .cond (xt 19) (fun _ => .skip) (fun _ => .exit 0)
def c5_7 : XC := fun _ => .seq c5_5 c5_6
def c5_8 : XC := fun _ => .region [] [xo 23 (.mv (xt 4)),
 xo 24 (.mv (xt 0)),
 xo 25 (.mv (xt 6)),
 xo 26 (.ia (xt 24) (xt 25) 7),
 xo 27 (.ld (xt 26) 7 true),
 xo 28 (.call 18 [(xt 23), (xt 27)]),
 xo 22 (.mv (xt 28)),
 xo 29 (.ext (xt 22) 0),
 xo 30 (.ext (xt 22) 1),
 xo 31 (.ext (xt 22) 2),
 xo 8 (.alloc [.int .i64 0, .int .i64 0, .slice none 0 0, .slice none 0 0]),
 xo 7 (.mv (xt 29)),
 xn (.sto (xt 8) (xt 30) 4),
 xo 9 (.mv (xt 31))] [0,5,6,7,9]
def c5_9 : XC := fun _ => .region [] [xo 32 (.mv (xt 7)),
 xo 4 (.mv (xt 32))] [0,4,5,6,9]
def c5_10 : XC := fun _ => .region [] [xo 33 (.mv (xt 5)),
 xo 34 (.mv (xt 9)),
 xo 35 (.bsl 1 1 [.bool false] [(0, (xt 34))]),
 xo 36 (.app (xt 33) (xt 35) 1 1),
 xo 5 (.mv (xt 36))] [0,4,5,6]
def c5_11 : XC := fun _ => .seq c5_9 c5_10
def c5_12 : XC := fun _ => .seq c5_8 c5_11
def c5_13 : XC := fun _ => .block 1 c5_12
def c5_14 : XC := fun _ => .region [] [xo 20 (.mv (xt 6)),
 xo 21 (.bin .add (xt 20) (xi 1)),
 xo 6 (.mv (xt 21))] [0,4,5,6]
def c5_15 : XC := fun _ => .seq c5_13 c5_14
def c5_16 : XC := fun _ => .seq c5_7 c5_15
def c5_17 : XC := fun _ => .loop c5_16
def c5_18 : XC := fun _ => .block 0 c5_17
def c5_19 : XC := fun _ => .seq c5_4 c5_18
def c5_20 : XC := fun _ => .region [] [xo 37 (.mv (xt 4)),
 xo 38 (.mv (xt 5)),
 xo 2 (.mv (xt 37)),
 xo 3 (.mv (xt 38))] [2,3]
def c5_21 : XC := fun _ => .seq c5_20 (fun _ => .ret)
def c5_22 : XC := fun _ => .seq c5_19 c5_21
def c5_23 : XC := fun _ => .seq c5_3 c5_22
def c5_24 : XC := fun _ => .seq c5_2 c5_23
def c5_25 : XC := fun _ => .seq c5_1 c5_24
def m_spec_RunProposals : MCode := c5_25 ()
def h_spec_RunProposals : Hints := [(0, [0], [], [], []), (1, [0,4], [], [], []), (2, [0,4,5], [], [], []), (3, [0,4,5,6], [], [], []), (4, [0,4,5,6,19], [], [], []), (6, [0,5,6,7,9], [], [], []), (7, [0,4,5,6,9], [], [], []), (8, [0,4,5,6], [], [], []), (5, [0,4,5,6], [], [], []), (9, [2,3], [], [], [])]
def r_spec_RunProposals : List RV := [.t 2, .t 3]
abbrev n_spec_RunProposals : Nat := 5
theorem k_spec_RunProposals : Known Pr mu n_spec_RunProposals m_spec_RunProposals r_spec_RunProposals Go.Proofs.Try.f5.ntmps := .of h_spec_RunProposals hm Go.Proofs.Try.func5
def c6_1 : XC := fun _ => .region [] [xo 2 (.mv (.const (.slice none 0 0)))] [0]
def c6_2 : XC := fun _ => .region [] [xo 5 (.mv (xt 0)),
 xo 6 (.len false (xt 5)),
 xo 7 (.mks 7 120 [.int .i64 0, .slice none 0 0, .slice none 0 0, .int .i64 0, .int .i64 0, .slice none 0 0, .slice none 0 0] (xt 6) (xt 6)),
 xo 3 (.mv (xt 7))] [0,3]
def c6_3 : XC := fun _ => .region [] [xo 4 (.mv (xi 0))] [0,3,4]
def c6_4 : XC := fun _ => .region [] [xo 8 (.mv (xt 4)),
 xo 9 (.mv (xt 0)),
 xo 10 (.len false (xt 9)),
 xo 11 (.bin .lss (xt 8) (xt 10))] [0,3,4,11]
def c6_5 : XC := fun _ => .cond (xt 11) (fun _ => .skip) (fun _ => .exit 0)
def c6_6 : XC := fun _ => .seq c6_4 c6_5
def c6_7 : XC := fun _ => .region [] [xo 14 (.mv (xt 3)),
 xo 15 (.mv (xt 4)),
 xo 16 (.mv (xt 0)),
 xo 17 (.mv (xt 4)),
 xo 18 (.ia (xt 16) (xt 17) 7),
 xo 19 (.ld (xt 18) 7 true),
 xo 20 (.call 19 [(xt 19)]),
 xo 21 (.ia (xt 14) (xt 15) 7),
 xn (.sto (xt 21) (xt 20) 7)] [0,3,4]
def c6_8 : XC := fun _ => .block 1 c6_7
def c6_9 : XC := fun _ => .region [] [xo 12 (.mv (xt 4)),
 xo 13 (.bin .add (xt 12) (xi 1)),
 xo 4 (.mv (xt 13))] [0,3,4]
def c6_10 : XC := fun _ => .seq c6_8 c6_9
def c6_11 : XC := fun _ => .seq c6_6 c6_10
def c6_12 : XC := fun _ => .loop c6_11
def c6_13 : XC := fun _ => .block 0 c6_12
def c6_14 : XC := fun _ => .seq c6_3 c6_13
def c6_15 : XC := fun _ => .region [] [xo 22 (.mv (xt 3)),
 xo 2 (.mv (xt 22))] [2]
def c6_16 : XC := fun _ => .seq c6_15 (fun _ => .ret)
def c6_17 : XC := fun _ => .seq c6_14 c6_16
def c6_18 : XC := fun _ => .seq c6_2 c6_17
def c6_19 : XC := fun _ => .seq c6_1 c6_18
def m_laws_toProposalS : MCode := c6_19 ()
def h_laws_toProposalS : Hints := [(0, [0], [], [], []), (1, [0,3], [], [], []), (2, [0,3,4], [], [], []), (3, [0,3,4,11], [], [], []), (5, [0,3,4], [], [], []), (4, [0,3,4], [], [], []), (6, [2], [], [], [])]
def r_laws_toProposalS : List RV := [.t 2]
abbrev n_laws_toProposalS : Nat := 6
theorem k_laws_toProposalS : Known Pr mu n_laws_toProposalS m_laws_toProposalS r_laws_toProposalS Go.Proofs.Try.f6.ntmps := .of h_laws_toProposalS hm Go.Proofs.Try.func6
def c7_1 : XC := fun _ => .region [] [xo 2 (.mv (.const (.slice none 0 0))),
 xo 3 (.mv (.const (.slice none 0 0)))] [0]
def c7_2 : XC := fun _ => .region [] [xo 9 (.call 20 []),
 xo 10 (.bsl 1 0 [.bool false] []),
 xo 4 (.mv (xt 9)),
 xo 5 (.mv (xt 10))] [0,4,5]
def c7_3 : XC := fun _ => .region [] [xo 11 (.mv (xt 0)),
 xo 12 (.mv (xt 0)),
 xo 13 (.len false (xt 12)),
 xo 14 (.mx false (xt 13) (xi 20)),
 xo 15 (.slc false (xt 11) none (some (xt 14)) none 7),
 xo 16 (.len false (xt 15)),
 xo 17 (.mv (xi 0))] [4,5,15,16,17]
def c7_4 : XC := fun _ => .region [] [xo 18 (.bin .lss (xt 17) (xt 16))] [4,5,15,16,17,18]
def c7_5 : XC := fun _ => .cond (xt 18) (fun _ => .skip) (fun _ => .exit 0)
def c7_6 : XC := fun _ => .region [] [xo 19 (.ia (xt 15) (xt 17) 7),
 xo 20 (.ld (xt 19) 7 true),
 xo 7 (.alloc [.int .i64 0, .slice none 0 0, .slice none 0 0, .int .i64 0, .int .i64 0, .slice none 0 0, .slice none 0 0]),
 xn (.sto (xt 7) (xt 20) 7)] [4,5,7,15,16,17]
def c7_7 : XC := fun _ => .region [] [xo 8 (.mv (xb false))] [4,5,7,15,16,17]
def c7_8 : XC := fun _ => .region [] [xo 22 (.mv (xt 4)),
 xo 23 (.ld (xt 7) 7 true),
 xo 24 (.call 21 [(xt 22), (xt 23)]),
 xo 21 (.mv (xt 24)),
 xo 25 (.ext (xt 21) 0),
 xo 26 (.ext (xt 21) 1),
 xo 27 (.ext (xt 21) 2),
 xo 4 (.mv (xt 25)),
 xo 8 (.mv (xt 27))] [4,5,8,15,16,17]
def c7_9 : XC := fun _ => .region [] [xo 28 (.mv (xt 5)),
 xo 29 (.mv (xt 8)),
 xo 30 (.bsl 1 1 [.bool false] [(0, (xt 29))]),
 xo 31 (.app (xt 28) (xt 30) 1 1),
 xo 5 (.mv (xt 31))] [4,5,15,16,17]
def c7_10 : XC := fun _ => .seq c7_8 c7_9
def c7_11 : XC := fun _ => .seq c7_7 c7_10
def c7_12 : XC := fun _ => .seq c7_6 c7_11
def c7_13 : XC := fun _ => .block 1 c7_12
def c7_14 : XC := fun _ => .region [] [xo 32 (.bin .add (xt 17) (xi 1)),
 xo 17 (.mv (xt 32))] [4,5,15,16,17]
def c7_15 : XC := fun _ => .seq c7_13 c7_14
def c7_16 : XC := fun _ => .seq c7_5 c7_15
def c7_17 : XC := fun _ => .seq c7_4 c7_16
def c7_18 : XC := fun _ => .loop c7_17
def c7_19 : XC := fun _ => .block 0 c7_18
def c7_20 : XC := fun _ => .seq c7_3 c7_19
def c7_21 : XC := fun _ => .region [] [xo 33 (.mv (xt 4)),
 xo 34 (.mv (xt 5)),
 xo 2 (.mv (xt 33)),
 xo 3 (.mv (xt 34))] [2,3]
def c7_22 : XC := fun _ => .seq c7_21 (fun _ => .ret)
def c7_23 : XC := fun _ => .seq c7_20 c7_22
def c7_24 : XC := fun _ => .seq c7_2 c7_23
def c7_25 : XC := fun _ => .seq c7_1 c7_24
def m_impl_RunProposals : MCode := c7_25 ()
def h_impl_RunProposals : Hints := [(0, [0], [], [], []), (1, [0,4,5], [], [], []), (2, [4,5,15,16,17], [], [], []), (3, [4,5,15,16,17,18], [], [], []), (4, [4,5,7,15,16,17], [], [], []), (5, [4,5,7,15,16,17], [], [], []), (6, [4,5,8,15,16,17], [], [], []), (7, [4,5,15,16,17], [], [], []), (8, [4,5,15,16,17], [], [], []), (9, [2,3], [], [], [])]
def r_impl_RunProposals : List RV := [.t 2, .t 3]
abbrev n_impl_RunProposals : Nat := 7
theorem k_impl_RunProposals : Known Pr mu n_impl_RunProposals m_impl_RunProposals r_impl_RunProposals Go.Proofs.Try.f7.ntmps := .of h_impl_RunProposals hm Go.Proofs.Try.func7
def c8_1 : XC := fun _ => .region [] [xo 4 (.mv (xb false))] [0,1]
def c8_2 : XC := fun _ => .region [] [xo 6 (.mv (xt 0)),
 xo 7 (.len false (xt 6)),
 xo 8 (.mv (xt 1)),
 xo 9 (.len false (xt 8)),
 xo 10 (.bin .neq (xt 7) (xt 9))] [0,1,10]
def c8_3 : XC := fun _ => .region [] [xo 4 (.mv (xb false))] [4]
def c8_4 : XC := fun _ => .seq c8_3 (fun _ => .ret)
def c8_5 : XC := fun _ => .cond (xt 10) c8_4 (fun _ => .skip)
def c8_6 : XC := fun _ => .seq c8_2 c8_5
def c8_7 : XC := fun _ => .region [] [xo 5 (.mv (xi 0))] [0,1,5]
def c8_8 : XC := fun _ => .region [] [xo 11 (.mv (xt 5)),
 xo 12 (.mv (xt 0)),
 xo 13 (.len false (xt 12)),
 xo 14 (.bin .lss (xt 11) (xt 13))] [0,1,5,14]
def c8_9 : XC := fun _ => .cond (xt 14) (fun _ => .skip) (fun _ => .exit 0)
def c8_10 : XC := fun _ => .seq c8_8 c8_9
def c8_11 : XC := fun _ => .region [] [xo 17 (.mv (xt 0)),
 xo 18 (.mv (xt 5)),
 xo 19 (.ia (xt 17) (xt 18) 6),
 xo 20 (.ld (xt 19) 6 true),
 xo 21 (.mv (xt 1)),
 xo 22 (.mv (xt 5)),
 ⟨(some 23), .ia (xt 21) (xt 22) 6, none, [0, 1, 2, 3]⟩,
 ⟨(some 24), .ld (xt 23) 6 true, none, [0, 1, 2, 3]⟩,
 xo 25 (.call 22 [(xt 20), (xt 24)]),
 xo 26 (.not (xt 25))] [0,1,5,26]
def c8_12 : XC := fun _ => .region [] [xo 4 (.mv (xb false))] [4]
def c8_13 : XC := fun _ => .seq c8_12 (fun _ => .ret)
def c8_14 : XC := fun _ => .cond (xt 26) c8_13 (fun _ => .skip)
def c8_15 : XC := fun _ => .seq c8_11 c8_14
def c8_16 : XC := fun _ => .block 1 c8_15
def c8_17 : XC := fun _ => .region [] [xo 15 (.mv (xt 5)),
 xo 16 (.bin .add (xt 15) (xi 1)),
 xo 5 (.mv (xt 16))] [0,1,5]
def c8_18 : XC := fun _ => .seq c8_16 c8_17
def c8_19 : XC := fun _ => .seq c8_10 c8_18
def c8_20 : XC := fun _ => .loop c8_19
def c8_21 : XC := fun _ => .block 0 c8_20
def c8_22 : XC := fun _ => .seq c8_7 c8_21
def c8_23 : XC := fun _ => .region [] [xo 4 (.mv (xb true))] [4]
def c8_24 : XC := fun _ => .seq c8_23 (fun _ => .ret)
def c8_25 : XC := fun _ => .seq c8_22 c8_24
def c8_26 : XC := fun _ => .seq c8_6 c8_25
def c8_27 : XC := fun _ => .seq c8_1 c8_26
def m_laws_eqAcceptorS : MCode := c8_27 ()
def h_laws_eqAcceptorS : Hints := [(0, [0,1], [], [], []), (1, [0,1,10], [], [], []), (2, [4], [], [], []), (3, [0,1,5], [], [], []), (4, [0,1,5,14], [], [], []), (6, [0,1,5,26], [[],[],[],[],[],[],[0,1,2,3],[0,1,2,3]], [], []), (7, [4], [], [], []), (5, [0,1,5], [], [], []), (8, [4], [], [], [])]
def r_laws_eqAcceptorS : List RV := [.t 4]
abbrev n_laws_eqAcceptorS : Nat := 8
theorem k_laws_eqAcceptorS : Known Pr mu n_laws_eqAcceptorS m_laws_eqAcceptorS r_laws_eqAcceptorS Go.Proofs.Try.f8.ntmps := .of h_laws_eqAcceptorS hm Go.Proofs.Try.func8
def c9_1 : XC := fun _ => .region [] [xo 4 (.mv (xb false))] [0,1]
def c9_2 : XC := fun _ => .region [] [xo 6 (.mv (xt 0)),
 xo 7 (.len false (xt 6)),
 xo 8 (.mv (xt 1)),
 xo 9 (.len false (xt 8)),
 xo 10 (.bin .neq (xt 7) (xt 9))] [0,1,10]
def c9_3 : XC := fun _ => .region [] [xo 4 (.mv (xb false))] [4]
def c9_4 : XC := fun _ => .seq c9_3 (fun _ => .ret)
def c9_5 : XC := fun _ => .cond (xt 10) c9_4 (fun _ => .skip)
def c9_6 : XC := fun _ => .seq c9_2 c9_5
def c9_7 : XC := fun _ => .region [] [xo 5 (.mv (xi 0))] [0,1,5]
def c9_8 : XC := fun _ => .region [] [xo 11 (.mv (xt 5)),
 xo 12 (.mv (xt 0)),
 xo 13 (.len false (xt 12)),
 xo 14 (.bin .lss (xt 11) (xt 13))] [0,1,5,14]
def c9_9 : XC := fun _ => .cond (xt 14) (fun _ => .skip) (fun _ => .exit 0)
def c9_10 : XC := fun _ => .seq c9_8 c9_9
def c9_11 : XC := fun _ => .region [] [xo 17 (.mv (xt 0)),
 xo 18 (.mv (xt 5)),
 xo 19 (.ia (xt 17) (xt 18) 1),
 xo 20 (.ld (xt 19) 1 false),
 xo 21 (.mv (xt 1)),
 xo 22 (.mv (xt 5)),
 ⟨(some 23), .ia (xt 21) (xt 22) 1, none, [0, 1, 2, 3]⟩,
 ⟨(some 24), .ld (xt 23) 1 false, none, [0, 1, 2, 3]⟩,
 xo 25 (.bbin .neq (xt 20) (xt 24))] [0,1,5,25]
def c9_12 : XC := fun _ => .region [] [xo 4 (.mv (xb false))] [4]
def c9_13 : XC := fun _ => .seq c9_12 (fun _ => .ret)
def c9_14 : XC := fun _ => .cond (xt 25) c9_13 (fun _ => .skip)
def c9_15 : XC := fun _ => .seq c9_11 c9_14
def c9_16 : XC := fun _ => .block 1 c9_15
def c9_17 : XC := fun _ => .region [] [xo 15 (.mv (xt 5)),
 xo 16 (.bin .add (xt 15) (xi 1)),
 xo 5 (.mv (xt 16))] [0,1,5]
def c9_18 : XC := fun _ => .seq c9_16 c9_17
def c9_19 : XC := fun _ => .seq c9_10 c9_18
def c9_20 : XC := fun _ => .loop c9_19
def c9_21 : XC := fun _ => .block 0 c9_20
def c9_22 : XC := fun _ => .seq c9_7 c9_21
def c9_23 : XC := fun _ => .region [] [xo 4 (.mv (xb true))] [4]
def c9_24 : XC := fun _ => .seq c9_23 (fun _ => .ret)
def c9_25 : XC := fun _ => .seq c9_22 c9_24
def c9_26 : XC := fun _ => .seq c9_6 c9_25
def c9_27 : XC := fun _ => .seq c9_1 c9_26
def m_laws_eqBoolS : MCode := c9_27 ()
def h_laws_eqBoolS : Hints := [(0, [0,1], [], [], []), (1, [0,1,10], [], [], []), (2, [4], [], [], []), (3, [0,1,5], [], [], []), (4, [0,1,5,14], [], [], []), (6, [0,1,5,25], [[],[],[],[],[],[],[0,1,2,3],[0,1,2,3]], [], []), (7, [4], [], [], []), (5, [0,1,5], [], [], []), (8, [4], [], [], [])]
def r_laws_eqBoolS : List RV := [.t 4]
abbrev n_laws_eqBoolS : Nat := 9
theorem k_laws_eqBoolS : Known Pr mu n_laws_eqBoolS m_laws_eqBoolS r_laws_eqBoolS Go.Proofs.Try.f9.ntmps := .of h_laws_eqBoolS hm Go.Proofs.Try.func9
def c10_1 : XC := fun _ => .region [] [xo 4 (.mv (xb false))] [0,1]
def c10_2 : XC := fun _ => .region [] [xo 6 (.mv (xt 0)),
 xo 7 (.len false (xt 6)),
 xo 8 (.mv (xt 1)),
 xo 9 (.len false (xt 8)),
 xo 10 (.bin .neq (xt 7) (xt 9))] [0,1,10]
def c10_3 : XC := fun _ => .region [] [xo 4 (.mv (xb false))] [4]
def c10_4 : XC := fun _ => .seq c10_3 (fun _ => .ret)
def c10_5 : XC := fun _ => .cond (xt 10) c10_4 (fun _ => .skip)
def c10_6 : XC := fun _ => .seq c10_2 c10_5
def c10_7 : XC := fun _ => .region [] [xo 5 (.mv (xi 0))] [0,1,5]
def c10_8 : XC := fun _ => .region [] [xo 11 (.mv (xt 5)),
 xo 12 (.mv (xt 0)),
 xo 13 (.len false (xt 12)),
 xo 14 (.bin .lss (xt 11) (xt 13))] [0,1,5,14]
def c10_9 : XC := fun _ => .cond (xt 14) (fun _ => .skip) (fun _ => .exit 0)
def c10_10 : XC := fun _ => .seq c10_8 c10_9
def c10_11 : XC := fun _ => .region [] [xo 17 (.mv (xt 0)),
 xo 18 (.mv (xt 5)),
 xo 19 (.ia (xt 17) (xt 18) 7),
 xo 20 (.ld (xt 19) 7 true),
 xo 21 (.mv (xt 1)),
 xo 22 (.mv (xt 5)),
 ⟨(some 23), .ia (xt 21) (xt 22) 7, none, [0, 1, 2, 3]⟩,
 ⟨(some 24), .ld (xt 23) 7 true, none, [0, 1, 2, 3]⟩,
 xo 25 (.call 23 [(xt 20), (xt 24)]),
 xo 26 (.not (xt 25))] [0,1,5,26]
def c10_12 : XC := fun _ => .region [] [xo 4 (.mv (xb false))] [4]
def c10_13 : XC := fun _ => .seq c10_12 (fun _ => .ret)
def c10_14 : XC := fun _ => .cond (xt 26) c10_13 (fun _ => .skip)
def c10_15 : XC := fun _ => .seq c10_11 c10_14
def c10_16 : XC := fun _ => .block 1 c10_15
def c10_17 : XC := fun _ => .region [] [xo 15 (.mv (xt 5)),
 xo 16 (.bin .add (xt 15) (xi 1)),
 xo 5 (.mv (xt 16))] [0,1,5]
def c10_18 : XC := fun _ => .seq c10_16 c10_17
def c10_19 : XC := fun _ => .seq c10_10 c10_18
def c10_20 : XC := fun _ => .loop c10_19
def c10_21 : XC := fun _ => .block 0 c10_20
def c10_22 : XC := fun _ => .seq c10_7 c10_21
def c10_23 : XC := fun _ => .region [] [xo 4 (.mv (xb true))] [4]
def c10_24 : XC := fun _ => .seq c10_23 (fun _ => .ret)
def c10_25 : XC := fun _ => .seq c10_22 c10_24
def c10_26 : XC := fun _ => .seq c10_6 c10_25
def c10_27 : XC := fun _ => .seq c10_1 c10_26
def m_laws_eqProposalS : MCode := c10_27 ()
def h_laws_eqProposalS : Hints := [(0, [0,1], [], [], []), (1, [0,1,10], [], [], []), (2, [4], [], [], []), (3, [0,1,5], [], [], []), (4, [0,1,5,14], [], [], []), (6, [0,1,5,26], [[],[],[],[],[],[],[0,1,2,3],[0,1,2,3]], [], []), (7, [4], [], [], []), (5, [0,1,5], [], [], []), (8, [4], [], [], [])]
def r_laws_eqProposalS : List RV := [.t 4]
abbrev n_laws_eqProposalS : Nat := 10
theorem k_laws_eqProposalS : Known Pr mu n_laws_eqProposalS m_laws_eqProposalS r_laws_eqProposalS Go.Proofs.Try.f10.ntmps := .of h_laws_eqProposalS hm Go.Proofs.Try.func10
def c11_1 : XC := fun _ => .region [] [xo 4 (.mv (xi 0))] [0,1]
def c11_2 : XC := fun _ => .region [] [xo 5 (.mv (xi 0))] [0,1,5]
def c11_3 : XC := fun _ => .region [] [xo 6 (.mv (xt 5)),
 xo 7 (.mv (xt 0)),
 xo 8 (.len false (xt 7)),
 xo 9 (.bin .lss (xt 6) (xt 8))] [0,1,5,9]
def c11_4 : XC := fun _ => .cond (xt 9) (fun _ => .skip) (fun _ => .exit 0)
def c11_5 : XC := fun _ => .seq c11_3 c11_4
def c11_6 : XC := fun _ => .region [] [xo 12 (.mv (xt 0)),
 xo 13 (.mv (xt 5)),
 xo 14 (.mv (xt 1)),
 xo 15 (.ia (xt 12) (xt 13) 7),
 xo 16 (.fa (xt 15) 0),
 xn (.sto (xt 16) (xt 14) 1)] [0,1,5]
def c11_7 : XC := fun _ => .region [] [xo 17 (.mv (xt 1)),
 xo 18 (.bin .add (xt 17) (xi 1)),
 xo 1 (.mv (xt 18))] [0,1,5]
def c11_8 : XC := fun _ => .region [] [xo 19 (.mv (xt 0)),
 xo 20 (.mv (xt 5)),
 xo 21 (.ia (xt 19) (xt 20) 7),
 xo 22 (.fa (xt 21) 1),
 xo 23 (.ld (xt 22) 1 false),
 xo 24 (.mv (xt 1)),
 xo 25 (.callm 24 [(xt 23), (xt 24)]),
 xo 1 (.mv (xt 25))] [0,1,5]
def c11_9 : XC := fun _ => .region [] [xo 26 (.mv (xt 0)),
 xo 27 (.mv (xt 5)),
 xo 28 (.ia (xt 26) (xt 27) 7),
 xo 29 (.fa (xt 28) 2),
 xo 30 (.ld (xt 29) 1 false),
 xo 31 (.mv (xt 1)),
 xo 32 (.callm 24 [(xt 30), (xt 31)]),
 xo 1 (.mv (xt 32))] [0,1,5]
def c11_10 : XC := fun _ => .region [] [xo 33 (.mv (xt 0)),
 xo 34 (.mv (xt 5)),
 xo 35 (.mv (xt 1)),
 xo 36 (.ia (xt 33) (xt 34) 7),
 xo 37 (.fa (xt 36) 3),
 xo 38 (.fa (xt 37) 0),
 xn (.sto (xt 38) (xt 35) 1)] [0,1,5]
def c11_11 : XC := fun _ => .region [] [xo 39 (.mv (xt 1)),
 xo 40 (.bin .add (xt 39) (xi 1)),
 xo 1 (.mv (xt 40))] [0,1,5]
def c11_12 : XC := fun _ => .region [] [xo 41 (.mv (xt 0)),
 xo 42 (.mv (xt 5)),
 xo 43 (.mv (xt 1)),
 xo 44 (.ia (xt 41) (xt 42) 7),
 xo 45 (.fa (xt 44) 3),
 xo 46 (.fa (xt 45) 1),
 xn (.sto (xt 46) (xt 43) 1)] [0,1,5]
def c11_13 : XC := fun _ => .region [] [xo 47 (.mv (xt 1)),
 xo 48 (.bin .add (xt 47) (xi 1)),
 xo 1 (.mv (xt 48))] [0,1,5]
def c11_14 : XC := fun _ => .region [] [xo 49 (.mv (xt 0)),
 xo 50 (.mv (xt 5)),
 xo 51 (.ia (xt 49) (xt 50) 7),
 xo 52 (.fa (xt 51) 3),
 xo 53 (.fa (xt 52) 2),
 xo 54 (.ld (xt 53) 1 false),
 xo 55 (.mv (xt 1)),
 xo 56 (.callm 24 [(xt 54), (xt 55)]),
 xo 1 (.mv (xt 56))] [0,1,5]
def c11_15 : XC := fun _ => .region [] [xo 57 (.mv (xt 0)),
 xo 58 (.mv (xt 5)),
 xo 59 (.ia (xt 57) (xt 58) 7),
 xo 60 (.fa (xt 59) 3),
 xo 61 (.fa (xt 60) 3),
 xo 62 (.ld (xt 61) 1 false),
 xo 63 (.mv (xt 1)),
 xo 64 (.callm 24 [(xt 62), (xt 63)]),
 xo 1 (.mv (xt 64))] [0,1,5]
def c11_16 : XC := fun _ => .seq c11_14 c11_15
def c11_17 : XC := fun _ => .seq c11_13 c11_16
def c11_18 : XC := fun _ => .seq c11_12 c11_17
def c11_19 : XC := fun _ => .seq c11_11 c11_18
def c11_20 : XC := fun _ => .seq c11_10 c11_19
def c11_21 : XC := fun _ => .seq c11_9 c11_20
def c11_22 : XC := fun _ => .seq c11_8 c11_21
def c11_23 : XC := fun _ => .seq c11_7 c11_22
def c11_24 : XC := fun _ => .seq c11_6 c11_23
def c11_25 : XC := fun _ => .block 1 c11_24
def c11_26 : XC := fun _ => .region [] [xo 10 (.mv (xt 5)),
 xo 11 (.bin .add (xt 10) (xi 1)),
 xo 5 (.mv (xt 11))] [0,1,5]
def c11_27 : XC := fun _ => .seq c11_25 c11_26
def c11_28 : XC := fun _ => .seq c11_5 c11_27
def c11_29 : XC := fun _ => .loop c11_28
def c11_30 : XC := fun _ => .block 0 c11_29
def c11_31 : XC := fun _ => .seq c11_2 c11_30
def c11_32 : XC := fun _ => .region [] [xo 65 (.mv (xt 1)),
 xo 4 (.mv (xt 65))] [4]
def c11_33 : XC := fun _ => .seq c11_32 (fun _ => .ret)
def c11_34 : XC := fun _ => .seq c11_31 c11_33
def c11_35 : XC := fun _ => .seq c11_1 c11_34
def m_laws_markProposalS : MCode := c11_35 ()
def h_laws_markProposalS : Hints := [(0, [0,1], [], [], []), (1, [0,1,5], [], [], []), (2, [0,1,5,9], [], [], []), (4, [0,1,5], [], [], []), (5, [0,1,5], [], [], []), (6, [0,1,5], [], [], []), (7, [0,1,5], [], [], []), (8, [0,1,5], [], [], []), (9, [0,1,5], [], [], []), (10, [0,1,5], [], [], []), (11, [0,1,5], [], [], []), (12, [0,1,5], [], [], []), (13, [0,1,5], [], [], []), (3, [0,1,5], [], [], []), (14, [4], [], [], [])]
def r_laws_markProposalS : List RV := [.t 4]
abbrev n_laws_markProposalS : Nat := 11
theorem k_laws_markProposalS : Known Pr mu n_laws_markProposalS m_laws_markProposalS r_laws_markProposalS Go.Proofs.Try.f11.ntmps := .of h_laws_markProposalS hm Go.Proofs.Try.func11
def c12_1 : XC := fun _ => .region [] [xo 4 (.mv (xi 0))] [0,1]
def c12_2 : XC := fun _ => .region [] [xo 5 (.mv (xi 0))] [0,1,5]
def c12_3 : XC := fun _ => .region [] [xo 6 (.mv (xt 5)),
 xo 7 (.mv (xt 0)),
 xo 8 (.len false (xt 7)),
 xo 9 (.bin .lss (xt 6) (xt 8))] [0,1,5,9]
def c12_4 : XC := fun _ => .cond (xt 9) (fun _ => .skip) (fun _ => .exit 0)
def c12_5 : XC := fun _ => .seq c12_3 c12_4
def c12_6 : XC := fun _ => .region [] [xo 12 (.mv (xt 0)),
 xo 13 (.mv (xt 5)),
 xo 14 (.mv (xt 1)),
 xo 15 (.ia (xt 12) (xt 13) 6),
 xo 16 (.fa (xt 15) 0),
 xn (.sto (xt 16) (xt 14) 1)] [0,1,5]
def c12_7 : XC := fun _ => .region [] [xo 17 (.mv (xt 1)),
 xo 18 (.bin .add (xt 17) (xi 1)),
 xo 1 (.mv (xt 18))] [0,1,5]
def c12_8 : XC := fun _ => .region [] [xo 19 (.mv (xt 0)),
 xo 20 (.mv (xt 5)),
 xo 21 (.mv (xt 1)),
 xo 22 (.ia (xt 19) (xt 20) 6),
 xo 23 (.fa (xt 22) 1),
 xn (.sto (xt 23) (xt 21) 1)] [0,1,5]
def c12_9 : XC := fun _ => .region [] [xo 24 (.mv (xt 1)),
 xo 25 (.bin .add (xt 24) (xi 1)),
 xo 1 (.mv (xt 25))] [0,1,5]
def c12_10 : XC := fun _ => .region [] [xo 26 (.mv (xt 0)),
 xo 27 (.mv (xt 5)),
 xo 28 (.mv (xt 1)),
 xo 29 (.ia (xt 26) (xt 27) 6),
 xo 30 (.fa (xt 29) 2),
 xo 31 (.fa (xt 30) 0),
 xn (.sto (xt 31) (xt 28) 1)] [0,1,5]
def c12_11 : XC := fun _ => .region [] [xo 32 (.mv (xt 1)),
 xo 33 (.bin .add (xt 32) (xi 1)),
 xo 1 (.mv (xt 33))] [0,1,5]
def c12_12 : XC := fun _ => .region [] [xo 34 (.mv (xt 0)),
 xo 35 (.mv (xt 5)),
 xo 36 (.mv (xt 1)),
 xo 37 (.ia (xt 34) (xt 35) 6),
 xo 38 (.fa (xt 37) 2),
 xo 39 (.fa (xt 38) 1),
 xn (.sto (xt 39) (xt 36) 1)] [0,1,5]
def c12_13 : XC := fun _ => .region [] [xo 40 (.mv (xt 1)),
 xo 41 (.bin .add (xt 40) (xi 1)),
 xo 1 (.mv (xt 41))] [0,1,5]
def c12_14 : XC := fun _ => .region [] [xo 42 (.mv (xt 0)),
 xo 43 (.mv (xt 5)),
 xo 44 (.ia (xt 42) (xt 43) 6),
 xo 45 (.fa (xt 44) 2),
 xo 46 (.fa (xt 45) 2),
 xo 47 (.ld (xt 46) 1 false),
 xo 48 (.mv (xt 1)),
 xo 49 (.callm 24 [(xt 47), (xt 48)]),
 xo 1 (.mv (xt 49))] [0,1,5]
def c12_15 : XC := fun _ => .region [] [xo 50 (.mv (xt 0)),
 xo 51 (.mv (xt 5)),
 xo 52 (.ia (xt 50) (xt 51) 6),
 xo 53 (.fa (xt 52) 2),
 xo 54 (.fa (xt 53) 3),
 xo 55 (.ld (xt 54) 1 false),
 xo 56 (.mv (xt 1)),
 xo 57 (.callm 24 [(xt 55), (xt 56)]),
 xo 1 (.mv (xt 57))] [0,1,5]
def c12_16 : XC := fun _ => .seq c12_14 c12_15
def c12_17 : XC := fun _ => .seq c12_13 c12_16
def c12_18 : XC := fun _ => .seq c12_12 c12_17
def c12_19 : XC := fun _ => .seq c12_11 c12_18
def c12_20 : XC := fun _ => .seq c12_10 c12_19
def c12_21 : XC := fun _ => .seq c12_9 c12_20
def c12_22 : XC := fun _ => .seq c12_8 c12_21
def c12_23 : XC := fun _ => .seq c12_7 c12_22
def c12_24 : XC := fun _ => .seq c12_6 c12_23
def c12_25 : XC := fun _ => .block 1 c12_24
def c12_26 : XC := fun _ => .region [] [xo 10 (.mv (xt 5)),
 xo 11 (.bin .add (xt 10) (xi 1)),
 xo 5 (.mv (xt 11))] [0,1,5]
def c12_27 : XC := fun _ => .seq c12_25 c12_26
def c12_28 : XC := fun _ => .seq c12_5 c12_27
def c12_29 : XC := fun _ => .loop c12_28
def c12_30 : XC := fun _ => .block 0 c12_29
def c12_31 : XC := fun _ => .seq c12_2 c12_30
def c12_32 : XC := fun _ => .region [] [xo 58 (.mv (xt 1)),
 xo 4 (.mv (xt 58))] [4]
def c12_33 : XC := fun _ => .seq c12_32 (fun _ => .ret)
def c12_34 : XC := fun _ => .seq c12_31 c12_33
def c12_35 : XC := fun _ => .seq c12_1 c12_34
def m_laws_markAcceptorS : MCode := c12_35 ()
def h_laws_markAcceptorS : Hints := [(0, [0,1], [], [], []), (1, [0,1,5], [], [], []), (2, [0,1,5,9], [], [], []), (4, [0,1,5], [], [], []), (5, [0,1,5], [], [], []), (6, [0,1,5], [], [], []), (7, [0,1,5], [], [], []), (8, [0,1,5], [], [], []), (9, [0,1,5], [], [], []), (10, [0,1,5], [], [], []), (11, [0,1,5], [], [], []), (12, [0,1,5], [], [], []), (13, [0,1,5], [], [], []), (3, [0,1,5], [], [], []), (14, [4], [], [], [])]
def r_laws_markAcceptorS : List RV := [.t 4]
abbrev n_laws_markAcceptorS : Nat := 12
theorem k_laws_markAcceptorS : Known Pr mu n_laws_markAcceptorS m_laws_markAcceptorS r_laws_markAcceptorS Go.Proofs.Try.f12.ntmps := .of h_laws_markAcceptorS hm Go.Proofs.Try.func12
def c13_1 : XC := fun _ => .region [] [xo 4 (.mv (xi 0))] [0,1]
def c13_2 : XC := fun _ => .region [] [xo 5 (.mv (xi 0))] [0,1,5]
def c13_3 : XC := fun _ => .region [] [xo 6 (.mv (xt 5)),
 xo 7 (.mv (xt 0)),
 xo 8 (.len false (xt 7)),
 xo 9 (.bin .lss (xt 6) (xt 8))] [0,1,5,9]
def c13_4 : XC := fun _ => .cond (xt 9) (fun _ => .skip) (fun _ => .exit 0)
def c13_5 : XC := fun _ => .seq c13_3 c13_4
def c13_6 : XC := fun _ => .region [] [xo 12 (.mv (xt 0)),
 xo 13 (.mv (xt 5)),
 xo 14 (.mv (xt 1)),
 xo 15 (.bin .rem (xt 14) (xi 3)),
 xo 16 (.bin .eql (xt 15) (xi 0)),
 xo 17 (.ia (xt 12) (xt 13) 1),
 xn (.sto (xt 17) (xt 16) 1)] [0,1,5]
def c13_7 : XC := fun _ => .region [] [xo 18 (.mv (xt 1)),
 xo 19 (.bin .add (xt 18) (xi 1)),
 xo 1 (.mv (xt 19))] [0,1,5]
def c13_8 : XC := fun _ => .seq c13_6 c13_7
def c13_9 : XC := fun _ => .block 1 c13_8
def c13_10 : XC := fun _ => .region [] [xo 10 (.mv (xt 5)),
 xo 11 (.bin .add (xt 10) (xi 1)),
 xo 5 (.mv (xt 11))] [0,1,5]
def c13_11 : XC := fun _ => .seq c13_9 c13_10
def c13_12 : XC := fun _ => .seq c13_5 c13_11
def c13_13 : XC := fun _ => .loop c13_12
def c13_14 : XC := fun _ => .block 0 c13_13
def c13_15 : XC := fun _ => .seq c13_2 c13_14
def c13_16 : XC := fun _ => .region [] [xo 20 (.mv (xt 1)),
 xo 4 (.mv (xt 20))] [4]
def c13_17 : XC := fun _ => .seq c13_16 (fun _ => .ret)
def c13_18 : XC := fun _ => .seq c13_15 c13_17
def c13_19 : XC := fun _ => .seq c13_1 c13_18
def m_laws_markBoolS : MCode := c13_19 ()
def h_laws_markBoolS : Hints := [(0, [0,1], [], [], []), (1, [0,1,5], [], [], []), (2, [0,1,5,9], [], [], []), (4, [0,1,5], [], [], []), (5, [0,1,5], [], [], []), (3, [0,1,5], [], [], []), (6, [4], [], [], [])]
def r_laws_markBoolS : List RV := [.t 4]
abbrev n_laws_markBoolS : Nat := 13
theorem k_laws_markBoolS : Known Pr mu n_laws_markBoolS m_laws_markBoolS r_laws_markBoolS Go.Proofs.Try.f13.ntmps := .of h_laws_markBoolS hm Go.Proofs.Try.func13
def c14_1 : XC := fun _ => .region [] [xo 4 (.mv (xi 0))] [0,1]
def c14_2 : XC := fun _ => .region [] [xo 5 (.mv (xi 0))] [0,1,5]
def c14_3 : XC := fun _ => .region [] [xo 6 (.mv (xt 5)),
 xo 7 (.mv (xt 0)),
 xo 8 (.len false (xt 7)),
 xo 9 (.bin .lss (xt 6) (xt 8))] [0,1,5,9]
def c14_4 : XC := fun _ => .cond (xt 9) (fun _ => .skip) (fun _ => .exit 0)
def c14_5 : XC := fun _ => .seq c14_3 c14_4
def c14_6 : XC := fun _ => .region [] [xo 12 (.mv (xt 0)),
 xo 13 (.mv (xt 5)),
 xo 14 (.ia (xt 12) (xt 13) 6),
 xo 15 (.fa (xt 14) 0),
 xo 16 (.ld (xt 15) 1 false),
 xo 17 (.mv (xt 1)),
 xo 18 (.bin .neq (xt 16) (xt 17))] [0,1,5,18]
def c14_7 : XC := fun _ => .region [] [xo 4 (.mv (xi (-1)))] [4]
def c14_8 : XC := fun _ => .seq c14_7 (fun _ => .ret)
def c14_9 : XC := fun _ => .cond (xt 18) c14_8 (fun _ => .skip)
def c14_10 : XC := fun _ => .seq c14_6 c14_9
def c14_11 : XC := fun _ => .region [] [xo 19 (.mv (xt 1)),
 xo 20 (.bin .add (xt 19) (xi 1)),
 xo 1 (.mv (xt 20))] [0,1,5]
def c14_12 : XC := fun _ => .region [] [xo 21 (.mv (xt 0)),
 xo 22 (.mv (xt 5)),
 xo 23 (.ia (xt 21) (xt 22) 6),
 xo 24 (.fa (xt 23) 1),
 xo 25 (.ld (xt 24) 1 false),
 xo 26 (.mv (xt 1)),
 xo 27 (.bin .neq (xt 25) (xt 26))] [0,1,5,27]
def c14_13 : XC := fun _ => .region [] [xo 4 (.mv (xi (-1)))] [4]
def c14_14 : XC := fun _ => .seq c14_13 (fun _ => .ret)
def c14_15 : XC := fun _ => .cond (xt 27) c14_14 (fun _ => .skip)
def c14_16 : XC := fun _ => .seq c14_12 c14_15
def c14_17 : XC := fun _ => .region [] [xo 28 (.mv (xt 1)),
 xo 29 (.bin .add (xt 28) (xi 1)),
 xo 1 (.mv (xt 29))] [0,1,5]
def c14_18 : XC := fun _ => .region [] [xo 30 (.mv (xt 0)),
 xo 31 (.mv (xt 5)),
 xo 32 (.ia (xt 30) (xt 31) 6),
 xo 33 (.fa (xt 32) 2),
 xo 34 (.fa (xt 33) 0),
 xo 35 (.ld (xt 34) 1 false),
 xo 36 (.mv (xt 1)),
 xo 37 (.bin .neq (xt 35) (xt 36))] [0,1,5,37]
def c14_19 : XC := fun _ => .region [] [xo 4 (.mv (xi (-1)))] [4]
def c14_20 : XC := fun _ => .seq c14_19 (fun _ => .ret)
def c14_21 : XC := fun _ => .cond (xt 37) c14_20 (fun _ => .skip)
def c14_22 : XC := fun _ => .seq c14_18 c14_21
def c14_23 : XC := fun _ => .region [] [xo 38 (.mv (xt 1)),
 xo 39 (.bin .add (xt 38) (xi 1)),
 xo 1 (.mv (xt 39))] [0,1,5]
def c14_24 : XC := fun _ => .region [] [xo 40 (.mv (xt 0)),
 xo 41 (.mv (xt 5)),
 xo 42 (.ia (xt 40) (xt 41) 6),
 xo 43 (.fa (xt 42) 2),
 xo 44 (.fa (xt 43) 1),
 xo 45 (.ld (xt 44) 1 false),
 xo 46 (.mv (xt 1)),
 xo 47 (.bin .neq (xt 45) (xt 46))] [0,1,5,47]
def c14_25 : XC := fun _ => .region [] [xo 4 (.mv (xi (-1)))] [4]
def c14_26 : XC := fun _ => .seq c14_25 (fun _ => .ret)
def c14_27 : XC := fun _ => .cond (xt 47) c14_26 (fun _ => .skip)
def c14_28 : XC := fun _ => .seq c14_24 c14_27
def c14_29 : XC := fun _ => .region [] [xo 48 (.mv (xt 1)),
 xo 49 (.bin .add (xt 48) (xi 1)),
 xo 1 (.mv (xt 49))] [0,1,5]
def c14_30 : XC := fun _ => .region [] [xo 50 (.mv (xt 0)),
 xo 51 (.mv (xt 5)),
 xo 52 (.ia (xt 50) (xt 51) 6),
 xo 53 (.fa (xt 52) 2),
 xo 54 (.fa (xt 53) 2),
 xo 55 (.ld (xt 54) 1 false),
 xo 56 (.mv (xt 1)),
 xo 57 (.call 25 [(xt 55), (xt 56)]),
 xo 1 (.mv (xt 57))] [0,1,5]
def c14_31 : XC := fun _ => .region [] [xo 58 (.mv (xt 1)),
 xo 59 (.bin .lss (xt 58) (xi 0))] [0,1,5,59]
def c14_32 : XC := fun _ => .region [] [xo 4 (.mv (xi (-1)))] [4]
def c14_33 : XC := fun _ => .seq c14_32 (fun _ => .ret)
def c14_34 : XC := fun _ => .cond (xt 59) c14_33 (fun _ => .skip)
def c14_35 : XC := fun _ => .seq c14_31 c14_34
def c14_36 : XC := fun _ => .region [] [xo 60 (.mv (xt 0)),
 xo 61 (.mv (xt 5)),
 xo 62 (.ia (xt 60) (xt 61) 6),
 xo 63 (.fa (xt 62) 2),
 xo 64 (.fa (xt 63) 3),
 xo 65 (.ld (xt 64) 1 false),
 xo 66 (.mv (xt 1)),
 xo 67 (.call 25 [(xt 65), (xt 66)]),
 xo 1 (.mv (xt 67))] [0,1,5]
def c14_37 : XC := fun _ => .region [] [xo 68 (.mv (xt 1)),
 xo 69 (.bin .lss (xt 68) (xi 0))] [0,1,5,69]
def c14_38 : XC := fun _ => .region [] [xo 4 (.mv (xi (-1)))] [4]
def c14_39 : XC := fun _ => .seq c14_38 (fun _ => .ret)
def c14_40 : XC := fun _ => .cond (xt 69) c14_39 (fun _ => .skip)
def c14_41 : XC := fun _ => .seq c14_37 c14_40
def c14_42 : XC := fun _ => .seq c14_36 c14_41
def c14_43 : XC := fun _ => .seq c14_35 c14_42
def c14_44 : XC := fun _ => .seq c14_30 c14_43
def c14_45 : XC := fun _ => .seq c14_29 c14_44
def c14_46 : XC := fun _ => .seq c14_28 c14_45
def c14_47 : XC := fun _ => .seq c14_23 c14_46
def c14_48 : XC := fun _ => .seq c14_22 c14_47
def c14_49 : XC := fun _ => .seq c14_17 c14_48
def c14_50 : XC := fun _ => .seq c14_16 c14_49
def c14_51 : XC := fun _ => .seq c14_11 c14_50
def c14_52 : XC := fun _ => .seq c14_10 c14_51
def c14_53 : XC := fun _ => .block 1 c14_52
def c14_54 : XC := fun _ => .region [] [xo 10 (.mv (xt 5)),
 xo 11 (.bin .add (xt 10) (xi 1)),
 xo 5 (.mv (xt 11))] [0,1,5]
def c14_55 : XC := fun _ => .seq c14_53 c14_54
def c14_56 : XC := fun _ => .seq c14_5 c14_55
def c14_57 : XC := fun _ => .loop c14_56
def c14_58 : XC := fun _ => .block 0 c14_57
def c14_59 : XC := fun _ => .seq c14_2 c14_58
def c14_60 : XC := fun _ => .region [] [xo 70 (.mv (xt 1)),
 xo 4 (.mv (xt 70))] [4]
def c14_61 : XC := fun _ => .seq c14_60 (fun _ => .ret)
def c14_62 : XC := fun _ => .seq c14_59 c14_61
def c14_63 : XC := fun _ => .seq c14_1 c14_62
def m_laws_heldAcceptorS : MCode := c14_63 ()
def h_laws_heldAcceptorS : Hints := [(0, [0,1], [], [], []), (1, [0,1,5], [], [], []), (2, [0,1,5,9], [], [], []), (4, [0,1,5,18], [], [], []), (5, [4], [], [], []), (6, [0,1,5], [], [], []), (7, [0,1,5,27], [], [], []), (8, [4], [], [], []), (9, [0,1,5], [], [], []), (10, [0,1,5,37], [], [], []), (11, [4], [], [], []), (12, [0,1,5], [], [], []), (13, [0,1,5,47], [], [], []), (14, [4], [], [], []), (15, [0,1,5], [], [], []), (16, [0,1,5], [], [], []), (17, [0,1,5,59], [], [], []), (18, [4], [], [], []), (19, [0,1,5], [], [], []), (20, [0,1,5,69], [], [], []), (21, [4], [], [], []), (3, [0,1,5], [], [], []), (22, [4], [], [], [])]
def r_laws_heldAcceptorS : List RV := [.t 4]
abbrev n_laws_heldAcceptorS : Nat := 14
theorem k_laws_heldAcceptorS : Known Pr mu n_laws_heldAcceptorS m_laws_heldAcceptorS r_laws_heldAcceptorS Go.Proofs.Try.f14.ntmps := .of h_laws_heldAcceptorS hm Go.Proofs.Try.func14
def c15_1 : XC := fun _ => .region [] [xo 4 (.mv (xi 0))] [0,1]
def c15_2 : XC := fun _ => .region [] [xo 5 (.mv (xi 0))] [0,1,5]
def c15_3 : XC := fun _ => .region [] [xo 6 (.mv (xt 5)),
 xo 7 (.mv (xt 0)),
 xo 8 (.len false (xt 7)),
 xo 9 (.bin .lss (xt 6) (xt 8))] [0,1,5,9]
def c15_4 : XC := fun _ => .cond (xt 9) (fun _ => .skip) (fun _ => .exit 0)
def c15_5 : XC := fun _ => .seq c15_3 c15_4
def c15_6 : XC := fun _ => .region [] [xo 12 (.mv (xt 0)),
 xo 13 (.mv (xt 5)),
 xo 14 (.ia (xt 12) (xt 13) 1),
 xo 15 (.ld (xt 14) 1 false),
 xo 16 (.mv (xt 1)),
 xo 17 (.bin .rem (xt 16) (xi 3)),
 xo 18 (.bin .eql (xt 17) (xi 0)),
 xo 19 (.bbin .neq (xt 15) (xt 18))] [0,1,5,19]
def c15_7 : XC := fun _ => .region [] [xo 4 (.mv (xi (-1)))] [4]
def c15_8 : XC := fun _ => .seq c15_7 (fun _ => .ret)
def c15_9 : XC := fun _ => .cond (xt 19) c15_8 (fun _ => .skip)
def c15_10 : XC := fun _ => .seq c15_6 c15_9
def c15_11 : XC := fun _ => .region [] [xo 20 (.mv (xt 1)),
 xo 21 (.bin .add (xt 20) (xi 1)),
 xo 1 (.mv (xt 21))] [0,1,5]
def c15_12 : XC := fun _ => .seq c15_10 c15_11
def c15_13 : XC := fun _ => .block 1 c15_12
def c15_14 : XC := fun _ => .region [] [xo 10 (.mv (xt 5)),
 xo 11 (.bin .add (xt 10) (xi 1)),
 xo 5 (.mv (xt 11))] [0,1,5]
def c15_15 : XC := fun _ => .seq c15_13 c15_14
def c15_16 : XC := fun _ => .seq c15_5 c15_15
def c15_17 : XC := fun _ => .loop c15_16
def c15_18 : XC := fun _ => .block 0 c15_17
def c15_19 : XC := fun _ => .seq c15_2 c15_18
def c15_20 : XC := fun _ => .region [] [xo 22 (.mv (xt 1)),
 xo 4 (.mv (xt 22))] [4]
def c15_21 : XC := fun _ => .seq c15_20 (fun _ => .ret)
def c15_22 : XC := fun _ => .seq c15_19 c15_21
def c15_23 : XC := fun _ => .seq c15_1 c15_22
def m_laws_heldBoolS : MCode := c15_23 ()
def h_laws_heldBoolS : Hints := [(0, [0,1], [], [], []), (1, [0,1,5], [], [], []), (2, [0,1,5,9], [], [], []), (4, [0,1,5,19], [], [], []), (5, [4], [], [], []), (6, [0,1,5], [], [], []), (3, [0,1,5], [], [], []), (7, [4], [], [], [])]
def r_laws_heldBoolS : List RV := [.t 4]
abbrev n_laws_heldBoolS : Nat := 15
theorem k_laws_heldBoolS : Known Pr mu n_laws_heldBoolS m_laws_heldBoolS r_laws_heldBoolS Go.Proofs.Try.f15.ntmps := .of h_laws_heldBoolS hm Go.Proofs.Try.func15
def c16_1 : XC := fun _ => .region [] [xo 2 (.box (xt 0)),
 xo 4 (.mv (xi 0))] [1,2]
def c16_2 : XC := fun _ => .region [] [xo 5 (.fa (xt 2) 1),
 xo 6 (.ld (xt 5) 1 false),
 xo 7 (.mv (xt 1)),
 xo 8 (.call 26 [(xt 6), (xt 7)]),
 xo 1 (.mv (xt 8))] [1,2]
def c16_3 : XC := fun _ => .region [] [xo 9 (.mv (xt 1)),
 xo 10 (.bin .lss (xt 9) (xi 0))] [1,2,10]
def c16_4 : XC := fun _ => .region [] [xo 4 (.mv (xi (-1)))] [4]
def c16_5 : XC := fun _ => .seq c16_4 (fun _ => .ret)
def c16_6 : XC := fun _ => .cond (xt 10) c16_5 (fun _ => .skip)
def c16_7 : XC := fun _ => .seq c16_3 c16_6
def c16_8 : XC := fun _ => .region [] [xo 11 (.fa (xt 2) 2),
 xo 12 (.ld (xt 11) 1 false),
 xo 13 (.mv (xt 1)),
 xo 14 (.call 26 [(xt 12), (xt 13)]),
 xo 1 (.mv (xt 14))] [1,2]
def c16_9 : XC := fun _ => .region [] [xo 15 (.mv (xt 1)),
 xo 16 (.bin .lss (xt 15) (xi 0))] [1,2,16]
def c16_10 : XC := fun _ => .region [] [xo 4 (.mv (xi (-1)))] [4]
def c16_11 : XC := fun _ => .seq c16_10 (fun _ => .ret)
def c16_12 : XC := fun _ => .cond (xt 16) c16_11 (fun _ => .skip)
def c16_13 : XC := fun _ => .seq c16_9 c16_12
def c16_14 : XC := fun _ => .region [] [xo 17 (.fa (xt 2) 3),
 xo 18 (.ld (xt 17) 4 true),
 xo 19 (.mv (xt 1)),
 xo 20 (.call 27 [(xt 18), (xt 19)]),
 xo 1 (.mv (xt 20))] [1]
def c16_15 : XC := fun _ => .region [] [xo 21 (.mv (xt 1)),
 xo 22 (.bin .lss (xt 21) (xi 0))] [1,22]
def c16_16 : XC := fun _ => .region [] [xo 4 (.mv (xi (-1)))] [4]
def c16_17 : XC := fun _ => .seq c16_16 (fun _ => .ret)
def c16_18 : XC := fun _ => .cond (xt 22) c16_17 (fun _ => .skip)
def c16_19 : XC := fun _ => .seq c16_15 c16_18
def c16_20 : XC := fun _ => .region [] [xo 23 (.mv (xt 1)),
 xo 4 (.mv (xt 23))] [4]
def c16_21 : XC := fun _ => .seq c16_20 (fun _ => .ret)
def c16_22 : XC := fun _ => .seq c16_19 c16_21
def c16_23 : XC := fun _ => .seq c16_14 c16_22
def c16_24 : XC := fun _ => .seq c16_13 c16_23
def c16_25 : XC := fun _ => .seq c16_8 c16_24
def c16_26 : XC := fun _ => .seq c16_7 c16_25
def c16_27 : XC := fun _ => .seq c16_2 c16_26
def c16_28 : XC := fun _ => .seq c16_1 c16_27
def m_laws_szProposal : MCode := c16_28 ()
def h_laws_szProposal : Hints := [(0, [1,2], [], [], []), (1, [1,2], [], [], []), (2, [1,2,10], [], [], []), (3, [4], [], [], []), (4, [1,2], [], [], []), (5, [1,2,16], [], [], []), (6, [4], [], [], []), (7, [1], [], [], []), (8, [1,22], [], [], []), (9, [4], [], [], []), (10, [4], [], [], [])]
def r_laws_szProposal : List RV := [.t 4]
abbrev n_laws_szProposal : Nat := 16
theorem k_laws_szProposal : Known Pr mu n_laws_szProposal m_laws_szProposal r_laws_szProposal Go.Proofs.Try.f16.ntmps := .of h_laws_szProposal hm Go.Proofs.Try.func16
def c17_1 : XC := fun _ => .region [] [xo 0 (.mv (.const (.slice none 0 0)))] []
def c17_2 : XC := fun _ => .region [] [xo 1 (.mks 6 80 [.int .i64 0, .int .i64 0, .int .i64 0, .int .i64 0, .slice none 0 0, .slice none 0 0] (xi 3) (xi 3)),
 xo 0 (.mv (xt 1))] [0]
def c17_3 : XC := fun _ => .seq c17_2 (fun _ => .ret)
def c17_4 : XC := fun _ => .seq c17_1 c17_3
def m_spec_NewAcceptors : MCode := c17_4 ()
def h_spec_NewAcceptors : Hints := [(0, [], [], [], []), (1, [0], [], [], [])]
def r_spec_NewAcceptors : List RV := [.t 0]
abbrev n_spec_NewAcceptors : Nat := 17
theorem k_spec_NewAcceptors : Known Pr mu n_spec_NewAcceptors m_spec_NewAcceptors r_spec_NewAcceptors Go.Proofs.Try.f17.ntmps := .of h_spec_NewAcceptors hm Go.Proofs.Try.func17
def c18_1 : XC := fun _ => .region [] [xo 3 (.box (xt 1)),
 xo 4 (.mv (.const (.slice none 0 0))),
 xo 5 (.alloc [.int .i64 0, .int .i64 0, .slice none 0 0, .slice none 0 0]),
 xo 6 (.mv (xb false))] [0,3,5]
def c18_2 : XC := fun _ => .region [] [xo 18 (.mv (xt 0)),
 xo 19 (.call 28 [(xt 18)]),
 xo 7 (.mv (xt 19))] [0,3,5,7]
def c18_3 : XC := fun _ => .region [] [xo 20 (.mv (xt 0)),
 xo 21 (.call 29 [(xt 20)]),
 xo 22 (.not (xt 21)),
 xo 23 (.mv (xt 22)),
 ⟨(some 24), .fa (xt 3) 3, (some (23, false)), []⟩,
 ⟨(some 25), .ld (xt 24) 4 true, (some (23, false)), []⟩,
 ⟨(some 26), .call 30 [(xt 25)], (some (23, false)), []⟩,
 ⟨(some 27), .not (xt 26), (some (23, false)), []⟩,
 xo 28 (.pick (xt 23) (xb true) (xt 27)),
 xo 29 (.mv (xt 28)),
 ⟨(some 30), .fa (xt 3) 0, (some (29, false)), []⟩,
 ⟨(some 31), .ld (xt 30) 1 false, (some (29, false)), []⟩,
 ⟨(some 32), .call 31 [(xt 31), (xi 1), (xi 99)], (some (29, false)), []⟩,
 ⟨(some 33), .not (xt 32), (some (29, false)), []⟩,
 xo 34 (.pick (xt 29) (xb true) (xt 33))] [0,3,5,7,34]
def c18_4 : XC := fun _ => .region [] [xo 35 (.mv (xt 7)),
 xo 36 (.bld [.int .i64 0, .int .i64 0, .slice none 0 0, .slice none 0 0] []),
 xo 4 (.mv (xt 35)),
 xn (.stoc (xt 5) (xt 36) 4),
 xo 6 (.mv (xb false))] [4,5,6]
def c18_5 : XC := fun _ => .seq c18_4 (fun _ => .ret)
def c18_6 : XC := fun _ => .cond (xt 34) c18_5 (fun _ => .skip)
def c18_7 : XC := fun _ => .seq c18_3 c18_6
def c18_8 : XC := fun _ => .region [] [xo 8 (.mv (xi 0))] [0,3,5,7,8]
def c18_9 : XC := fun _ => .region [] [xo 9 (.mv (xi 0))] [0,3,5,7,8,9]
def c18_10 : XC := fun _ => .region [] [xo 37 (.fa (xt 3) 3),
 xo 38 (.ld (xt 37) 4 true),
 xo 39 (.call 32 [(xt 38)]),
 xo 10 (.alloc [.int .i64 0, .int .i64 0, .slice none 0 0, .slice none 0 0]),
 xn (.stoc (xt 10) (xt 39) 4)] [0,3,5,7,8,9,10]
def c18_11 : XC := fun _ => .region [] [xo 11 (.mv (xi 0))] [0,3,5,7,8,9,10,11]
def c18_12 : XC := fun _ => .region [] [xo 40 (.mv (xt 11)),
 xo 41 (.mv (xt 0)),
 xo 42 (.len false (xt 41)),
 xo 43 (.bin .lss (xt 40) (xt 42))] [0,3,5,7,8,9,10,11,43]
def c18_13 : XC := fun _ => .cond (xt 43) (fun _ => .skip) (fun _ => .exit 0)
def c18_14 : XC := fun _ => .seq c18_12 c18_13
def c18_15 : XC := fun _ => .region [] [xo 46 (.fa (xt 3) 1),
 xo 47 (.ld (xt 46) 1 false),
 xo 48 (.mv (xt 11)),
 xo 49 (.call 33 [(xt 47), (xt 48)]),
 xo 50 (.not (xt 49))] [0,3,5,7,8,9,10,11,50]
def c18_16 : XC := fun _ => .cond (xt 50) (fun _ => .exit 1) (fun _ => .skip)
def c18_17 : XC := fun _ => .seq c18_15 c18_16
def c18_18 : XC := fun _ => .region [] [xo 52 (.mv (xt 7)),
 xo 53 (.mv (xt 11)),
 xo 54 (.ia (xt 52) (xt 53) 6),
 ⟨(some 55), .ldc (xt 54) 6 true, none, [2000000]⟩,
 ⟨(some 56), .fa (xt 3) 0, none, [0, 1, 2, 3]⟩,
 ⟨(some 57), .ld (xt 56) 1 false, none, [0, 1, 2, 3]⟩,
 xo 58 (.call 34 [(xt 55), (xt 57)]),
 xo 51 (.mv (xt 58)),
 xo 59 (.ext (xt 51) 0),
 xo 60 (.ext (xt 51) 1),
 xo 12 (.alloc [.int .i64 0, .int .i64 0, .int .i64 0, .int .i64 0, .slice none 0 0, .slice none 0 0]),
 xn (.stoc (xt 12) (xt 59) 6),
 xo 13 (.mv (xt 60))] [0,3,5,7,8,9,10,11,12,13]
def c18_19 : XC := fun _ => .region [] [xo 61 (.mv (xt 7)),
 xo 62 (.mv (xt 11)),
 xo 63 (.ld (xt 12) 6 true),
 xo 64 (.ia (xt 61) (xt 62) 6),
 xn (.stoc (xt 64) (xt 63) 6)] [0,3,5,7,8,9,10,11,12,13]
def c18_20 : XC := fun _ => .region [] [xo 65 (.mv (xt 13)),
 xo 66 (.not (xt 65))] [0,3,5,7,8,9,10,11,12,66]
def c18_21 : XC := fun _ => .cond (xt 66) (fun _ => .exit 1) (fun _ => .skip)
def c18_22 : XC := fun _ => .seq c18_20 c18_21
def c18_23 : XC := fun _ => .region [] [xo 67 (.mv (xt 8)),
 xo 68 (.bin .add (xt 67) (xi 1)),
 xo 8 (.mv (xt 68))] [0,3,5,7,8,9,10,11,12]
def c18_24 : XC := fun _ => .region [] [xo 69 (.fa (xt 12) 1),
 xo 70 (.ld (xt 69) 1 false),
 xo 71 (.mv (xt 9)),
 xo 72 (.bin .gtr (xt 70) (xt 71))] [0,3,5,7,8,9,10,11,12,72]
def c18_25 : XC := fun _ => .region [] [xo 73 (.fa (xt 12) 1),
 xo 74 (.ld (xt 73) 1 false),
 xo 9 (.mv (xt 74))] [0,3,5,7,8,9,10,11,12]
def c18_26 : XC := fun _ => .region [] [xo 75 (.fa (xt 12) 2),
 xo 76 (.ld (xt 75) 4 true),
 xo 77 (.call 32 [(xt 76)]),
 xn (.stoc (xt 10) (xt 77) 4)] [0,3,5,7,8,9,10,11]
def c18_27 : XC := fun _ => .seq c18_25 c18_26
def c18_28 : XC := fun _ => .cond (xt 72) c18_27 (fun _ => .skip)
def c18_29 : XC := fun _ => .seq c18_24 c18_28
def c18_30 : XC := fun _ => .seq c18_23 c18_29
def c18_31 : XC := fun _ => .seq c18_22 c18_30
def c18_32 : XC := fun _ => .seq c18_19 c18_31
def c18_33 : XC := fun _ => .seq c18_18 c18_32
def c18_34 : XC := fun _ => .seq c18_17 c18_33
def c18_35 : XC := fun _ => .block 1 c18_34
def c18_36 : XC := fun _ => .region [] [xo 44 (.mv (xt 11)),
 xo 45 (.bin .add (xt 44) (xi 1)),
 xo 11 (.mv (xt 45))] [0,3,5,7,8,9,10,11]
def c18_37 : XC := fun _ => .seq c18_35 c18_36
def c18_38 : XC := fun _ => .seq c18_14 c18_37
def c18_39 : XC := fun _ => .loop c18_38
def c18_40 : XC := fun _ => .block 0 c18_39
def c18_41 : XC := fun _ => .seq c18_11 c18_40
def c18_42 : XC := fun _ => .region [] [xo 78 (.mv (xt 8)),
 xo 79 (.bin .mul (xi 2) (xt 78)),
 xo 80 (.bin .leq (xt 79) (xi 3))] [0,3,5,7,10,80]
def c18_43 : XC := fun _ => .region [] [xo 81 (.mv (xt 7)),
 xo 82 (.bld [.int .i64 0, .int .i64 0, .slice none 0 0, .slice none 0 0] []),
 xo 4 (.mv (xt 81)),
 xn (.stoc (xt 5) (xt 82) 4),
 xo 6 (.mv (xb false))] [4,5,6]
def c18_44 : XC := fun _ => .seq c18_43 (fun _ => .ret)
def c18_45 : XC := fun _ => .cond (xt 80) c18_44 (fun _ => .skip)
def c18_46 : XC := fun _ => .seq c18_42 c18_45
def c18_47 : XC := fun _ => .region [] [xo 14 (.mv (xi 0))] [0,3,5,7,10,14]
def c18_48 : XC := fun _ => .region [] [xo 15 (.mv (xi 0))] [0,3,5,7,10,14,15]
def c18_49 : XC := fun _ => .region [] [xo 83 (.mv (xt 15)),
 xo 84 (.mv (xt 0)),
 xo 85 (.len false (xt 84)),
 xo 86 (.bin .lss (xt 83) (xt 85))] [0,3,5,7,10,14,15,86]
def c18_50 : XC := fun _ => .cond (xt 86) (fun _ => .skip) (fun _ => .exit 2)
def c18_51 : XC := fun _ => .seq c18_49 c18_50
def c18_52 : XC := fun _ => .region [] [xo 89 (.fa (xt 3) 2),
 xo 90 (.ld (xt 89) 1 false),
 xo 91 (.mv (xt 15)),
 xo 92 (.call 33 [(xt 90), (xt 91)]),
 xo 93 (.not (xt 92))] [0,3,5,7,10,14,15,93]
def c18_53 : XC := fun _ => .cond (xt 93) (fun _ => .exit 3) (fun _ => .skip)
def c18_54 : XC := fun _ => .seq c18_52 c18_53
def c18_55 : XC := fun _ => .region [] [xo 95 (.mv (xt 7)),
 xo 96 (.mv (xt 15)),
 xo 97 (.ia (xt 95) (xt 96) 6),
 ⟨(some 98), .ldc (xt 97) 6 true, none, [2000000]⟩,
 ⟨(some 99), .fa (xt 3) 0, none, [0, 1, 2, 3]⟩,
 ⟨(some 100), .ld (xt 99) 1 false, none, [0, 1, 2, 3]⟩,
 ⟨(some 101), .ld (xt 10) 4 true, none, [0, 1, 2, 3, 4, 5]⟩,
 xo 102 (.call 35 [(xt 98), (xt 100), (xt 101)]),
 xo 94 (.mv (xt 102)),
 xo 103 (.ext (xt 94) 0),
 xo 104 (.ext (xt 94) 1),
 xo 16 (.alloc [.int .i64 0, .int .i64 0, .int .i64 0, .int .i64 0, .slice none 0 0, .slice none 0 0]),
 xn (.stoc (xt 16) (xt 103) 6),
 xo 17 (.mv (xt 104))] [0,3,5,7,10,14,15,16,17]
def c18_56 : XC := fun _ => .region [] [xo 105 (.mv (xt 7)),
 xo 106 (.mv (xt 15)),
 xo 107 (.ld (xt 16) 6 true),
 xo 108 (.ia (xt 105) (xt 106) 6),
 xn (.stoc (xt 108) (xt 107) 6)] [0,3,5,7,10,14,15,17]
def c18_57 : XC := fun _ => .region [] [xo 109 (.mv (xt 17))] [0,3,5,7,10,14,15,109]
def c18_58 : XC := fun _ => .region [] [xo 110 (.mv (xt 14)),
 xo 111 (.bin .add (xt 110) (xi 1)),
 xo 14 (.mv (xt 111))] [0,3,5,7,10,14,15]
def c18_59 : XC := fun _ => .cond (xt 109) c18_58 (fun _ => .skip)
def c18_60 : XC := fun _ => .seq c18_57 c18_59
def c18_61 : XC := fun _ => .seq c18_56 c18_60
def c18_62 : XC := fun _ => .seq c18_55 c18_61
def c18_63 : XC := fun _ => .seq c18_54 c18_62
def c18_64 : XC := fun _ => .block 3 c18_63
def c18_65 : XC := fun _ => .region [] [xo 87 (.mv (xt 15)),
 xo 88 (.bin .add (xt 87) (xi 1)),
 xo 15 (.mv (xt 88))] [0,3,5,7,10,14,15]
def c18_66 : XC := fun _ => .seq c18_64 c18_65
def c18_67 : XC := fun _ => .seq c18_51 c18_66
def c18_68 : XC := fun _ => .loop c18_67
def c18_69 : XC := fun _ => .block 2 c18_68
def c18_70 : XC := fun _ => .seq c18_48 c18_69
def c18_71 : XC := fun _ => .region [] [xo 112 (.mv (xt 14)),
 xo 113 (.bin .mul (xi 2) (xt 112)),
 xo 114 (.bin .leq (xt 113) (xi 3))] [5,7,10,114]
def c18_72 : XC := fun _ => .region [] [xo 115 (.mv (xt 7)),
 xo 116 (.bld [.int .i64 0, .int .i64 0, .slice none 0 0, .slice none 0 0] []),
 xo 4 (.mv (xt 115)),
 xn (.stoc (xt 5) (xt 116) 4),
 xo 6 (.mv (xb false))] [4,5,6]
def c18_73 : XC := fun _ => .seq c18_72 (fun _ => .ret)
def c18_74 : XC := fun _ => .cond (xt 114) c18_73 (fun _ => .skip)
def c18_75 : XC := fun _ => .seq c18_71 c18_74
def c18_76 : XC := fun _ => .region [] [xo 117 (.mv (xt 7)),
 ⟨(some 118), .ld (xt 10) 4 true, none, [0]⟩,
 xo 4 (.mv (xt 117)),
 xn (.stoc (xt 5) (xt 118) 4),
 xo 6 (.mv (xb true))] [4,5,6]
def c18_77 : XC := fun _ => .seq c18_76 (fun _ => .ret)
def c18_78 : XC := fun _ => .seq c18_75 c18_77
def c18_79 : XC := fun _ => .seq c18_70 c18_78
def c18_80 : XC := fun _ => .seq c18_47 c18_79
def c18_81 : XC := fun _ => .seq c18_46 c18_80
def c18_82 : XC := fun _ => .seq c18_41 c18_81
def c18_83 : XC := fun _ => .seq c18_10 c18_82
def c18_84 : XC := fun _ => .seq c18_9 c18_83
def c18_85 : XC := fun _ => .seq c18_8 c18_84
def c18_86 : XC := fun _ => .seq c18_7 c18_85
def c18_87 : XC := fun _ => .seq c18_2 c18_86
def c18_88 : XC := fun _ => .seq c18_1 c18_87
def m_spec_RunProposal : MCode := c18_88 ()
def h_spec_RunProposal : Hints := [(0, [0,3,5], [], [], []), (1, [0,3,5,7], [], [], []), (2, [0,3,5,7,34], [], [], []), (3, [4,5,6], [], [], []), (4, [0,3,5,7,8], [], [], []), (5, [0,3,5,7,8,9], [], [], []), (6, [0,3,5,7,8,9,10], [], [], []), (7, [0,3,5,7,8,9,10,11], [], [], []), (8, [0,3,5,7,8,9,10,11,43], [], [], []), (10, [0,3,5,7,8,9,10,11,50], [], [], []), (11, [0,3,5,7,8,9,10,11,12,13], [[],[],[],[2000000],[0,1,2,3],[0,1,2,3]], [], [9]), (12, [0,3,5,7,8,9,10,11,12,13], [], [], []), (13, [0,3,5,7,8,9,10,11,12,66], [], [], []), (14, [0,3,5,7,8,9,10,11,12], [], [], []), (15, [0,3,5,7,8,9,10,11,12,72], [], [], []), (16, [0,3,5,7,8,9,10,11,12], [], [], []), (17, [0,3,5,7,8,9,10,11], [], [], []), (9, [0,3,5,7,8,9,10,11], [], [], []), (18, [0,3,5,7,10,80], [], [], []), (19, [4,5,6], [], [], []), (20, [0,3,5,7,10,14], [], [], []), (21, [0,3,5,7,10,14,15], [], [], []), (22, [0,3,5,7,10,14,15,86], [], [], []), (24, [0,3,5,7,10,14,15,93], [], [], []), (25, [0,3,5,7,10,14,15,16,17], [[],[],[],[2000000],[0,1,2,3],[0,1,2,3],[0,1,2,3,4,5]], [], [10]), (26, [0,3,5,7,10,14,15,17], [], [], []), (27, [0,3,5,7,10,14,15,109], [], [], []), (28, [0,3,5,7,10,14,15], [], [], []), (23, [0,3,5,7,10,14,15], [], [], []), (29, [5,7,10,114], [], [], []), (30, [4,5,6], [], [], []), (31, [4,5,6], [[],[0]], [], [])]
def r_spec_RunProposal : List RV := [.t 4, .c 5 4 true, .t 6]
abbrev n_spec_RunProposal : Nat := 18
theorem k_spec_RunProposal : Known Pr muc n_spec_RunProposal m_spec_RunProposal r_spec_RunProposal Go.Proofs.Try.f18.ntmps := .of h_spec_RunProposal hm Go.Proofs.Try.func18
def c19_1 : XC := fun _ => .region [] [xo 1 (.box (xt 0)),
 xo 2 (.alloc [.int .i64 0, .slice none 0 0, .slice none 0 0, .int .i64 0, .int .i64 0, .slice none 0 0, .slice none 0 0])] [1,2]
def c19_2 : XC := fun _ => .region [] [xo 3 (.alloc [.int .i64 0, .slice none 0 0, .slice none 0 0, .int .i64 0, .int .i64 0, .slice none 0 0, .slice none 0 0])] [1,2,3]
def c19_3 : XC := fun _ => .region [] [xo 4 (.fa (xt 1) 0),
 xo 5 (.ld (xt 4) 1 false),
 xo 6 (.fa (xt 3) 0),
 xn (.sto (xt 6) (xt 5) 1)] [1,2,3]
def c19_4 : XC := fun _ => .region [] [xo 7 (.fa (xt 1) 1),
 xo 8 (.ld (xt 7) 1 false),
 xo 9 (.call 36 [(xt 8)]),
 xo 10 (.fa (xt 3) 1),
 xn (.sto (xt 10) (xt 9) 1)] [1,2,3]
def c19_5 : XC := fun _ => .region [] [xo 11 (.fa (xt 1) 2),
 xo 12 (.ld (xt 11) 1 false),
 xo 13 (.call 36 [(xt 12)]),
 xo 14 (.fa (xt 3) 2),
 xn (.sto (xt 14) (xt 13) 1)] [1,2,3]
def c19_6 : XC := fun _ => .region [] [xo 15 (.fa (xt 1) 3),
 xo 16 (.ld (xt 15) 4 true),
 xo 17 (.call 37 [(xt 16)]),
 xo 18 (.fa (xt 3) 3),
 xn (.sto (xt 18) (xt 17) 4)] [2,3]
def c19_7 : XC := fun _ => .region [] [xo 19 (.ld (xt 3) 7 true),
 xn (.sto (xt 2) (xt 19) 7)] [2]
def c19_8 : XC := fun _ => .seq c19_7 (fun _ => .ret)
def c19_9 : XC := fun _ => .seq c19_6 c19_8
def c19_10 : XC := fun _ => .seq c19_5 c19_9
def c19_11 : XC := fun _ => .seq c19_4 c19_10
def c19_12 : XC := fun _ => .seq c19_3 c19_11
def c19_13 : XC := fun _ => .seq c19_2 c19_12
def c19_14 : XC := fun _ => .seq c19_1 c19_13
def m_laws_toProposal : MCode := c19_14 ()
def h_laws_toProposal : Hints := [(0, [1,2], [], [], []), (1, [1,2,3], [], [], []), (2, [1,2,3], [], [], []), (3, [1,2,3], [], [], []), (4, [1,2,3], [], [], []), (5, [2,3], [], [], []), (6, [2], [], [], [])]
def r_laws_toProposal : List RV := [.c 2 7 true]
abbrev n_laws_toProposal : Nat := 19
theorem k_laws_toProposal : Known Pr mu n_laws_toProposal m_laws_toProposal r_laws_toProposal Go.Proofs.Try.f19.ntmps := .of h_laws_toProposal hm Go.Proofs.Try.func19
def c20_1 : XC := fun _ => .region [] [xo 0 (.mv (.const (.slice none 0 0)))] []
def c20_2 : XC := fun _ => .region [] [xo 1 (.mks 6 80 [.int .i64 0, .int .i64 0, .int .i64 0, .int .i64 0, .slice none 0 0, .slice none 0 0] (xi 3) (xi 3)),
 xo 0 (.mv (xt 1))] [0]
def c20_3 : XC := fun _ => .seq c20_2 (fun _ => .ret)
def c20_4 : XC := fun _ => .seq c20_1 c20_3
def m_impl_NewAcceptors : MCode := c20_4 ()
def h_impl_NewAcceptors : Hints := [(0, [], [], [], []), (1, [0], [], [], [])]
def r_impl_NewAcceptors : List RV := [.t 0]
abbrev n_impl_NewAcceptors : Nat := 20
theorem k_impl_NewAcceptors : Known Pr mu n_impl_NewAcceptors m_impl_NewAcceptors r_impl_NewAcceptors Go.Proofs.Try.f20.ntmps := .of h_impl_NewAcceptors hm Go.Proofs.Try.func20
def c21_1 : XC := fun _ => .region [] [xo 3 (.box (xt 1)),
 xo 4 (.mv (.const (.slice none 0 0))),
 xo 5 (.alloc [.int .i64 0, .int .i64 0, .slice none 0 0, .slice none 0 0]),
 xo 6 (.mv (xb false))] [0,3,5]
def c21_2 : XC := fun _ => .region [] [xo 20 (.mv (xt 0)),
 xo 21 (.call 38 [(xt 20)]),
 xo 7 (.mv (xt 21))] [0,3,5,7]
def c21_3 : XC := fun _ => .region [] [xo 22 (.mv (xt 0)),
 xo 23 (.call 39 [(xt 22)]),
 xo 24 (.not (xt 23)),
 xo 25 (.mv (xt 24)),
 ⟨(some 26), .fa (xt 3) 3, (some (25, false)), []⟩,
 ⟨(some 27), .ld (xt 26) 4 true, (some (25, false)), []⟩,
 ⟨(some 28), .call 40 [(xt 27)], (some (25, false)), []⟩,
 ⟨(some 29), .not (xt 28), (some (25, false)), []⟩,
 xo 30 (.pick (xt 25) (xb true) (xt 29)),
 xo 31 (.mv (xt 30)),
 ⟨(some 32), .fa (xt 3) 0, (some (31, false)), []⟩,
 ⟨(some 33), .ld (xt 32) 1 false, (some (31, false)), []⟩,
 ⟨(some 34), .call 41 [(xt 33), (xi 1), (xi 99)], (some (31, false)), []⟩,
 ⟨(some 35), .not (xt 34), (some (31, false)), []⟩,
 xo 36 (.pick (xt 31) (xb true) (xt 35))] [0,3,5,7,36]
def c21_4 : XC := fun _ => .region [] [xo 37 (.mv (xt 7)),
 xo 38 (.bld [.int .i64 0, .int .i64 0, .slice none 0 0, .slice none 0 0] []),
 xo 4 (.mv (xt 37)),
 xn (.stoc (xt 5) (xt 38) 4),
 xo 6 (.mv (xb false))] [4,5,6]
def c21_5 : XC := fun _ => .seq c21_4 (fun _ => .ret)
def c21_6 : XC := fun _ => .cond (xt 36) c21_5 (fun _ => .skip)
def c21_7 : XC := fun _ => .seq c21_3 c21_6
def c21_8 : XC := fun _ => .region [] [xo 8 (.mv (xi 0)),
 xo 9 (.mv (xi 0))] [0,3,5,7,8,9]
def c21_9 : XC := fun _ => .region [] [xo 39 (.fa (xt 3) 3),
 xo 40 (.ld (xt 39) 4 true),
 xo 11 (.alloc [.int .i64 0, .int .i64 0, .slice none 0 0, .slice none 0 0]),
 xo 10 (.mv (xi 0)),
 xn (.stoc (xt 11) (xt 40) 4)] [0,3,5,7,8,9,10,11]
def c21_10 : XC := fun _ => .region [] [xo 41 (.mv (xt 0)),
 xo 42 (.len false (xt 41)),
 xo 43 (.mv (xi 0))] [3,5,7,8,9,10,11,41,42,43]
def c21_11 : XC := fun _ => .region [] [xo 44 (.bin .lss (xt 43) (xt 42))] [3,5,7,8,9,10,11,41,42,43,44]
def c21_12 : XC := fun _ => .cond (xt 44) (fun _ => .skip) (fun _ => .exit 0)
def c21_13 : XC := fun _ => .region [] [xo 45 (.mv (xt 43)),
 xo 46 (.ia (xt 41) (xt 43) 6),
 xo 47 (.ld (xt 46) 6 true),
 xo 13 (.alloc [.int .i64 0, .int .i64 0, .int .i64 0, .int .i64 0, .slice none 0 0, .slice none 0 0]),
 xo 12 (.mv (xt 45)),
 xn (.stoc (xt 13) (xt 47) 6)] [3,5,7,8,9,10,11,12,13,41,42,43]
def c21_14 : XC := fun _ => .region [] [xo 49 (.ld (xt 13) 6 true),
 xo 50 (.fa (xt 3) 0),
 xo 51 (.ld (xt 50) 1 false),
 xo 52 (.call 42 [(xt 49), (xt 51)]),
 xo 48 (.mv (xt 52)),
 xo 53 (.ext (xt 48) 0),
 xo 54 (.ext (xt 48) 1),
 xo 14 (.alloc [.int .i64 0, .int .i64 0, .int .i64 0, .int .i64 0, .slice none 0 0, .slice none 0 0]),
 xn (.stoc (xt 14) (xt 53) 6),
 xo 15 (.mv (xt 54))] [3,5,7,8,9,10,11,12,13,14,15,41,42,43]
def c21_15 : XC := fun _ => .region [] [xo 55 (.mv (xt 15)),
 xo 56 (.mv (xt 55)),
 ⟨(some 57), .fa (xt 3) 1, (some (56, true)), []⟩,
 ⟨(some 58), .ld (xt 57) 1 false, (some (56, true)), []⟩,
 ⟨(some 59), .mv (xt 12), (some (56, true)), []⟩,
 ⟨(some 60), .call 43 [(xt 58), (xt 59)], (some (56, true)), []⟩,
 xo 61 (.pick (xt 56) (xt 60) (xb false))] [3,5,7,8,9,10,11,12,13,14,41,42,43,61]
def c21_16 : XC := fun _ => .region [] [xo 62 (.mv (xt 7)),
 xo 63 (.mv (xt 12)),
 xo 64 (.ld (xt 14) 6 true),
 xo 65 (.ia (xt 62) (xt 63) 6),
 xn (.stoc (xt 65) (xt 64) 6)] [3,5,7,8,9,10,11,13,41,42,43]
def c21_17 : XC := fun _ => .region [] [xo 66 (.mv (xt 8)),
 xo 67 (.bin .add (xt 66) (xi 1)),
 xo 8 (.mv (xt 67))] [3,5,7,8,9,10,11,13,41,42,43]
def c21_18 : XC := fun _ => .region [] [xo 68 (.fa (xt 13) 1),
 xo 69 (.ld (xt 68) 1 false),
 xo 70 (.mv (xt 10)),
 xo 71 (.bin .gtr (xt 69) (xt 70))] [3,5,7,8,9,10,11,13,41,42,43,71]
def c21_19 : XC := fun _ => .region [] [xo 72 (.fa (xt 13) 1),
 xo 73 (.ld (xt 72) 1 false),
 ⟨(some 74), .fa (xt 13) 2, none, [0, 1]⟩,
 ⟨(some 75), .ld (xt 74) 4 true, none, [0, 1]⟩,
 xo 10 (.mv (xt 73)),
 xn (.stoc (xt 11) (xt 75) 4)] [3,5,7,8,9,10,11,41,42,43]
def c21_20 : XC := fun _ => .cond (xt 71) c21_19 (fun _ => .skip)
def c21_21 : XC := fun _ => .seq c21_18 c21_20
def c21_22 : XC := fun _ => .seq c21_17 c21_21
def c21_23 : XC := fun _ => .seq c21_16 c21_22
def c21_24 : XC := fun _ => .cond (xt 61) c21_23 (fun _ => .skip)
def c21_25 : XC := fun _ => .seq c21_15 c21_24
def c21_26 : XC := fun _ => .seq c21_14 c21_25
def c21_27 : XC := fun _ => .seq c21_13 c21_26
def c21_28 : XC := fun _ => .block 1 c21_27
def c21_29 : XC := fun _ => .region [] [xo 76 (.bin .add (xt 43) (xi 1)),
 xo 43 (.mv (xt 76))] [3,5,7,8,9,10,11,41,42,43]
def c21_30 : XC := fun _ => .seq c21_28 c21_29
def c21_31 : XC := fun _ => .seq c21_12 c21_30
def c21_32 : XC := fun _ => .seq c21_11 c21_31
def c21_33 : XC := fun _ => .loop c21_32
def c21_34 : XC := fun _ => .block 0 c21_33
def c21_35 : XC := fun _ => .seq c21_10 c21_34
def c21_36 : XC := fun _ => .region [] [xo 77 (.mv (xt 8)),
 xo 78 (.bin .mul (xi 2) (xt 77)),
 xo 79 (.bin .leq (xt 78) (xi 3))] [3,5,7,9,11,79]
def c21_37 : XC := fun _ => .region [] [xo 80 (.mv (xt 7)),
 xo 81 (.bld [.int .i64 0, .int .i64 0, .slice none 0 0, .slice none 0 0] []),
 xo 4 (.mv (xt 80)),
 xn (.stoc (xt 5) (xt 81) 4),
 xo 6 (.mv (xb false))] [4,5,6]
def c21_38 : XC := fun _ => .seq c21_37 (fun _ => .ret)
def c21_39 : XC := fun _ => .cond (xt 79) c21_38 (fun _ => .skip)
def c21_40 : XC := fun _ => .seq c21_36 c21_39
def c21_41 : XC := fun _ => .region [] [xo 82 (.mv (xt 7)),
 xo 83 (.len false (xt 82)),
 xo 84 (.mv (xi 0))] [3,5,7,9,11,82,83,84]
def c21_42 : XC := fun _ => .region [] [xo 85 (.bin .lss (xt 84) (xt 83))] [3,5,7,9,11,82,83,84,85]
def c21_43 : XC := fun _ => .cond (xt 85) (fun _ => .skip) (fun _ => .exit 2)
def c21_44 : XC := fun _ => .region [] [xo 86 (.mv (xt 84)),
 xo 87 (.ia (xt 82) (xt 84) 6),
 ⟨(some 88), .ldc (xt 87) 6 true, none, [2000000]⟩,
 xo 17 (.alloc [.int .i64 0, .int .i64 0, .int .i64 0, .int .i64 0, .slice none 0 0, .slice none 0 0]),
 xo 16 (.mv (xt 86)),
 xn (.stoc (xt 17) (xt 88) 6)] [3,5,7,9,11,16,17,82,83,84]
def c21_45 : XC := fun _ => .region [] [xo 90 (.ld (xt 17) 6 true),
 xo 91 (.fa (xt 3) 0),
 xo 92 (.ld (xt 91) 1 false),
 xo 93 (.ld (xt 11) 4 true),
 xo 94 (.call 44 [(xt 90), (xt 92), (xt 93)]),
 xo 89 (.mv (xt 94)),
 xo 95 (.ext (xt 89) 0),
 xo 96 (.ext (xt 89) 1),
 xo 18 (.alloc [.int .i64 0, .int .i64 0, .int .i64 0, .int .i64 0, .slice none 0 0, .slice none 0 0]),
 xn (.stoc (xt 18) (xt 95) 6),
 xo 19 (.mv (xt 96))] [3,5,7,9,11,16,18,19,82,83,84]
def c21_46 : XC := fun _ => .region [] [xo 97 (.mv (xt 19)),
 xo 98 (.mv (xt 97)),
 ⟨(some 99), .fa (xt 3) 2, (some (98, true)), []⟩,
 ⟨(some 100), .ld (xt 99) 1 false, (some (98, true)), []⟩,
 ⟨(some 101), .mv (xt 16), (some (98, true)), []⟩,
 ⟨(some 102), .call 43 [(xt 100), (xt 101)], (some (98, true)), []⟩,
 xo 103 (.pick (xt 98) (xt 102) (xb false))] [3,5,7,9,11,16,18,82,83,84,103]
def c21_47 : XC := fun _ => .region [] [xo 104 (.mv (xt 7)),
 xo 105 (.mv (xt 16)),
 xo 106 (.ld (xt 18) 6 true),
 xo 107 (.ia (xt 104) (xt 105) 6),
 xn (.stoc (xt 107) (xt 106) 6)] [3,5,7,9,11,82,83,84]
def c21_48 : XC := fun _ => .region [] [xo 108 (.mv (xt 9)),
 xo 109 (.bin .add (xt 108) (xi 1)),
 xo 9 (.mv (xt 109))] [3,5,7,9,11,82,83,84]
def c21_49 : XC := fun _ => .seq c21_47 c21_48
def c21_50 : XC := fun _ => .cond (xt 103) c21_49 (fun _ => .skip)
def c21_51 : XC := fun _ => .seq c21_46 c21_50
def c21_52 : XC := fun _ => .seq c21_45 c21_51
def c21_53 : XC := fun _ => .seq c21_44 c21_52
def c21_54 : XC := fun _ => .block 3 c21_53
def c21_55 : XC := fun _ => .region [] [xo 110 (.bin .add (xt 84) (xi 1)),
 xo 84 (.mv (xt 110))] [3,5,7,9,11,82,83,84]
def c21_56 : XC := fun _ => .seq c21_54 c21_55
def c21_57 : XC := fun _ => .seq c21_43 c21_56
def c21_58 : XC := fun _ => .seq c21_42 c21_57
def c21_59 : XC := fun _ => .loop c21_58
def c21_60 : XC := fun _ => .block 2 c21_59
def c21_61 : XC := fun _ => .seq c21_41 c21_60
def c21_62 : XC := fun _ => .region [] [xo 111 (.mv (xt 9)),
 xo 112 (.bin .mul (xi 2) (xt 111)),
 xo 113 (.bin .leq (xt 112) (xi 3))] [5,7,11,113]
def c21_63 : XC := fun _ => .region [] [xo 114 (.mv (xt 7)),
 xo 115 (.bld [.int .i64 0, .int .i64 0, .slice none 0 0, .slice none 0 0] []),
 xo 4 (.mv (xt 114)),
 xn (.stoc (xt 5) (xt 115) 4),
 xo 6 (.mv (xb false))] [4,5,6]
def c21_64 : XC := fun _ => .seq c21_63 (fun _ => .ret)
def c21_65 : XC := fun _ => .cond (xt 113) c21_64 (fun _ => .skip)
def c21_66 : XC := fun _ => .seq c21_62 c21_65
def c21_67 : XC := fun _ => .region [] [xo 116 (.mv (xt 7)),
 xo 117 (.ld (xt 11) 4 true),
 xo 118 (.call 45 [(xt 117)]),
 xo 4 (.mv (xt 116)),
 xn (.stoc (xt 5) (xt 118) 4),
 xo 6 (.mv (xb true))] [4,5,6]
def c21_68 : XC := fun _ => .seq c21_67 (fun _ => .ret)
def c21_69 : XC := fun _ => .seq c21_66 c21_68
def c21_70 : XC := fun _ => .seq c21_61 c21_69
def c21_71 : XC := fun _ => .seq c21_40 c21_70
def c21_72 : XC := fun _ => .seq c21_35 c21_71
def c21_73 : XC := fun _ => .seq c21_9 c21_72
def c21_74 : XC := fun _ => .seq c21_8 c21_73
def c21_75 : XC := fun _ => .seq c21_7 c21_74
def c21_76 : XC := fun _ => .seq c21_2 c21_75
def c21_77 : XC := fun _ => .seq c21_1 c21_76
def m_impl_RunProposal : MCode := c21_77 ()
def h_impl_RunProposal : Hints := [(0, [0,3,5], [], [], []), (1, [0,3,5,7], [], [], []), (2, [0,3,5,7,36], [], [], []), (3, [4,5,6], [], [], []), (4, [0,3,5,7,8,9], [], [], []), (5, [0,3,5,7,8,9,10,11], [], [], []), (6, [3,5,7,8,9,10,11,41,42,43], [], [], []), (7, [3,5,7,8,9,10,11,41,42,43,44], [], [], []), (8, [3,5,7,8,9,10,11,12,13,41,42,43], [], [], []), (9, [3,5,7,8,9,10,11,12,13,14,15,41,42,43], [], [], []), (10, [3,5,7,8,9,10,11,12,13,14,41,42,43,61], [], [], []), (11, [3,5,7,8,9,10,11,13,41,42,43], [], [], []), (12, [3,5,7,8,9,10,11,13,41,42,43], [], [], []), (13, [3,5,7,8,9,10,11,13,41,42,43,71], [], [], []), (14, [3,5,7,8,9,10,11,41,42,43], [[],[],[0,1],[0,1]], [], []), (15, [3,5,7,8,9,10,11,41,42,43], [], [], []), (16, [3,5,7,9,11,79], [], [], []), (17, [4,5,6], [], [], []), (18, [3,5,7,9,11,82,83,84], [], [], []), (19, [3,5,7,9,11,82,83,84,85], [], [], []), (20, [3,5,7,9,11,16,17,82,83,84], [[],[],[2000000]], [], []), (21, [3,5,7,9,11,16,18,19,82,83,84], [], [], []), (22, [3,5,7,9,11,16,18,82,83,84,103], [], [], []), (23, [3,5,7,9,11,82,83,84], [], [], []), (24, [3,5,7,9,11,82,83,84], [], [], []), (25, [3,5,7,9,11,82,83,84], [], [], []), (26, [5,7,11,113], [], [], []), (27, [4,5,6], [], [], []), (28, [4,5,6], [], [], [])]
def r_impl_RunProposal : List RV := [.t 4, .c 5 4 true, .t 6]
abbrev n_impl_RunProposal : Nat := 21
theorem k_impl_RunProposal : Known Pr muc n_impl_RunProposal m_impl_RunProposal r_impl_RunProposal Go.Proofs.Try.f21.ntmps := .of h_impl_RunProposal hm Go.Proofs.Try.func21
def c22_1 : XC := fun _ => .region [] [xo 2 (.box (xt 0)),
 xo 3 (.box (xt 1)),
 xo 4 (.mv (xb false))] [2,3]
def c22_2 : XC := fun _ => .region [] [xo 5 (.fa (xt 2) 0),
 xo 6 (.ld (xt 5) 1 false),
 xo 7 (.fa (xt 3) 0),
 xo 8 (.ld (xt 7) 1 false),
 xo 9 (.bin .neq (xt 6) (xt 8))] [2,3,9]
def c22_3 : XC := fun _ => .region [] [xo 4 (.mv (xb false))] [4]
def c22_4 : XC := fun _ => .seq c22_3 (fun _ => .ret)
def c22_5 : XC := fun _ => .cond (xt 9) c22_4 (fun _ => .skip)
def c22_6 : XC := fun _ => .seq c22_2 c22_5
def c22_7 : XC := fun _ => .region [] [xo 10 (.fa (xt 2) 1),
 xo 11 (.ld (xt 10) 1 false),
 xo 12 (.fa (xt 3) 1),
 xo 13 (.ld (xt 12) 1 false),
 xo 14 (.bin .neq (xt 11) (xt 13))] [2,3,14]
def c22_8 : XC := fun _ => .region [] [xo 4 (.mv (xb false))] [4]
def c22_9 : XC := fun _ => .seq c22_8 (fun _ => .ret)
def c22_10 : XC := fun _ => .cond (xt 14) c22_9 (fun _ => .skip)
def c22_11 : XC := fun _ => .seq c22_7 c22_10
def c22_12 : XC := fun _ => .region [] [xo 15 (.fa (xt 2) 2),
 xo 16 (.ld (xt 15) 4 true),
 xo 17 (.fa (xt 3) 2),
 xo 18 (.ld (xt 17) 4 true),
 xo 19 (.call 46 [(xt 16), (xt 18)]),
 xo 20 (.not (xt 19))] [20]
def c22_13 : XC := fun _ => .region [] [xo 4 (.mv (xb false))] [4]
def c22_14 : XC := fun _ => .seq c22_13 (fun _ => .ret)
def c22_15 : XC := fun _ => .cond (xt 20) c22_14 (fun _ => .skip)
def c22_16 : XC := fun _ => .seq c22_12 c22_15
def c22_17 : XC := fun _ => .region [] [xo 4 (.mv (xb true))] [4]
def c22_18 : XC := fun _ => .seq c22_17 (fun _ => .ret)
def c22_19 : XC := fun _ => .seq c22_16 c22_18
def c22_20 : XC := fun _ => .seq c22_11 c22_19
def c22_21 : XC := fun _ => .seq c22_6 c22_20
def c22_22 : XC := fun _ => .seq c22_1 c22_21
def m_laws_eqAcceptor : MCode := c22_22 ()
def h_laws_eqAcceptor : Hints := [(0, [2,3], [], [], []), (1, [2,3,9], [], [], []), (2, [4], [], [], []), (3, [2,3,14], [], [], []), (4, [4], [], [], []), (5, [20], [], [], []), (6, [4], [], [], []), (7, [4], [], [], [])]
def r_laws_eqAcceptor : List RV := [.t 4]
abbrev n_laws_eqAcceptor : Nat := 22
theorem k_laws_eqAcceptor : Known Pr mu n_laws_eqAcceptor m_laws_eqAcceptor r_laws_eqAcceptor Go.Proofs.Try.f22.ntmps := .of h_laws_eqAcceptor hm Go.Proofs.Try.func22
def c23_1 : XC := fun _ => .region [] [xo 2 (.box (xt 0)),
 xo 3 (.box (xt 1)),
 xo 4 (.mv (xb false))] [2,3]
def c23_2 : XC := fun _ => .region [] [xo 5 (.fa (xt 2) 0),
 xo 6 (.ld (xt 5) 1 false),
 xo 7 (.fa (xt 3) 0),
 xo 8 (.ld (xt 7) 1 false),
 xo 9 (.bin .neq (xt 6) (xt 8))] [2,3,9]
def c23_3 : XC := fun _ => .region [] [xo 4 (.mv (xb false))] [4]
def c23_4 : XC := fun _ => .seq c23_3 (fun _ => .ret)
def c23_5 : XC := fun _ => .cond (xt 9) c23_4 (fun _ => .skip)
def c23_6 : XC := fun _ => .seq c23_2 c23_5
def c23_7 : XC := fun _ => .region [] [xo 10 (.fa (xt 2) 1),
 xo 11 (.ld (xt 10) 1 false),
 xo 12 (.fa (xt 3) 1),
 xo 13 (.ld (xt 12) 1 false),
 xo 14 (.call 47 [(xt 11), (xt 13)]),
 xo 15 (.not (xt 14))] [2,3,15]
def c23_8 : XC := fun _ => .region [] [xo 4 (.mv (xb false))] [4]
def c23_9 : XC := fun _ => .seq c23_8 (fun _ => .ret)
def c23_10 : XC := fun _ => .cond (xt 15) c23_9 (fun _ => .skip)
def c23_11 : XC := fun _ => .seq c23_7 c23_10
def c23_12 : XC := fun _ => .region [] [xo 16 (.fa (xt 2) 2),
 xo 17 (.ld (xt 16) 1 false),
 xo 18 (.fa (xt 3) 2),
 xo 19 (.ld (xt 18) 1 false),
 xo 20 (.call 47 [(xt 17), (xt 19)]),
 xo 21 (.not (xt 20))] [2,3,21]
def c23_13 : XC := fun _ => .region [] [xo 4 (.mv (xb false))] [4]
def c23_14 : XC := fun _ => .seq c23_13 (fun _ => .ret)
def c23_15 : XC := fun _ => .cond (xt 21) c23_14 (fun _ => .skip)
def c23_16 : XC := fun _ => .seq c23_12 c23_15
def c23_17 : XC := fun _ => .region [] [xo 22 (.fa (xt 2) 3),
 xo 23 (.ld (xt 22) 4 true),
 xo 24 (.fa (xt 3) 3),
 xo 25 (.ld (xt 24) 4 true),
 xo 26 (.call 46 [(xt 23), (xt 25)]),
 xo 27 (.not (xt 26))] [27]
def c23_18 : XC := fun _ => .region [] [xo 4 (.mv (xb false))] [4]
def c23_19 : XC := fun _ => .seq c23_18 (fun _ => .ret)
def c23_20 : XC := fun _ => .cond (xt 27) c23_19 (fun _ => .skip)
def c23_21 : XC := fun _ => .seq c23_17 c23_20
def c23_22 : XC := fun _ => .region [] [xo 4 (.mv (xb true))] [4]
def c23_23 : XC := fun _ => .seq c23_22 (fun _ => .ret)
def c23_24 : XC := fun _ => .seq c23_21 c23_23
def c23_25 : XC := fun _ => .seq c23_16 c23_24
def c23_26 : XC := fun _ => .seq c23_11 c23_25
def c23_27 : XC := fun _ => .seq c23_6 c23_26
def c23_28 : XC := fun _ => .seq c23_1 c23_27
def m_laws_eqProposal : MCode := c23_28 ()
def h_laws_eqProposal : Hints := [(0, [2,3], [], [], []), (1, [2,3,9], [], [], []), (2, [4], [], [], []), (3, [2,3,15], [], [], []), (4, [4], [], [], []), (5, [2,3,21], [], [], []), (6, [4], [], [], []), (7, [27], [], [], []), (8, [4], [], [], []), (9, [4], [], [], [])]
def r_laws_eqProposal : List RV := [.t 4]
abbrev n_laws_eqProposal : Nat := 23
theorem k_laws_eqProposal : Known Pr mu n_laws_eqProposal m_laws_eqProposal r_laws_eqProposal Go.Proofs.Try.f23.ntmps := .of h_laws_eqProposal hm Go.Proofs.Try.func23
def c24_1 : XC := fun _ => .region [] [xo 4 (.mv (xi 0))] [0,1]
def c24_2 : XC := fun _ => .region [] [xo 5 (.mv (xi 0))] [0,1,5]
def c24_3 : XC := fun _ => .region [] [xo 6 (.mv (xt 5)),
 xo 7 (.mv (xt 0)),
 xo 8 (.len false (xt 7)),
 xo 9 (.bin .lss (xt 6) (xt 8))] [0,1,5,9]
def c24_4 : XC := fun _ => .cond (xt 9) (fun _ => .skip) (fun _ => .exit 0)
def c24_5 : XC := fun _ => .seq c24_3 c24_4
def c24_6 : XC := fun _ => .region [] [xo 12 (.mv (xt 0)),
 xo 13 (.mv (xt 5)),
 xo 14 (.mv (xt 1)),
 xo 15 (.ia (xt 12) (xt 13) 1),
 xn (.sto (xt 15) (xt 14) 1)] [0,1,5]
def c24_7 : XC := fun _ => .region [] [xo 16 (.mv (xt 1)),
 xo 17 (.bin .add (xt 16) (xi 1)),
 xo 1 (.mv (xt 17))] [0,1,5]
def c24_8 : XC := fun _ => .seq c24_6 c24_7
def c24_9 : XC := fun _ => .block 1 c24_8
def c24_10 : XC := fun _ => .region [] [xo 10 (.mv (xt 5)),
 xo 11 (.bin .add (xt 10) (xi 1)),
 xo 5 (.mv (xt 11))] [0,1,5]
def c24_11 : XC := fun _ => .seq c24_9 c24_10
def c24_12 : XC := fun _ => .seq c24_5 c24_11
def c24_13 : XC := fun _ => .loop c24_12
def c24_14 : XC := fun _ => .block 0 c24_13
def c24_15 : XC := fun _ => .seq c24_2 c24_14
def c24_16 : XC := fun _ => .region [] [xo 18 (.mv (xt 1)),
 xo 4 (.mv (xt 18))] [4]
def c24_17 : XC := fun _ => .seq c24_16 (fun _ => .ret)
def c24_18 : XC := fun _ => .seq c24_15 c24_17
def c24_19 : XC := fun _ => .seq c24_1 c24_18
def m_laws_markIntS : MCode := c24_19 ()
def h_laws_markIntS : Hints := [(0, [0,1], [], [], []), (1, [0,1,5], [], [], []), (2, [0,1,5,9], [], [], []), (4, [0,1,5], [], [], []), (5, [0,1,5], [], [], []), (3, [0,1,5], [], [], []), (6, [4], [], [], [])]
def r_laws_markIntS : List RV := [.t 4]
abbrev n_laws_markIntS : Nat := 24
theorem k_laws_markIntS : Known Pr mu n_laws_markIntS m_laws_markIntS r_laws_markIntS Go.Proofs.Try.f24.ntmps := .of h_laws_markIntS hm Go.Proofs.Try.func24
def c25_1 : XC := fun _ => .region [] [xo 4 (.mv (xi 0))] [0,1]
def c25_2 : XC := fun _ => .region [] [xo 5 (.mv (xi 0))] [0,1,5]
def c25_3 : XC := fun _ => .region [] [xo 6 (.mv (xt 5)),
 xo 7 (.mv (xt 0)),
 xo 8 (.len false (xt 7)),
 xo 9 (.bin .lss (xt 6) (xt 8))] [0,1,5,9]
def c25_4 : XC := fun _ => .cond (xt 9) (fun _ => .skip) (fun _ => .exit 0)
def c25_5 : XC := fun _ => .seq c25_3 c25_4
def c25_6 : XC := fun _ => .region [] [xo 12 (.mv (xt 0)),
 xo 13 (.mv (xt 5)),
 xo 14 (.ia (xt 12) (xt 13) 1),
 xo 15 (.ld (xt 14) 1 false),
 xo 16 (.mv (xt 1)),
 xo 17 (.bin .neq (xt 15) (xt 16))] [0,1,5,17]
def c25_7 : XC := fun _ => .region [] [xo 4 (.mv (xi (-1)))] [4]
def c25_8 : XC := fun _ => .seq c25_7 (fun _ => .ret)
def c25_9 : XC := fun _ => .cond (xt 17) c25_8 (fun _ => .skip)
def c25_10 : XC := fun _ => .seq c25_6 c25_9
def c25_11 : XC := fun _ => .region [] [xo 18 (.mv (xt 1)),
 xo 19 (.bin .add (xt 18) (xi 1)),
 xo 1 (.mv (xt 19))] [0,1,5]
def c25_12 : XC := fun _ => .seq c25_10 c25_11
def c25_13 : XC := fun _ => .block 1 c25_12
def c25_14 : XC := fun _ => .region [] [xo 10 (.mv (xt 5)),
 xo 11 (.bin .add (xt 10) (xi 1)),
 xo 5 (.mv (xt 11))] [0,1,5]
def c25_15 : XC := fun _ => .seq c25_13 c25_14
def c25_16 : XC := fun _ => .seq c25_5 c25_15
def c25_17 : XC := fun _ => .loop c25_16
def c25_18 : XC := fun _ => .block 0 c25_17
def c25_19 : XC := fun _ => .seq c25_2 c25_18
def c25_20 : XC := fun _ => .region [] [xo 20 (.mv (xt 1)),
 xo 4 (.mv (xt 20))] [4]
def c25_21 : XC := fun _ => .seq c25_20 (fun _ => .ret)
def c25_22 : XC := fun _ => .seq c25_19 c25_21
def c25_23 : XC := fun _ => .seq c25_1 c25_22
def m_laws_heldIntS : MCode := c25_23 ()
def h_laws_heldIntS : Hints := [(0, [0,1], [], [], []), (1, [0,1,5], [], [], []), (2, [0,1,5,9], [], [], []), (4, [0,1,5,17], [], [], []), (5, [4], [], [], []), (6, [0,1,5], [], [], []), (3, [0,1,5], [], [], []), (7, [4], [], [], [])]
def r_laws_heldIntS : List RV := [.t 4]
abbrev n_laws_heldIntS : Nat := 25
theorem k_laws_heldIntS : Known Pr mu n_laws_heldIntS m_laws_heldIntS r_laws_heldIntS Go.Proofs.Try.f25.ntmps := .of h_laws_heldIntS hm Go.Proofs.Try.func25
def c26_1 : XC := fun _ => .region [] [xo 4 (.mv (xi 0))] [0,1]
def c26_2 : XC := fun _ => .region [] [xo 5 (.mv (xt 1)),
 xo 6 (.mv (xt 0)),
 xo 7 (.len false (xt 6)),
 xo 8 (.bin .sub (xt 5) (xt 7)),
 xo 1 (.mv (xt 8))] [1]
def c26_3 : XC := fun _ => .region [] [xo 9 (.mv (xt 1)),
 xo 10 (.bin .lss (xt 9) (xi 0))] [1,10]
def c26_4 : XC := fun _ => .region [] [xo 4 (.mv (xi (-1)))] [4]
def c26_5 : XC := fun _ => .seq c26_4 (fun _ => .ret)
def c26_6 : XC := fun _ => .cond (xt 10) c26_5 (fun _ => .skip)
def c26_7 : XC := fun _ => .seq c26_3 c26_6
def c26_8 : XC := fun _ => .region [] [xo 11 (.mv (xt 1)),
 xo 4 (.mv (xt 11))] [4]
def c26_9 : XC := fun _ => .seq c26_8 (fun _ => .ret)
def c26_10 : XC := fun _ => .seq c26_7 c26_9
def c26_11 : XC := fun _ => .seq c26_2 c26_10
def c26_12 : XC := fun _ => .seq c26_1 c26_11
def m_laws_szIntS : MCode := c26_12 ()
def h_laws_szIntS : Hints := [(0, [0,1], [], [], []), (1, [1], [], [], []), (2, [1,10], [], [], []), (3, [4], [], [], []), (4, [4], [], [], [])]
def r_laws_szIntS : List RV := [.t 4]
abbrev n_laws_szIntS : Nat := 26
theorem k_laws_szIntS : Known Pr mu n_laws_szIntS m_laws_szIntS r_laws_szIntS Go.Proofs.Try.f26.ntmps := .of h_laws_szIntS hm Go.Proofs.Try.func26
def c27_1 : XC := fun _ => .region [] [xo 2 (.box (xt 0)),
 xo 4 (.mv (xi 0))] [1,2]
def c27_2 : XC := fun _ => .region [] [xo 5 (.fa (xt 2) 2),
 xo 6 (.ld (xt 5) 1 false),
 xo 7 (.mv (xt 1)),
 xo 8 (.call 26 [(xt 6), (xt 7)]),
 xo 1 (.mv (xt 8))] [1,2]
def c27_3 : XC := fun _ => .region [] [xo 9 (.mv (xt 1)),
 xo 10 (.bin .lss (xt 9) (xi 0))] [1,2,10]
def c27_4 : XC := fun _ => .region [] [xo 4 (.mv (xi (-1)))] [4]
def c27_5 : XC := fun _ => .seq c27_4 (fun _ => .ret)
def c27_6 : XC := fun _ => .cond (xt 10) c27_5 (fun _ => .skip)
def c27_7 : XC := fun _ => .seq c27_3 c27_6
def c27_8 : XC := fun _ => .region [] [xo 11 (.fa (xt 2) 3),
 xo 12 (.ld (xt 11) 1 false),
 xo 13 (.mv (xt 1)),
 xo 14 (.call 26 [(xt 12), (xt 13)]),
 xo 1 (.mv (xt 14))] [1]
def c27_9 : XC := fun _ => .region [] [xo 15 (.mv (xt 1)),
 xo 16 (.bin .lss (xt 15) (xi 0))] [1,16]
def c27_10 : XC := fun _ => .region [] [xo 4 (.mv (xi (-1)))] [4]
def c27_11 : XC := fun _ => .seq c27_10 (fun _ => .ret)
def c27_12 : XC := fun _ => .cond (xt 16) c27_11 (fun _ => .skip)
def c27_13 : XC := fun _ => .seq c27_9 c27_12
def c27_14 : XC := fun _ => .region [] [xo 17 (.mv (xt 1)),
 xo 4 (.mv (xt 17))] [4]
def c27_15 : XC := fun _ => .seq c27_14 (fun _ => .ret)
def c27_16 : XC := fun _ => .seq c27_13 c27_15
def c27_17 : XC := fun _ => .seq c27_8 c27_16
def c27_18 : XC := fun _ => .seq c27_7 c27_17
def c27_19 : XC := fun _ => .seq c27_2 c27_18
def c27_20 : XC := fun _ => .seq c27_1 c27_19
def m_laws_szConfig : MCode := c27_20 ()
def h_laws_szConfig : Hints := [(0, [1,2], [], [], []), (1, [1,2], [], [], []), (2, [1,2,10], [], [], []), (3, [4], [], [], []), (4, [1], [], [], []), (5, [1,16], [], [], []), (6, [4], [], [], []), (7, [4], [], [], [])]
def r_laws_szConfig : List RV := [.t 4]
abbrev n_laws_szConfig : Nat := 27
theorem k_laws_szConfig : Known Pr mu n_laws_szConfig m_laws_szConfig r_laws_szConfig Go.Proofs.Try.f27.ntmps := .of h_laws_szConfig hm Go.Proofs.Try.func27
def c28_1 : XC := fun _ => .region [] [xo 2 (.mv (.const (.slice none 0 0)))] [0]
def c28_2 : XC := fun _ => .region [] [xo 6 (.bsl 6 0 [.int .i64 0, .int .i64 0, .int .i64 0, .int .i64 0, .slice none 0 0, .slice none 0 0] []),
 xo 3 (.mv (xt 6))] [0,3]
def c28_3 : XC := fun _ => .region [] [xo 4 (.mv (xi 0))] [0,3,4]
def c28_4 : XC := fun _ => .region [] [xo 7 (.mv (xt 4)),
 xo 8 (.mv (xt 0)),
 xo 9 (.len false (xt 8)),
 xo 10 (.bin .lss (xt 7) (xt 9))] [0,3,4,10]
def c28_5 : XC := fun _ => .cond (xt 10) (fun _ => .skip) (fun _ => .exit 0)
def c28_6 : XC := fun _ => .seq c28_4 c28_5
def c28_7 : XC := fun _ => .region [] [xo 13 (.mv (xt 0)),
 xo 14 (.mv (xt 4)),
 xo 15 (.ia (xt 13) (xt 14) 6),
 xo 16 (.ld (xt 15) 6 true),
 xo 17 (.call 48 [(xt 16)]),
 xo 5 (.alloc [.int .i64 0, .int .i64 0, .int .i64 0, .int .i64 0, .slice none 0 0, .slice none 0 0]),
 xn (.sto (xt 5) (xt 17) 6)] [0,3,4,5]
def c28_8 : XC := fun _ => .region [] [xo 18 (.mv (xt 3)),
 xo 19 (.ld (xt 5) 6 true),
 xo 20 (.bsl 6 1 [.int .i64 0, .int .i64 0, .int .i64 0, .int .i64 0, .slice none 0 0, .slice none 0 0] [(0, (xt 19))]),
 xo 21 (.app (xt 18) (xt 20) 6 80),
 xo 3 (.mv (xt 21))] [0,3,4]
def c28_9 : XC := fun _ => .seq c28_7 c28_8
def c28_10 : XC := fun _ => .block 1 c28_9
def c28_11 : XC := fun _ => .region [] [xo 11 (.mv (xt 4)),
 xo 12 (.bin .add (xt 11) (xi 1)),
 xo 4 (.mv (xt 12))] [0,3,4]
def c28_12 : XC := fun _ => .seq c28_10 c28_11
def c28_13 : XC := fun _ => .seq c28_6 c28_12
def c28_14 : XC := fun _ => .loop c28_13
def c28_15 : XC := fun _ => .block 0 c28_14
def c28_16 : XC := fun _ => .seq c28_3 c28_15
def c28_17 : XC := fun _ => .region [] [xo 22 (.mv (xt 3)),
 xo 2 (.mv (xt 22))] [2]
def c28_18 : XC := fun _ => .seq c28_17 (fun _ => .ret)
def c28_19 : XC := fun _ => .seq c28_16 c28_18
def c28_20 : XC := fun _ => .seq c28_2 c28_19
def c28_21 : XC := fun _ => .seq c28_1 c28_20
def m_spec_l11Copy : MCode := c28_21 ()
def h_spec_l11Copy : Hints := [(0, [0], [], [], []), (1, [0,3], [], [], []), (2, [0,3,4], [], [], []), (3, [0,3,4,10], [], [], []), (5, [0,3,4,5], [], [], []), (6, [0,3,4], [], [], []), (4, [0,3,4], [], [], []), (7, [2], [], [], [])]
def r_spec_l11Copy : List RV := [.t 2]
abbrev n_spec_l11Copy : Nat := 28
theorem k_spec_l11Copy : Known Pr mu n_spec_l11Copy m_spec_l11Copy r_spec_l11Copy Go.Proofs.Try.f28.ntmps := .of h_spec_l11Copy hm Go.Proofs.Try.func28
def c29_1 : XC := fun _ => .region [] [xo 2 (.mv (xb false))] [0]
def c29_2 : XC := fun _ => .region [] [xo 3 (.mv (xi 0))] [0,3]
def c29_3 : XC := fun _ => .region [] [xo 4 (.mv (xt 3)),
 xo 5 (.mv (xt 0)),
 xo 6 (.len false (xt 5)),
 xo 7 (.bin .lss (xt 4) (xt 6))] [0,3,7]
def c29_4 : XC := fun _ => .cond (xt 7) (fun _ => .skip) (fun _ => .exit 0)
def c29_5 : XC := fun _ => .seq c29_3 c29_4
def c29_6 : XC := fun _ => .region [] [xo 10 (.mv (xt 0)),
 xo 11 (.mv (xt 3)),
 xo 12 (.ia (xt 10) (xt 11) 6),
 xo 13 (.ld (xt 12) 6 true),
 xo 14 (.call 49 [(xt 13)]),
 xo 15 (.not (xt 14))] [0,3,15]
def c29_7 : XC := fun _ => .region [] [xo 2 (.mv (xb false))] [2]
def c29_8 : XC := fun _ => .seq c29_7 (fun _ => .ret)
def c29_9 : XC := fun _ => .cond (xt 15) c29_8 (fun _ => .skip)
def c29_10 : XC := fun _ => .seq c29_6 c29_9
def c29_11 : XC := fun _ => .block 1 c29_10
def c29_12 : XC := fun _ => .region [] [xo 8 (.mv (xt 3)),
 xo 9 (.bin .add (xt 8) (xi 1)),
 xo 3 (.mv (xt 9))] [0,3]
def c29_13 : XC := fun _ => .seq c29_11 c29_12
def c29_14 : XC := fun _ => .seq c29_5 c29_13
def c29_15 : XC := fun _ => .loop c29_14
def c29_16 : XC := fun _ => .block 0 c29_15
def c29_17 : XC := fun _ => .seq c29_2 c29_16
def c29_18 : XC := fun _ => .region [] [xo 16 (.mv (xt 0)),
 xo 17 (.len false (xt 16)),
 xo 18 (.bin .eql (xt 17) (xi 3)),
 xo 2 (.mv (xt 18))] [2]
def c29_19 : XC := fun _ => .seq c29_18 (fun _ => .ret)
def c29_20 : XC := fun _ => .seq c29_17 c29_19
def c29_21 : XC := fun _ => .seq c29_1 c29_20
def m_spec_AreAcceptors : MCode := c29_21 ()
def h_spec_AreAcceptors : Hints := [(0, [0], [], [], []), (1, [0,3], [], [], []), (2, [0,3,7], [], [], []), (4, [0,3,15], [], [], []), (5, [2], [], [], []), (3, [0,3], [], [], []), (6, [2], [], [], [])]
def r_spec_AreAcceptors : List RV := [.t 2]
abbrev n_spec_AreAcceptors : Nat := 29
theorem k_spec_AreAcceptors : Known Pr mu n_spec_AreAcceptors m_spec_AreAcceptors r_spec_AreAcceptors Go.Proofs.Try.f29.ntmps := .of h_spec_AreAcceptors hm Go.Proofs.Try.func29
def c30_1 : XC := fun _ => .region [] [xo 1 (.box (xt 0)),
 xo 2 (.mv (xb false))] [1]
def c30_2 : XC := fun _ => .region [] [xo 3 (.fa (xt 1) 0),
 xo 4 (.ld (xt 3) 1 false),
 xo 5 (.call 31 [(xt 4), (xi 1), (xi 20)]),
 xo 6 (.mv (xt 5)),
 ⟨(some 7), .fa (xt 1) 2, (some (6, true)), []⟩,
 ⟨(some 8), .ld (xt 7) 1 false, (some (6, true)), []⟩,
 ⟨(some 9), .call 50 [(xt 8)], (some (6, true)), []⟩,
 xo 10 (.pick (xt 6) (xt 9) (xb false)),
 xo 11 (.mv (xt 10)),
 ⟨(some 12), .fa (xt 1) 3, (some (11, true)), []⟩,
 ⟨(some 13), .ld (xt 12) 1 false, (some (11, true)), []⟩,
 ⟨(some 14), .call 50 [(xt 13)], (some (11, true)), []⟩,
 xo 15 (.pick (xt 11) (xt 14) (xb false)),
 xo 16 (.mv (xt 15)),
 ⟨(some 17), .fa (xt 1) 2, (some (16, true)), []⟩,
 ⟨(some 18), .ld (xt 17) 1 false, (some (16, true)), []⟩,
 ⟨(some 19), .fa (xt 1) 1, (some (16, true)), []⟩,
 ⟨(some 20), .ld (xt 19) 1 false, (some (16, true)), []⟩,
 ⟨(some 21), .call 33 [(xt 18), (xt 20)], (some (16, true)), []⟩,
 xo 22 (.pick (xt 16) (xt 21) (xb false)),
 xo 23 (.mv (xt 22)),
 ⟨(some 24), .fa (xt 1) 2, (some (23, true)), []⟩,
 ⟨(some 25), .ld (xt 24) 1 false, (some (23, true)), []⟩,
 ⟨(some 26), .fa (xt 1) 3, (some (23, true)), []⟩,
 ⟨(some 27), .ld (xt 26) 1 false, (some (23, true)), []⟩,
 ⟨(some 28), .call 51 [(xt 25), (xt 27)], (some (23, true)), []⟩,
 ⟨(some 29), .len false (xt 28), (some (23, true)), []⟩,
 ⟨(some 30), .bin .eql (xt 29) (xi 0), (some (23, true)), []⟩,
 xo 31 (.pick (xt 23) (xt 30) (xb false)),
 xo 2 (.mv (xt 31))] [2]
def c30_3 : XC := fun _ => .seq c30_2 (fun _ => .ret)
def c30_4 : XC := fun _ => .seq c30_1 c30_3
def m_spec_IsValidConfig : MCode := c30_4 ()
def h_spec_IsValidConfig : Hints := [(0, [1], [], [], []), (1, [2], [], [], [])]
def r_spec_IsValidConfig : List RV := [.t 2]
abbrev n_spec_IsValidConfig : Nat := 30
theorem k_spec_IsValidConfig : Known Pr mu n_spec_IsValidConfig m_spec_IsValidConfig r_spec_IsValidConfig Go.Proofs.Try.f30.ntmps := .of h_spec_IsValidConfig hm Go.Proofs.Try.func30
def c31_1 : XC := fun _ => .region [] [xo 6 (.mv (xb false))] [0,1,2]
def c31_2 : XC := fun _ => .region [] [xo 7 (.mv (xt 0)),
 xo 8 (.mv (xt 1)),
 xo 9 (.bin .geq (xt 7) (xt 8)),
 xo 10 (.mv (xt 9)),
 ⟨(some 11), .mv (xt 0), (some (10, true)), []⟩,
 ⟨(some 12), .mv (xt 2), (some (10, true)), []⟩,
 ⟨(some 13), .bin .leq (xt 11) (xt 12), (some (10, true)), []⟩,
 xo 14 (.pick (xt 10) (xt 13) (xb false)),
 xo 6 (.mv (xt 14))] [6]
def c31_3 : XC := fun _ => .seq c31_2 (fun _ => .ret)
def c31_4 : XC := fun _ => .seq c31_1 c31_3
def m_spec_l1In : MCode := c31_4 ()
def h_spec_l1In : Hints := [(0, [0,1,2], [], [], []), (1, [6], [], [], [])]
def r_spec_l1In : List RV := [.t 6]
abbrev n_spec_l1In : Nat := 31
theorem k_spec_l1In : Known Pr mu n_spec_l1In m_spec_l1In r_spec_l1In Go.Proofs.Try.f31.ntmps := .of h_spec_l1In hm Go.Proofs.Try.func31
def c32_1 : XC := fun _ => .region [] [xo 1 (.box (xt 0)),
 xo 2 (.alloc [.int .i64 0, .int .i64 0, .slice none 0 0, .slice none 0 0])] [1,2]
def c32_2 : XC := fun _ => .region [] [xo 3 (.fa (xt 1) 0),
 xo 4 (.ld (xt 3) 1 false),
 ⟨(some 5), .fa (xt 1) 1, none, [0, 1]⟩,
 ⟨(some 6), .ld (xt 5) 1 false, none, [0, 1]⟩,
 xo 7 (.bsl 1 0 [.int .i64 0] []),
 ⟨(some 8), .fa (xt 1) 2, none, [0, 1, 2, 3, 4]⟩,
 ⟨(some 9), .ld (xt 8) 1 false, none, [0, 1, 2, 3, 4]⟩,
 ⟨(some 10), .appn (xt 7) (xt 9) 1 8, none, [1000000, 0, 1, 2, 3]⟩,
 xo 11 (.bsl 1 0 [.int .i64 0] []),
 ⟨(some 12), .fa (xt 1) 3, none, [0, 1, 2, 3, 4, 5, 6, 7, 8]⟩,
 ⟨(some 13), .ld (xt 12) 1 false, none, [0, 1, 2, 3, 4, 5, 6, 7, 8]⟩,
 ⟨(some 14), .appn (xt 11) (xt 13) 1 8, none, [1000000, 0, 1, 2, 3]⟩,
 xo 15 (.bld [.int .i64 0, .int .i64 0, .slice none 0 0, .slice none 0 0] [(0, 1, (xt 4)), (1, 1, (xt 6)), (2, 1, (xt 10)), (3, 1, (xt 14))]),
 xn (.sto (xt 2) (xt 15) 4)] [2]
def c32_3 : XC := fun _ => .seq c32_2 (fun _ => .ret)
def c32_4 : XC := fun _ => .seq c32_1 c32_3
def m_spec_l8Copy : MCode := c32_4 ()
def h_spec_l8Copy : Hints := [(0, [1,2], [], [], []), (1, [2], [[],[],[0,1],[0,1],[],[0,1,2,3,4],[0,1,2,3,4],[1000000,0,1,2,3],[],[0,1,2,3,4,5,6,7,8],[0,1,2,3,4,5,6,7,8],[1000000,0,1,2,3]], [], [])]
def r_spec_l8Copy : List RV := [.c 2 4 true]
abbrev n_spec_l8Copy : Nat := 32
theorem k_spec_l8Copy : Known Pr mu n_spec_l8Copy m_spec_l8Copy r_spec_l8Copy Go.Proofs.Try.f32.ntmps := .of h_spec_l8Copy hm Go.Proofs.Try.func32
def c33_1 : XC := fun _ => .region [] [xo 4 (.mv (xb false))] [0,1]
def c33_2 : XC := fun _ => .region [] [xo 5 (.mv (xi 0))] [0,1,5]
def c33_3 : XC := fun _ => .region [] [xo 6 (.mv (xt 5)),
 xo 7 (.mv (xt 0)),
 xo 8 (.len false (xt 7)),
 xo 9 (.bin .lss (xt 6) (xt 8))] [0,1,5,9]
def c33_4 : XC := fun _ => .cond (xt 9) (fun _ => .skip) (fun _ => .exit 0)
def c33_5 : XC := fun _ => .seq c33_3 c33_4
def c33_6 : XC := fun _ => .region [] [xo 12 (.mv (xt 0)),
 xo 13 (.mv (xt 5)),
 xo 14 (.ia (xt 12) (xt 13) 1),
 xo 15 (.ld (xt 14) 1 false),
 xo 16 (.mv (xt 1)),
 xo 17 (.bin .eql (xt 15) (xt 16))] [0,1,5,17]
def c33_7 : XC := fun _ => .region [] [xo 4 (.mv (xb true))] [4]
def c33_8 : XC := fun _ => .seq c33_7 (fun _ => .ret)
def c33_9 : XC := fun _ => .cond (xt 17) c33_8 (fun _ => .skip)
def c33_10 : XC := fun _ => .seq c33_6 c33_9
def c33_11 : XC := fun _ => .block 1 c33_10
def c33_12 : XC := fun _ => .region [] [xo 10 (.mv (xt 5)),
 xo 11 (.bin .add (xt 10) (xi 1)),
 xo 5 (.mv (xt 11))] [0,1,5]
def c33_13 : XC := fun _ => .seq c33_11 c33_12
def c33_14 : XC := fun _ => .seq c33_5 c33_13
def c33_15 : XC := fun _ => .loop c33_14
def c33_16 : XC := fun _ => .block 0 c33_15
def c33_17 : XC := fun _ => .seq c33_2 c33_16
def c33_18 : XC := fun _ => .region [] [xo 4 (.mv (xb false))] [4]
def c33_19 : XC := fun _ => .seq c33_18 (fun _ => .ret)
def c33_20 : XC := fun _ => .seq c33_17 c33_19
def c33_21 : XC := fun _ => .seq c33_1 c33_20
def m_spec_HasServer : MCode := c33_21 ()
def h_spec_HasServer : Hints := [(0, [0,1], [], [], []), (1, [0,1,5], [], [], []), (2, [0,1,5,9], [], [], []), (4, [0,1,5,17], [], [], []), (5, [4], [], [], []), (3, [0,1,5], [], [], []), (6, [4], [], [], [])]
def r_spec_HasServer : List RV := [.t 4]
abbrev n_spec_HasServer : Nat := 33
theorem k_spec_HasServer : Known Pr mu n_spec_HasServer m_spec_HasServer r_spec_HasServer Go.Proofs.Try.f33.ntmps := .of h_spec_HasServer hm Go.Proofs.Try.func33
def c34_1 : XC := fun _ => .region [] [xo 2 (.box (xt 0)),
 xo 4 (.alloc [.int .i64 0, .int .i64 0, .int .i64 0, .int .i64 0, .slice none 0 0, .slice none 0 0]),
 xo 5 (.mv (xb false))] [1,2,4]
def c34_2 : XC := fun _ => .region [] [xo 7 (.ld (xt 2) 6 true),
 xo 8 (.call 48 [(xt 7)]),
 xo 6 (.alloc [.int .i64 0, .int .i64 0, .int .i64 0, .int .i64 0, .slice none 0 0, .slice none 0 0]),
 xn (.sto (xt 6) (xt 8) 6)] [1,2,4,6]
def c34_3 : XC := fun _ => .region [] [xo 9 (.ld (xt 2) 6 true),
 xo 10 (.call 49 [(xt 9)]),
 xo 11 (.not (xt 10)),
 xo 12 (.mv (xt 11)),
 ⟨(some 13), .mv (xt 1), (some (12, false)), []⟩,
 ⟨(some 14), .call 31 [(xt 13), (xi 1), (xi 99)], (some (12, false)), []⟩,
 ⟨(some 15), .not (xt 14), (some (12, false)), []⟩,
 xo 16 (.pick (xt 12) (xb true) (xt 15)),
 xo 17 (.mv (xt 16)),
 ⟨(some 18), .mv (xt 1), (some (17, false)), []⟩,
 ⟨(some 19), .fa (xt 2) 0, (some (17, false)), []⟩,
 ⟨(some 20), .ld (xt 19) 1 false, (some (17, false)), []⟩,
 ⟨(some 21), .bin .leq (xt 18) (xt 20), (some (17, false)), []⟩,
 xo 22 (.pick (xt 17) (xb true) (xt 21))] [1,4,6,22]
def c34_4 : XC := fun _ => .region [] [xo 23 (.ld (xt 6) 6 true),
 xn (.sto (xt 4) (xt 23) 6),
 xo 5 (.mv (xb false))] [4,5]
def c34_5 : XC := fun _ => .seq c34_4 (fun _ => .ret)
def c34_6 : XC := fun _ => .cond (xt 22) c34_5 (fun _ => .skip)
def c34_7 : XC := fun _ => .seq c34_3 c34_6
def c34_8 : XC := fun _ => .region [] [xo 24 (.mv (xt 1)),
 xo 25 (.fa (xt 6) 0),
 xn (.sto (xt 25) (xt 24) 1)] [4,6]
def c34_9 : XC := fun _ => .region [] [xo 26 (.ld (xt 6) 6 true),
 xn (.sto (xt 4) (xt 26) 6),
 xo 5 (.mv (xb true))] [4,5]
def c34_10 : XC := fun _ => .seq c34_9 (fun _ => .ret)
def c34_11 : XC := fun _ => .seq c34_8 c34_10
def c34_12 : XC := fun _ => .seq c34_7 c34_11
def c34_13 : XC := fun _ => .seq c34_2 c34_12
def c34_14 : XC := fun _ => .seq c34_1 c34_13
def m_spec_Prepare : MCode := c34_14 ()
def h_spec_Prepare : Hints := [(0, [1,2,4], [], [], []), (1, [1,2,4,6], [], [], []), (2, [1,4,6,22], [], [], []), (3, [4,5], [], [], []), (4, [4,6], [], [], []), (5, [4,5], [], [], [])]
def r_spec_Prepare : List RV := [.c 4 6 true, .t 5]
abbrev n_spec_Prepare : Nat := 34
theorem k_spec_Prepare : Known Pr mu n_spec_Prepare m_spec_Prepare r_spec_Prepare Go.Proofs.Try.f34.ntmps := .of h_spec_Prepare hm Go.Proofs.Try.func34
def c35_1 : XC := fun _ => .region [] [xo 3 (.box (xt 0)),
 xo 5 (.box (xt 2)),
 xo 6 (.alloc [.int .i64 0, .int .i64 0, .int .i64 0, .int .i64 0, .slice none 0 0, .slice none 0 0]),
 xo 7 (.mv (xb false))] [1,3,5,6]
def c35_2 : XC := fun _ => .region [] [xo 8 (.ld (xt 3) 6 true),
 xo 9 (.call 49 [(xt 8)]),
 xo 10 (.not (xt 9)),
 xo 11 (.mv (xt 10)),
 ⟨(some 12), .mv (xt 1), (some (11, false)), []⟩,
 ⟨(some 13), .call 31 [(xt 12), (xi 1), (xi 99)], (some (11, false)), []⟩,
 ⟨(some 14), .not (xt 13), (some (11, false)), []⟩,
 xo 15 (.pick (xt 11) (xb true) (xt 14)),
 xo 16 (.mv (xt 15)),
 ⟨(some 17), .ld (xt 5) 4 true, (some (16, false)), []⟩,
 ⟨(some 18), .call 30 [(xt 17)], (some (16, false)), []⟩,
 ⟨(some 19), .not (xt 18), (some (16, false)), []⟩,
 xo 20 (.pick (xt 16) (xb true) (xt 19)),
 xo 21 (.mv (xt 20)),
 ⟨(some 22), .mv (xt 1), (some (21, false)), []⟩,
 ⟨(some 23), .fa (xt 3) 0, (some (21, false)), []⟩,
 ⟨(some 24), .ld (xt 23) 1 false, (some (21, false)), []⟩,
 ⟨(some 25), .bin .lss (xt 22) (xt 24), (some (21, false)), []⟩,
 xo 26 (.pick (xt 21) (xb true) (xt 25))] [1,3,5,6,26]
def c35_3 : XC := fun _ => .region [] [xo 27 (.ld (xt 3) 6 true),
 xo 28 (.call 48 [(xt 27)]),
 xn (.sto (xt 6) (xt 28) 6),
 xo 7 (.mv (xb false))] [6,7]
def c35_4 : XC := fun _ => .seq c35_3 (fun _ => .ret)
def c35_5 : XC := fun _ => .cond (xt 26) c35_4 (fun _ => .skip)
def c35_6 : XC := fun _ => .seq c35_2 c35_5
def c35_7 : XC := fun _ => .region [] [xo 29 (.mv (xt 1)),
 xo 30 (.mv (xt 1)),
 xo 31 (.ld (xt 5) 4 true),
 xo 32 (.call 32 [(xt 31)]),
 xo 33 (.bld [.int .i64 0, .int .i64 0, .int .i64 0, .int .i64 0, .slice none 0 0, .slice none 0 0] [(0, 1, (xt 29)), (1, 1, (xt 30)), (2, 4, (xt 32))]),
 xn (.sto (xt 6) (xt 33) 6),
 xo 7 (.mv (xb true))] [6,7]
def c35_8 : XC := fun _ => .seq c35_7 (fun _ => .ret)
def c35_9 : XC := fun _ => .seq c35_6 c35_8
def c35_10 : XC := fun _ => .seq c35_1 c35_9
def m_spec_Accept : MCode := c35_10 ()
def h_spec_Accept : Hints := [(0, [1,3,5,6], [], [], []), (1, [1,3,5,6,26], [], [], []), (2, [6,7], [], [], []), (3, [6,7], [], [], [])]
def r_spec_Accept : List RV := [.c 6 6 true, .t 7]
abbrev n_spec_Accept : Nat := 35
theorem k_spec_Accept : Known Pr mu n_spec_Accept m_spec_Accept r_spec_Accept Go.Proofs.Try.f35.ntmps := .of h_spec_Accept hm Go.Proofs.Try.func35
def c36_1 : XC := fun _ => .region [] [xo 2 (.mv (.const (.slice none 0 0)))] [0]
def c36_2 : XC := fun _ => .region [] [xo 5 (.mv (xt 0)),
 xo 6 (.len false (xt 5)),
 xo 7 (.mks 1 8 [.int .i64 0] (xt 6) (xt 6)),
 xo 3 (.mv (xt 7))] [0,3]
def c36_3 : XC := fun _ => .region [] [xo 4 (.mv (xi 0))] [0,3,4]
def c36_4 : XC := fun _ => .region [] [xo 8 (.mv (xt 4)),
 xo 9 (.mv (xt 0)),
 xo 10 (.len false (xt 9)),
 xo 11 (.bin .lss (xt 8) (xt 10))] [0,3,4,11]
def c36_5 : XC := fun _ => .cond (xt 11) (fun _ => .skip) (fun _ => .exit 0)
def c36_6 : XC := fun _ => .seq c36_4 c36_5
def c36_7 : XC := fun _ => .region [] [xo 14 (.mv (xt 3)),
 xo 15 (.mv (xt 4)),
 xo 16 (.mv (xt 0)),
 xo 17 (.mv (xt 4)),
 xo 18 (.ia (xt 16) (xt 17) 1),
 xo 19 (.ld (xt 18) 1 false),
 xo 20 (.ia (xt 14) (xt 15) 1),
 xn (.sto (xt 20) (xt 19) 1)] [0,3,4]
def c36_8 : XC := fun _ => .block 1 c36_7
def c36_9 : XC := fun _ => .region [] [xo 12 (.mv (xt 4)),
 xo 13 (.bin .add (xt 12) (xi 1)),
 xo 4 (.mv (xt 13))] [0,3,4]
def c36_10 : XC := fun _ => .seq c36_8 c36_9
def c36_11 : XC := fun _ => .seq c36_6 c36_10
def c36_12 : XC := fun _ => .loop c36_11
def c36_13 : XC := fun _ => .block 0 c36_12
def c36_14 : XC := fun _ => .seq c36_3 c36_13
def c36_15 : XC := fun _ => .region [] [xo 21 (.mv (xt 3)),
 xo 2 (.mv (xt 21))] [2]
def c36_16 : XC := fun _ => .seq c36_15 (fun _ => .ret)
def c36_17 : XC := fun _ => .seq c36_14 c36_16
def c36_18 : XC := fun _ => .seq c36_2 c36_17
def c36_19 : XC := fun _ => .seq c36_1 c36_18
def m_laws_toIntS : MCode := c36_19 ()
def h_laws_toIntS : Hints := [(0, [0], [], [], []), (1, [0,3], [], [], []), (2, [0,3,4], [], [], []), (3, [0,3,4,11], [], [], []), (5, [0,3,4], [], [], []), (4, [0,3,4], [], [], []), (6, [2], [], [], [])]
def r_laws_toIntS : List RV := [.t 2]
abbrev n_laws_toIntS : Nat := 36
theorem k_laws_toIntS : Known Pr mu n_laws_toIntS m_laws_toIntS r_laws_toIntS Go.Proofs.Try.f36.ntmps := .of h_laws_toIntS hm Go.Proofs.Try.func36
def c37_1 : XC := fun _ => .region [] [xo 1 (.box (xt 0)),
 xo 2 (.alloc [.int .i64 0, .int .i64 0, .slice none 0 0, .slice none 0 0])] [1,2]
def c37_2 : XC := fun _ => .region [] [xo 3 (.alloc [.int .i64 0, .int .i64 0, .slice none 0 0, .slice none 0 0])] [1,2,3]
def c37_3 : XC := fun _ => .region [] [xo 4 (.fa (xt 1) 0),
 xo 5 (.ld (xt 4) 1 false),
 xo 6 (.fa (xt 3) 0),
 xn (.sto (xt 6) (xt 5) 1)] [1,2,3]
def c37_4 : XC := fun _ => .region [] [xo 7 (.fa (xt 1) 1),
 xo 8 (.ld (xt 7) 1 false),
 xo 9 (.fa (xt 3) 1),
 xn (.sto (xt 9) (xt 8) 1)] [1,2,3]
def c37_5 : XC := fun _ => .region [] [xo 10 (.fa (xt 1) 2),
 xo 11 (.ld (xt 10) 1 false),
 xo 12 (.call 36 [(xt 11)]),
 xo 13 (.fa (xt 3) 2),
 xn (.sto (xt 13) (xt 12) 1)] [1,2,3]
def c37_6 : XC := fun _ => .region [] [xo 14 (.fa (xt 1) 3),
 xo 15 (.ld (xt 14) 1 false),
 xo 16 (.call 36 [(xt 15)]),
 xo 17 (.fa (xt 3) 3),
 xn (.sto (xt 17) (xt 16) 1)] [2,3]
def c37_7 : XC := fun _ => .region [] [xo 18 (.ld (xt 3) 4 true),
 xn (.sto (xt 2) (xt 18) 4)] [2]
def c37_8 : XC := fun _ => .seq c37_7 (fun _ => .ret)
def c37_9 : XC := fun _ => .seq c37_6 c37_8
def c37_10 : XC := fun _ => .seq c37_5 c37_9
def c37_11 : XC := fun _ => .seq c37_4 c37_10
def c37_12 : XC := fun _ => .seq c37_3 c37_11
def c37_13 : XC := fun _ => .seq c37_2 c37_12
def c37_14 : XC := fun _ => .seq c37_1 c37_13
def m_laws_toConfig : MCode := c37_14 ()
def h_laws_toConfig : Hints := [(0, [1,2], [], [], []), (1, [1,2,3], [], [], []), (2, [1,2,3], [], [], []), (3, [1,2,3], [], [], []), (4, [1,2,3], [], [], []), (5, [2,3], [], [], []), (6, [2], [], [], [])]
def r_laws_toConfig : List RV := [.c 2 4 true]
abbrev n_laws_toConfig : Nat := 37
theorem k_laws_toConfig : Known Pr mu n_laws_toConfig m_laws_toConfig r_laws_toConfig Go.Proofs.Try.f37.ntmps := .of h_laws_toConfig hm Go.Proofs.Try.func37
def c38_1 : XC := fun _ => .region [] [xo 2 (.mv (.const (.slice none 0 0)))] [0]
def c38_2 : XC := fun _ => .region [] [xo 6 (.bsl 6 0 [.int .i64 0, .int .i64 0, .int .i64 0, .int .i64 0, .slice none 0 0, .slice none 0 0] []),
 xo 3 (.mv (xt 6))] [0,3]
def c38_3 : XC := fun _ => .region [] [xo 7 (.mv (xt 0)),
 xo 8 (.len false (xt 7)),
 xo 9 (.mv (xi 0))] [3,7,8,9]
def c38_4 : XC := fun _ => .region [] [xo 10 (.bin .lss (xt 9) (xt 8))] [3,7,8,9,10]
def c38_5 : XC := fun _ => .cond (xt 10) (fun _ => .skip) (fun _ => .exit 0)
def c38_6 : XC := fun _ => .region [] [xo 11 (.ia (xt 7) (xt 9) 6),
 xo 12 (.ld (xt 11) 6 true),
 xo 5 (.alloc [.int .i64 0, .int .i64 0, .int .i64 0, .int .i64 0, .slice none 0 0, .slice none 0 0]),
 xn (.sto (xt 5) (xt 12) 6)] [3,5,7,8,9]
def c38_7 : XC := fun _ => .region [] [xo 13 (.mv (xt 3)),
 xo 14 (.ld (xt 5) 6 true),
 xo 15 (.call 52 [(xt 14)]),
 xo 16 (.bsl 6 1 [.int .i64 0, .int .i64 0, .int .i64 0, .int .i64 0, .slice none 0 0, .slice none 0 0] [(0, (xt 15))]),
 xo 17 (.app (xt 13) (xt 16) 6 80),
 xo 3 (.mv (xt 17))] [3,7,8,9]
def c38_8 : XC := fun _ => .seq c38_6 c38_7
def c38_9 : XC := fun _ => .block 1 c38_8
def c38_10 : XC := fun _ => .region [] [xo 18 (.bin .add (xt 9) (xi 1)),
 xo 9 (.mv (xt 18))] [3,7,8,9]
def c38_11 : XC := fun _ => .seq c38_9 c38_10
def c38_12 : XC := fun _ => .seq c38_5 c38_11
def c38_13 : XC := fun _ => .seq c38_4 c38_12
def c38_14 : XC := fun _ => .loop c38_13
def c38_15 : XC := fun _ => .block 0 c38_14
def c38_16 : XC := fun _ => .seq c38_3 c38_15
def c38_17 : XC := fun _ => .region [] [xo 19 (.mv (xt 3)),
 xo 2 (.mv (xt 19))] [2]
def c38_18 : XC := fun _ => .seq c38_17 (fun _ => .ret)
def c38_19 : XC := fun _ => .seq c38_16 c38_18
def c38_20 : XC := fun _ => .seq c38_2 c38_19
def c38_21 : XC := fun _ => .seq c38_1 c38_20
def m_impl_acceptorsCopy : MCode := c38_21 ()
def h_impl_acceptorsCopy : Hints := [(0, [0], [], [], []), (1, [0,3], [], [], []), (2, [3,7,8,9], [], [], []), (3, [3,7,8,9,10], [], [], []), (4, [3,5,7,8,9], [], [], []), (5, [3,7,8,9], [], [], []), (6, [3,7,8,9], [], [], []), (7, [2], [], [], [])]
def r_impl_acceptorsCopy : List RV := [.t 2]
abbrev n_impl_acceptorsCopy : Nat := 38
theorem k_impl_acceptorsCopy : Known Pr mu n_impl_acceptorsCopy m_impl_acceptorsCopy r_impl_acceptorsCopy Go.Proofs.Try.f38.ntmps := .of h_impl_acceptorsCopy hm Go.Proofs.Try.func38
def c39_1 : XC := fun _ => .region [] [xo 2 (.mv (xb false))] [0]
def c39_2 : XC := fun _ => .region [] [xo 3 (.mv (xt 0)),
 xo 4 (.len false (xt 3)),
 xo 5 (.bin .eql (xt 4) (xi 3)),
 xo 6 (.mv (xt 5)),
 ⟨(some 7), .mv (xt 0), (some (6, true)), []⟩,
 ⟨(some 8), .call 53 [(xt 7), (.func 54)], (some (6, true)), []⟩,
 ⟨(some 9), .not (xt 8), (some (6, true)), []⟩,
 xo 10 (.pick (xt 6) (xt 9) (xb false)),
 xo 2 (.mv (xt 10))] [2]
def c39_3 : XC := fun _ => .seq c39_2 (fun _ => .ret)
def c39_4 : XC := fun _ => .seq c39_1 c39_3
def m_impl_AreAcceptors : MCode := c39_4 ()
def h_impl_AreAcceptors : Hints := [(0, [0], [], [], []), (1, [2], [], [], [])]
def r_impl_AreAcceptors : List RV := [.t 2]
abbrev n_impl_AreAcceptors : Nat := 39
theorem k_impl_AreAcceptors : Known Pr mu n_impl_AreAcceptors m_impl_AreAcceptors r_impl_AreAcceptors Go.Proofs.Try.f39.ntmps := .of h_impl_AreAcceptors hm Go.Proofs.Try.func39
def c40_1 : XC := fun _ => .region [] [xo 1 (.box (xt 0)),
 xo 2 (.mv (xb false))] [1]
def c40_2 : XC := fun _ => .region [] [xo 3 (.fa (xt 1) 0),
 xo 4 (.ld (xt 3) 1 false),
 xo 5 (.call 41 [(xt 4), (xi 1), (xi 20)]),
 xo 6 (.mv (xt 5)),
 ⟨(some 7), .fa (xt 1) 2, (some (6, true)), []⟩,
 ⟨(some 8), .ld (xt 7) 1 false, (some (6, true)), []⟩,
 ⟨(some 9), .call 56 [(xt 8)], (some (6, true)), []⟩,
 xo 10 (.pick (xt 6) (xt 9) (xb false)),
 xo 11 (.mv (xt 10)),
 ⟨(some 12), .fa (xt 1) 3, (some (11, true)), []⟩,
 ⟨(some 13), .ld (xt 12) 1 false, (some (11, true)), []⟩,
 ⟨(some 14), .call 56 [(xt 13)], (some (11, true)), []⟩,
 xo 15 (.pick (xt 11) (xt 14) (xb false)),
 xo 16 (.mv (xt 15)),
 ⟨(some 17), .fa (xt 1) 2, (some (16, true)), []⟩,
 ⟨(some 18), .ld (xt 17) 1 false, (some (16, true)), []⟩,
 ⟨(some 19), .fa (xt 1) 1, (some (16, true)), []⟩,
 ⟨(some 20), .ld (xt 19) 1 false, (some (16, true)), []⟩,
 ⟨(some 21), .call 43 [(xt 18), (xt 20)], (some (16, true)), []⟩,
 xo 22 (.pick (xt 16) (xt 21) (xb false)),
 xo 23 (.mv (xt 22)),
 ⟨(some 24), .fa (xt 1) 2, (some (23, true)), []⟩,
 ⟨(some 25), .ld (xt 24) 1 false, (some (23, true)), []⟩,
 ⟨(some 26), .fa (xt 1) 3, (some (23, true)), []⟩,
 ⟨(some 27), .ld (xt 26) 1 false, (some (23, true)), []⟩,
 ⟨(some 28), .call 57 [(xt 25), (xt 27)], (some (23, true)), []⟩,
 ⟨(some 29), .len false (xt 28), (some (23, true)), []⟩,
 ⟨(some 30), .bin .eql (xt 29) (xi 0), (some (23, true)), []⟩,
 xo 31 (.pick (xt 23) (xt 30) (xb false)),
 xo 2 (.mv (xt 31))] [2]
def c40_3 : XC := fun _ => .seq c40_2 (fun _ => .ret)
def c40_4 : XC := fun _ => .seq c40_1 c40_3
def m_impl_IsValidConfig : MCode := c40_4 ()
def h_impl_IsValidConfig : Hints := [(0, [1], [], [], []), (1, [2], [], [], [])]
def r_impl_IsValidConfig : List RV := [.t 2]
abbrev n_impl_IsValidConfig : Nat := 40
theorem k_impl_IsValidConfig : Known Pr mu n_impl_IsValidConfig m_impl_IsValidConfig r_impl_IsValidConfig Go.Proofs.Try.f40.ntmps := .of h_impl_IsValidConfig hm Go.Proofs.Try.func40
def c41_1 : XC := fun _ => .region [] [xo 6 (.mv (xb false))] [0,1,2]
def c41_2 : XC := fun _ => .region [] [xo 7 (.mv (xt 1)),
 xo 8 (.mv (xt 0)),
 xo 9 (.bin .leq (xt 7) (xt 8)),
 xo 10 (.mv (xt 9)),
 ⟨(some 11), .mv (xt 0), (some (10, true)), []⟩,
 ⟨(some 12), .mv (xt 2), (some (10, true)), []⟩,
 ⟨(some 13), .bin .leq (xt 11) (xt 12), (some (10, true)), []⟩,
 xo 14 (.pick (xt 10) (xt 13) (xb false)),
 xo 6 (.mv (xt 14))] [6]
def c41_3 : XC := fun _ => .seq c41_2 (fun _ => .ret)
def c41_4 : XC := fun _ => .seq c41_1 c41_3
def m_impl_within : MCode := c41_4 ()
def h_impl_within : Hints := [(0, [0,1,2], [], [], []), (1, [6], [], [], [])]
def r_impl_within : List RV := [.t 6]
abbrev n_impl_within : Nat := 41
theorem k_impl_within : Known Pr mu n_impl_within m_impl_within r_impl_within Go.Proofs.Try.f41.ntmps := .of h_impl_within hm Go.Proofs.Try.func41
def c42_1 : XC := fun _ => .region [] [xo 2 (.box (xt 0)),
 xo 4 (.alloc [.int .i64 0, .int .i64 0, .int .i64 0, .int .i64 0, .slice none 0 0, .slice none 0 0]),
 xo 5 (.mv (xb false))] [1,2,4]
def c42_2 : XC := fun _ => .region [] [xo 7 (.ld (xt 2) 6 true),
 xo 8 (.call 52 [(xt 7)]),
 xo 6 (.alloc [.int .i64 0, .int .i64 0, .int .i64 0, .int .i64 0, .slice none 0 0, .slice none 0 0]),
 xn (.sto (xt 6) (xt 8) 6)] [1,2,4,6]
def c42_3 : XC := fun _ => .region [] [xo 9 (.ld (xt 2) 6 true),
 xo 10 (.call 55 [(xt 9)]),
 xo 11 (.not (xt 10)),
 xo 12 (.mv (xt 11)),
 ⟨(some 13), .mv (xt 1), (some (12, false)), []⟩,
 ⟨(some 14), .call 41 [(xt 13), (xi 1), (xi 99)], (some (12, false)), []⟩,
 ⟨(some 15), .not (xt 14), (some (12, false)), []⟩,
 xo 16 (.pick (xt 12) (xb true) (xt 15)),
 xo 17 (.mv (xt 16)),
 ⟨(some 18), .mv (xt 1), (some (17, false)), []⟩,
 ⟨(some 19), .fa (xt 2) 0, (some (17, false)), []⟩,
 ⟨(some 20), .ld (xt 19) 1 false, (some (17, false)), []⟩,
 ⟨(some 21), .bin .leq (xt 18) (xt 20), (some (17, false)), []⟩,
 xo 22 (.pick (xt 17) (xb true) (xt 21))] [1,4,6,22]
def c42_4 : XC := fun _ => .region [] [xo 23 (.ld (xt 6) 6 true),
 xn (.sto (xt 4) (xt 23) 6),
 xo 5 (.mv (xb false))] [4,5]
def c42_5 : XC := fun _ => .seq c42_4 (fun _ => .ret)
def c42_6 : XC := fun _ => .cond (xt 22) c42_5 (fun _ => .skip)
def c42_7 : XC := fun _ => .seq c42_3 c42_6
def c42_8 : XC := fun _ => .region [] [xo 24 (.mv (xt 1)),
 xo 25 (.fa (xt 6) 0),
 xn (.sto (xt 25) (xt 24) 1)] [4,6]
def c42_9 : XC := fun _ => .region [] [xo 26 (.ld (xt 6) 6 true),
 xn (.sto (xt 4) (xt 26) 6),
 xo 5 (.mv (xb true))] [4,5]
def c42_10 : XC := fun _ => .seq c42_9 (fun _ => .ret)
def c42_11 : XC := fun _ => .seq c42_8 c42_10
def c42_12 : XC := fun _ => .seq c42_7 c42_11
def c42_13 : XC := fun _ => .seq c42_2 c42_12
def c42_14 : XC := fun _ => .seq c42_1 c42_13
def m_impl_Prepare : MCode := c42_14 ()
def h_impl_Prepare : Hints := [(0, [1,2,4], [], [], []), (1, [1,2,4,6], [], [], []), (2, [1,4,6,22], [], [], []), (3, [4,5], [], [], []), (4, [4,6], [], [], []), (5, [4,5], [], [], [])]
def r_impl_Prepare : List RV := [.c 4 6 true, .t 5]
abbrev n_impl_Prepare : Nat := 42
theorem k_impl_Prepare : Known Pr mu n_impl_Prepare m_impl_Prepare r_impl_Prepare Go.Proofs.Try.f42.ntmps := .of h_impl_Prepare hm Go.Proofs.Try.func42
def c43_1 : XC := fun _ => .region [] [xo 4 (.mv (xb false))] [0,1]
def c43_2 : XC := fun _ => .region [] [xo 5 (.mv (xt 0)),
 xo 6 (.mv (xt 1)),
 xo 7 (.call 58 [(xt 5), (xt 6)]),
 xo 4 (.mv (xt 7))] [4]
def c43_3 : XC := fun _ => .seq c43_2 (fun _ => .ret)
def c43_4 : XC := fun _ => .seq c43_1 c43_3
def m_impl_HasServer : MCode := c43_4 ()
def h_impl_HasServer : Hints := [(0, [0,1], [], [], []), (1, [4], [], [], [])]
def r_impl_HasServer : List RV := [.t 4]
abbrev n_impl_HasServer : Nat := 43
theorem k_impl_HasServer : Known Pr mu n_impl_HasServer m_impl_HasServer r_impl_HasServer Go.Proofs.Try.f43.ntmps := .of h_impl_HasServer hm Go.Proofs.Try.func43
def c44_1 : XC := fun _ => .region [] [xo 3 (.box (xt 0)),
 xo 5 (.box (xt 2)),
 xo 6 (.alloc [.int .i64 0, .int .i64 0, .int .i64 0, .int .i64 0, .slice none 0 0, .slice none 0 0]),
 xo 7 (.mv (xb false))] [1,3,5,6]
def c44_2 : XC := fun _ => .region [] [xo 8 (.ld (xt 3) 6 true),
 xo 9 (.call 55 [(xt 8)]),
 xo 10 (.not (xt 9)),
 xo 11 (.mv (xt 10)),
 ⟨(some 12), .ld (xt 5) 4 true, (some (11, false)), []⟩,
 ⟨(some 13), .call 40 [(xt 12)], (some (11, false)), []⟩,
 ⟨(some 14), .not (xt 13), (some (11, false)), []⟩,
 xo 15 (.pick (xt 11) (xb true) (xt 14)),
 xo 16 (.mv (xt 15)),
 ⟨(some 17), .mv (xt 1), (some (16, false)), []⟩,
 ⟨(some 18), .call 41 [(xt 17), (xi 1), (xi 99)], (some (16, false)), []⟩,
 ⟨(some 19), .not (xt 18), (some (16, false)), []⟩,
 xo 20 (.pick (xt 16) (xb true) (xt 19)),
 xo 21 (.mv (xt 20)),
 ⟨(some 22), .mv (xt 1), (some (21, false)), []⟩,
 ⟨(some 23), .fa (xt 3) 0, (some (21, false)), []⟩,
 ⟨(some 24), .ld (xt 23) 1 false, (some (21, false)), []⟩,
 ⟨(some 25), .bin .lss (xt 22) (xt 24), (some (21, false)), []⟩,
 xo 26 (.pick (xt 21) (xb true) (xt 25))] [1,3,5,6,26]
def c44_3 : XC := fun _ => .region [] [xo 27 (.ld (xt 3) 6 true),
 xo 28 (.call 52 [(xt 27)]),
 xn (.sto (xt 6) (xt 28) 6),
 xo 7 (.mv (xb false))] [6,7]
def c44_4 : XC := fun _ => .seq c44_3 (fun _ => .ret)
def c44_5 : XC := fun _ => .cond (xt 26) c44_4 (fun _ => .skip)
def c44_6 : XC := fun _ => .seq c44_2 c44_5
def c44_7 : XC := fun _ => .region [] [xo 29 (.mv (xt 1)),
 xo 30 (.mv (xt 1)),
 xo 31 (.ld (xt 5) 4 true),
 xo 32 (.call 45 [(xt 31)]),
 xo 33 (.bld [.int .i64 0, .int .i64 0, .int .i64 0, .int .i64 0, .slice none 0 0, .slice none 0 0] [(0, 1, (xt 29)), (1, 1, (xt 30)), (2, 4, (xt 32))]),
 xn (.sto (xt 6) (xt 33) 6),
 xo 7 (.mv (xb true))] [6,7]
def c44_8 : XC := fun _ => .seq c44_7 (fun _ => .ret)
def c44_9 : XC := fun _ => .seq c44_6 c44_8
def c44_10 : XC := fun _ => .seq c44_1 c44_9
def m_impl_Accept : MCode := c44_10 ()
def h_impl_Accept : Hints := [(0, [1,3,5,6], [], [], []), (1, [1,3,5,6,26], [], [], []), (2, [6,7], [], [], []), (3, [6,7], [], [], [])]
def r_impl_Accept : List RV := [.c 6 6 true, .t 7]
abbrev n_impl_Accept : Nat := 44
theorem k_impl_Accept : Known Pr mu n_impl_Accept m_impl_Accept r_impl_Accept Go.Proofs.Try.f44.ntmps := .of h_impl_Accept hm Go.Proofs.Try.func44
def c45_1 : XC := fun _ => .region [] [xo 1 (.box (xt 0)),
 xo 2 (.alloc [.int .i64 0, .int .i64 0, .slice none 0 0, .slice none 0 0])] [1,2]
def c45_2 : XC := fun _ => .region [] [xo 3 (.fa (xt 1) 0),
 xo 4 (.ld (xt 3) 1 false),
 ⟨(some 5), .fa (xt 1) 1, none, [0, 1]⟩,
 ⟨(some 6), .ld (xt 5) 1 false, none, [0, 1]⟩,
 xo 7 (.bsl 1 0 [.int .i64 0] []),
 ⟨(some 8), .fa (xt 1) 2, none, [0, 1, 2, 3, 4]⟩,
 ⟨(some 9), .ld (xt 8) 1 false, none, [0, 1, 2, 3, 4]⟩,
 ⟨(some 10), .appn (xt 7) (xt 9) 1 8, none, [1000000, 0, 1, 2, 3]⟩,
 xo 11 (.bsl 1 0 [.int .i64 0] []),
 ⟨(some 12), .fa (xt 1) 3, none, [0, 1, 2, 3, 4, 5, 6, 7, 8]⟩,
 ⟨(some 13), .ld (xt 12) 1 false, none, [0, 1, 2, 3, 4, 5, 6, 7, 8]⟩,
 ⟨(some 14), .appn (xt 11) (xt 13) 1 8, none, [1000000, 0, 1, 2, 3]⟩,
 xo 15 (.bld [.int .i64 0, .int .i64 0, .slice none 0 0, .slice none 0 0] [(0, 1, (xt 4)), (1, 1, (xt 6)), (2, 1, (xt 10)), (3, 1, (xt 14))]),
 xn (.sto (xt 2) (xt 15) 4)] [2]
def c45_3 : XC := fun _ => .seq c45_2 (fun _ => .ret)
def c45_4 : XC := fun _ => .seq c45_1 c45_3
def m_impl_configCopy : MCode := c45_4 ()
def h_impl_configCopy : Hints := [(0, [1,2], [], [], []), (1, [2], [[],[],[0,1],[0,1],[],[0,1,2,3,4],[0,1,2,3,4],[1000000,0,1,2,3],[],[0,1,2,3,4,5,6,7,8],[0,1,2,3,4,5,6,7,8],[1000000,0,1,2,3]], [], [])]
def r_impl_configCopy : List RV := [.c 2 4 true]
abbrev n_impl_configCopy : Nat := 45
theorem k_impl_configCopy : Known Pr mu n_impl_configCopy m_impl_configCopy r_impl_configCopy Go.Proofs.Try.f45.ntmps := .of h_impl_configCopy hm Go.Proofs.Try.func45
def c46_1 : XC := fun _ => .region [] [xo 2 (.box (xt 0)),
 xo 3 (.box (xt 1)),
 xo 4 (.mv (xb false))] [2,3]
def c46_2 : XC := fun _ => .region [] [xo 5 (.fa (xt 2) 0),
 xo 6 (.ld (xt 5) 1 false),
 xo 7 (.fa (xt 3) 0),
 xo 8 (.ld (xt 7) 1 false),
 xo 9 (.bin .neq (xt 6) (xt 8))] [2,3,9]
def c46_3 : XC := fun _ => .region [] [xo 4 (.mv (xb false))] [4]
def c46_4 : XC := fun _ => .seq c46_3 (fun _ => .ret)
def c46_5 : XC := fun _ => .cond (xt 9) c46_4 (fun _ => .skip)
def c46_6 : XC := fun _ => .seq c46_2 c46_5
def c46_7 : XC := fun _ => .region [] [xo 10 (.fa (xt 2) 1),
 xo 11 (.ld (xt 10) 1 false),
 xo 12 (.fa (xt 3) 1),
 xo 13 (.ld (xt 12) 1 false),
 xo 14 (.bin .neq (xt 11) (xt 13))] [2,3,14]
def c46_8 : XC := fun _ => .region [] [xo 4 (.mv (xb false))] [4]
def c46_9 : XC := fun _ => .seq c46_8 (fun _ => .ret)
def c46_10 : XC := fun _ => .cond (xt 14) c46_9 (fun _ => .skip)
def c46_11 : XC := fun _ => .seq c46_7 c46_10
def c46_12 : XC := fun _ => .region [] [xo 15 (.fa (xt 2) 2),
 xo 16 (.ld (xt 15) 1 false),
 xo 17 (.fa (xt 3) 2),
 xo 18 (.ld (xt 17) 1 false),
 xo 19 (.call 47 [(xt 16), (xt 18)]),
 xo 20 (.not (xt 19))] [2,3,20]
def c46_13 : XC := fun _ => .region [] [xo 4 (.mv (xb false))] [4]
def c46_14 : XC := fun _ => .seq c46_13 (fun _ => .ret)
def c46_15 : XC := fun _ => .cond (xt 20) c46_14 (fun _ => .skip)
def c46_16 : XC := fun _ => .seq c46_12 c46_15
def c46_17 : XC := fun _ => .region [] [xo 21 (.fa (xt 2) 3),
 xo 22 (.ld (xt 21) 1 false),
 xo 23 (.fa (xt 3) 3),
 xo 24 (.ld (xt 23) 1 false),
 xo 25 (.call 47 [(xt 22), (xt 24)]),
 xo 26 (.not (xt 25))] [26]
def c46_18 : XC := fun _ => .region [] [xo 4 (.mv (xb false))] [4]
def c46_19 : XC := fun _ => .seq c46_18 (fun _ => .ret)
def c46_20 : XC := fun _ => .cond (xt 26) c46_19 (fun _ => .skip)
def c46_21 : XC := fun _ => .seq c46_17 c46_20
def c46_22 : XC := fun _ => .region [] [xo 4 (.mv (xb true))] [4]
def c46_23 : XC := fun _ => .seq c46_22 (fun _ => .ret)
def c46_24 : XC := fun _ => .seq c46_21 c46_23
def c46_25 : XC := fun _ => .seq c46_16 c46_24
def c46_26 : XC := fun _ => .seq c46_11 c46_25
def c46_27 : XC := fun _ => .seq c46_6 c46_26
def c46_28 : XC := fun _ => .seq c46_1 c46_27
def m_laws_eqConfig : MCode := c46_28 ()
def h_laws_eqConfig : Hints := [(0, [2,3], [], [], []), (1, [2,3,9], [], [], []), (2, [4], [], [], []), (3, [2,3,14], [], [], []), (4, [4], [], [], []), (5, [2,3,20], [], [], []), (6, [4], [], [], []), (7, [26], [], [], []), (8, [4], [], [], []), (9, [4], [], [], [])]
def r_laws_eqConfig : List RV := [.t 4]
abbrev n_laws_eqConfig : Nat := 46
theorem k_laws_eqConfig : Known Pr mu n_laws_eqConfig m_laws_eqConfig r_laws_eqConfig Go.Proofs.Try.f46.ntmps := .of h_laws_eqConfig hm Go.Proofs.Try.func46
def c47_1 : XC := fun _ => .region [] [xo 4 (.mv (xb false))] [0,1]
def c47_2 : XC := fun _ => .region [] [xo 6 (.mv (xt 0)),
 xo 7 (.len false (xt 6)),
 xo 8 (.mv (xt 1)),
 xo 9 (.len false (xt 8)),
 xo 10 (.bin .neq (xt 7) (xt 9))] [0,1,10]
def c47_3 : XC := fun _ => .region [] [xo 4 (.mv (xb false))] [4]
def c47_4 : XC := fun _ => .seq c47_3 (fun _ => .ret)
def c47_5 : XC := fun _ => .cond (xt 10) c47_4 (fun _ => .skip)
def c47_6 : XC := fun _ => .seq c47_2 c47_5
def c47_7 : XC := fun _ => .region [] [xo 5 (.mv (xi 0))] [0,1,5]
def c47_8 : XC := fun _ => .region [] [xo 11 (.mv (xt 5)),
 xo 12 (.mv (xt 0)),
 xo 13 (.len false (xt 12)),
 xo 14 (.bin .lss (xt 11) (xt 13))] [0,1,5,14]
def c47_9 : XC := fun _ => .cond (xt 14) (fun _ => .skip) (fun _ => .exit 0)
def c47_10 : XC := fun _ => .seq c47_8 c47_9
def c47_11 : XC := fun _ => .region [] [xo 17 (.mv (xt 0)),
 xo 18 (.mv (xt 5)),
 xo 19 (.ia (xt 17) (xt 18) 1),
 xo 20 (.ld (xt 19) 1 false),
 xo 21 (.mv (xt 1)),
 xo 22 (.mv (xt 5)),
 ⟨(some 23), .ia (xt 21) (xt 22) 1, none, [0, 1, 2, 3]⟩,
 ⟨(some 24), .ld (xt 23) 1 false, none, [0, 1, 2, 3]⟩,
 xo 25 (.bin .neq (xt 20) (xt 24))] [0,1,5,25]
def c47_12 : XC := fun _ => .region [] [xo 4 (.mv (xb false))] [4]
def c47_13 : XC := fun _ => .seq c47_12 (fun _ => .ret)
def c47_14 : XC := fun _ => .cond (xt 25) c47_13 (fun _ => .skip)
def c47_15 : XC := fun _ => .seq c47_11 c47_14
def c47_16 : XC := fun _ => .block 1 c47_15
def c47_17 : XC := fun _ => .region [] [xo 15 (.mv (xt 5)),
 xo 16 (.bin .add (xt 15) (xi 1)),
 xo 5 (.mv (xt 16))] [0,1,5]
def c47_18 : XC := fun _ => .seq c47_16 c47_17
def c47_19 : XC := fun _ => .seq c47_10 c47_18
def c47_20 : XC := fun _ => .loop c47_19
def c47_21 : XC := fun _ => .block 0 c47_20
def c47_22 : XC := fun _ => .seq c47_7 c47_21
def c47_23 : XC := fun _ => .region [] [xo 4 (.mv (xb true))] [4]
def c47_24 : XC := fun _ => .seq c47_23 (fun _ => .ret)
def c47_25 : XC := fun _ => .seq c47_22 c47_24
def c47_26 : XC := fun _ => .seq c47_6 c47_25
def c47_27 : XC := fun _ => .seq c47_1 c47_26
def m_laws_eqIntS : MCode := c47_27 ()
def h_laws_eqIntS : Hints := [(0, [0,1], [], [], []), (1, [0,1,10], [], [], []), (2, [4], [], [], []), (3, [0,1,5], [], [], []), (4, [0,1,5,14], [], [], []), (6, [0,1,5,25], [[],[],[],[],[],[],[0,1,2,3],[0,1,2,3]], [], []), (7, [4], [], [], []), (5, [0,1,5], [], [], []), (8, [4], [], [], [])]
def r_laws_eqIntS : List RV := [.t 4]
abbrev n_laws_eqIntS : Nat := 47
theorem k_laws_eqIntS : Known Pr mu n_laws_eqIntS m_laws_eqIntS r_laws_eqIntS Go.Proofs.Try.f47.ntmps := .of h_laws_eqIntS hm Go.Proofs.Try.func47
def c48_1 : XC := fun _ => .region [] [xo 1 (.box (xt 0)),
 xo 2 (.alloc [.int .i64 0, .int .i64 0, .int .i64 0, .int .i64 0, .slice none 0 0, .slice none 0 0])] [1,2]
def c48_2 : XC := fun _ => .region [] [xo 3 (.fa (xt 1) 0),
 xo 4 (.ld (xt 3) 1 false),
 ⟨(some 5), .fa (xt 1) 1, none, [0, 1]⟩,
 ⟨(some 6), .ld (xt 5) 1 false, none, [0, 1]⟩,
 ⟨(some 7), .fa (xt 1) 2, none, [0, 1, 2, 3]⟩,
 ⟨(some 8), .ld (xt 7) 4 true, none, [0, 1, 2, 3]⟩,
 ⟨(some 9), .call 32 [(xt 8)], none, [0, 1, 2, 3]⟩,
 xo 10 (.bld [.int .i64 0, .int .i64 0, .int .i64 0, .int .i64 0, .slice none 0 0, .slice none 0 0] [(0, 1, (xt 4)), (1, 1, (xt 6)), (2, 4, (xt 9))]),
 xn (.sto (xt 2) (xt 10) 6)] [2]
def c48_3 : XC := fun _ => .seq c48_2 (fun _ => .ret)
def c48_4 : XC := fun _ => .seq c48_1 c48_3
def m_spec_l10Copy : MCode := c48_4 ()
def h_spec_l10Copy : Hints := [(0, [1,2], [], [], []), (1, [2], [[],[],[0,1],[0,1],[0,1,2,3],[0,1,2,3],[0,1,2,3]], [], [])]
def r_spec_l10Copy : List RV := [.c 2 6 true]
abbrev n_spec_l10Copy : Nat := 48
theorem k_spec_l10Copy : Known Pr mu n_spec_l10Copy m_spec_l10Copy r_spec_l10Copy Go.Proofs.Try.f48.ntmps := .of h_spec_l10Copy hm Go.Proofs.Try.func48
def c49_1 : XC := fun _ => .region [] [xo 1 (.box (xt 0)),
 xo 2 (.mv (xb false))] [1]
def c49_2 : XC := fun _ => .region [] [xo 3 (.fa (xt 1) 0),
 xo 4 (.ld (xt 3) 1 false),
 xo 5 (.call 31 [(xt 4), (xi 0), (xi 99)]),
 xo 6 (.not (xt 5)),
 xo 7 (.mv (xt 6)),
 ⟨(some 8), .fa (xt 1) 1, (some (7, false)), []⟩,
 ⟨(some 9), .ld (xt 8) 1 false, (some (7, false)), []⟩,
 ⟨(some 10), .fa (xt 1) 0, (some (7, false)), []⟩,
 ⟨(some 11), .ld (xt 10) 1 false, (some (7, false)), []⟩,
 ⟨(some 12), .call 31 [(xt 9), (xi 0), (xt 11)], (some (7, false)), []⟩,
 ⟨(some 13), .not (xt 12), (some (7, false)), []⟩,
 xo 14 (.pick (xt 7) (xb true) (xt 13))] [1,14]
def c49_3 : XC := fun _ => .region [] [xo 2 (.mv (xb false))] [2]
def c49_4 : XC := fun _ => .seq c49_3 (fun _ => .ret)
def c49_5 : XC := fun _ => .cond (xt 14) c49_4 (fun _ => .skip)
def c49_6 : XC := fun _ => .seq c49_2 c49_5
def c49_7 : XC := fun _ => .region [] [xo 15 (.fa (xt 1) 1),
 xo 16 (.ld (xt 15) 1 false),
 xo 17 (.bin .eql (xt 16) (xi 0))] [1,17]
def c49_8 : XC := fun _ => .region [] [xo 18 (.fa (xt 1) 2),
 xo 19 (.ld (xt 18) 4 true),
 xo 20 (.bld [.int .i64 0, .int .i64 0, .slice none 0 0, .slice none 0 0] []),
 xo 21 (.call 59 [(xt 19), (xt 20)]),
 xo 2 (.mv (xt 21))] [2]
def c49_9 : XC := fun _ => .seq c49_8 (fun _ => .ret)
def c49_10 : XC := fun _ => .cond (xt 17) c49_9 (fun _ => .skip)
def c49_11 : XC := fun _ => .seq c49_7 c49_10
def c49_12 : XC := fun _ => .region [] [xo 22 (.fa (xt 1) 2),
 xo 23 (.ld (xt 22) 4 true),
 xo 24 (.call 30 [(xt 23)]),
 xo 2 (.mv (xt 24))] [2]
def c49_13 : XC := fun _ => .seq c49_12 (fun _ => .ret)
def c49_14 : XC := fun _ => .seq c49_11 c49_13
def c49_15 : XC := fun _ => .seq c49_6 c49_14
def c49_16 : XC := fun _ => .seq c49_1 c49_15
def m_spec_IsValidAcceptor : MCode := c49_16 ()
def h_spec_IsValidAcceptor : Hints := [(0, [1], [], [], []), (1, [1,14], [], [], []), (2, [2], [], [], []), (3, [1,17], [], [], []), (4, [2], [], [], []), (5, [2], [], [], [])]
def r_spec_IsValidAcceptor : List RV := [.t 2]
abbrev n_spec_IsValidAcceptor : Nat := 49
theorem k_spec_IsValidAcceptor : Known Pr mu n_spec_IsValidAcceptor m_spec_IsValidAcceptor r_spec_IsValidAcceptor Go.Proofs.Try.f49.ntmps := .of h_spec_IsValidAcceptor hm Go.Proofs.Try.func49
def c50_1 : XC := fun _ => .region [] [xo 2 (.mv (xb false))] [0]
def c50_2 : XC := fun _ => .region [] [xo 3 (.mv (xi 0))] [0,3]
def c50_3 : XC := fun _ => .region [] [xo 4 (.mv (xt 3)),
 xo 5 (.mv (xt 0)),
 xo 6 (.len false (xt 5)),
 xo 7 (.bin .lss (xt 4) (xt 6))] [0,3,7]
def c50_4 : XC := fun _ => .cond (xt 7) (fun _ => .skip) (fun _ => .exit 0)
def c50_5 : XC := fun _ => .seq c50_3 c50_4
def c50_6 : XC := fun _ => .region [] [xo 10 (.mv (xt 0)),
 xo 11 (.mv (xt 3)),
 xo 12 (.ia (xt 10) (xt 11) 1),
 xo 13 (.ld (xt 12) 1 false),
 xo 14 (.call 31 [(xt 13), (xi 0), (xi 4)]),
 xo 15 (.not (xt 14)),
 xo 16 (.mv (xt 15)),
 ⟨(some 17), .mv (xt 3), (some (16, false)), []⟩,
 ⟨(some 18), .bin .gtr (xt 17) (xi 0), (some (16, false)), []⟩,
 ⟨(some 19), .mv (xt 18), (some (16, false)), []⟩,
 ⟨(some 20), .mv (xt 0), (some (19, true)), []⟩,
 ⟨(some 21), .mv (xt 3), (some (19, true)), []⟩,
 ⟨(some 22), .bin .sub (xt 21) (xi 1), (some (19, true)), []⟩,
 ⟨(some 23), .ia (xt 20) (xt 22) 1, (some (19, true)), []⟩,
 ⟨(some 24), .ld (xt 23) 1 false, (some (19, true)), []⟩,
 ⟨(some 25), .mv (xt 0), (some (19, true)), []⟩,
 ⟨(some 26), .mv (xt 3), (some (19, true)), []⟩,
 ⟨(some 27), .ia (xt 25) (xt 26) 1, (some (19, true)), [10, 11, 12, 13, 14]⟩,
 ⟨(some 28), .ld (xt 27) 1 false, (some (19, true)), [10, 11, 12, 13, 14]⟩,
 ⟨(some 29), .bin .geq (xt 24) (xt 28), (some (19, true)), []⟩,
 ⟨(some 30), .pick (xt 19) (xt 29) (xb false), (some (16, false)), []⟩,
 xo 31 (.pick (xt 16) (xb true) (xt 30))] [0,3,31]
def c50_7 : XC := fun _ => .region [] [xo 2 (.mv (xb false))] [2]
def c50_8 : XC := fun _ => .seq c50_7 (fun _ => .ret)
def c50_9 : XC := fun _ => .cond (xt 31) c50_8 (fun _ => .skip)
def c50_10 : XC := fun _ => .seq c50_6 c50_9
def c50_11 : XC := fun _ => .block 1 c50_10
def c50_12 : XC := fun _ => .region [] [xo 8 (.mv (xt 3)),
 xo 9 (.bin .add (xt 8) (xi 1)),
 xo 3 (.mv (xt 9))] [0,3]
def c50_13 : XC := fun _ => .seq c50_11 c50_12
def c50_14 : XC := fun _ => .seq c50_5 c50_13
def c50_15 : XC := fun _ => .loop c50_14
def c50_16 : XC := fun _ => .block 0 c50_15
def c50_17 : XC := fun _ => .seq c50_2 c50_16
def c50_18 : XC := fun _ => .region [] [xo 2 (.mv (xb true))] [2]
def c50_19 : XC := fun _ => .seq c50_18 (fun _ => .ret)
def c50_20 : XC := fun _ => .seq c50_17 c50_19
def c50_21 : XC := fun _ => .seq c50_1 c50_20
def m_spec_AreServers : MCode := c50_21 ()
def h_spec_AreServers : Hints := [(0, [0], [], [], []), (1, [0,3], [], [], []), (2, [0,3,7], [], [], []), (4, [0,3,31], [[],[],[],[],[],[],[],[],[],[],[],[],[],[],[],[],[],[10,11,12,13,14],[10,11,12,13,14]], [], []), (5, [2], [], [], []), (3, [0,3], [], [], []), (6, [2], [], [], [])]
def r_spec_AreServers : List RV := [.t 2]
abbrev n_spec_AreServers : Nat := 50
theorem k_spec_AreServers : Known Pr mu n_spec_AreServers m_spec_AreServers r_spec_AreServers Go.Proofs.Try.f50.ntmps := .of h_spec_AreServers hm Go.Proofs.Try.func50
def c51_1 : XC := fun _ => .region [] [xo 4 (.mv (.const (.slice none 0 0)))] [0,1]
def c51_2 : XC := fun _ => .region [] [xo 7 (.bsl 1 0 [.int .i64 0] []),
 xo 5 (.mv (xt 7))] [0,1,5]
def c51_3 : XC := fun _ => .region [] [xo 6 (.mv (xi 0))] [0,1,5,6]
def c51_4 : XC := fun _ => .region [] [xo 8 (.mv (xt 6)),
 xo 9 (.mv (xt 0)),
 xo 10 (.len false (xt 9)),
 xo 11 (.bin .lss (xt 8) (xt 10))] [0,1,5,6,11]
def c51_5 : XC := fun _ => .cond (xt 11) (fun _ => .skip) (fun _ => .exit 0)
def c51_6 : XC := fun _ => .seq c51_4 c51_5
def c51_7 : XC := fun _ => .region [] [xo 14 (.mv (xt 1)),
 xo 15 (.mv (xt 0)),
 xo 16 (.mv (xt 6)),
 xo 17 (.ia (xt 15) (xt 16) 1),
 xo 18 (.ld (xt 17) 1 false),
 xo 19 (.call 33 [(xt 14), (xt 18)])] [0,1,5,6,19]
def c51_8 : XC := fun _ => .region [] [xo 20 (.mv (xt 5)),
 xo 21 (.mv (xt 0)),
 xo 22 (.mv (xt 6)),
 xo 23 (.ia (xt 21) (xt 22) 1),
 xo 24 (.ld (xt 23) 1 false),
 xo 25 (.call 60 [(xt 20), (xt 24)]),
 xo 5 (.mv (xt 25))] [0,1,5,6]
def c51_9 : XC := fun _ => .cond (xt 19) c51_8 (fun _ => .skip)
def c51_10 : XC := fun _ => .seq c51_7 c51_9
def c51_11 : XC := fun _ => .block 1 c51_10
def c51_12 : XC := fun _ => .region [] [xo 12 (.mv (xt 6)),
 xo 13 (.bin .add (xt 12) (xi 1)),
 xo 6 (.mv (xt 13))] [0,1,5,6]
def c51_13 : XC := fun _ => .seq c51_11 c51_12
def c51_14 : XC := fun _ => .seq c51_6 c51_13
def c51_15 : XC := fun _ => .loop c51_14
def c51_16 : XC := fun _ => .block 0 c51_15
def c51_17 : XC := fun _ => .seq c51_3 c51_16
def c51_18 : XC := fun _ => .region [] [xo 26 (.mv (xt 5)),
 xo 4 (.mv (xt 26))] [4]
def c51_19 : XC := fun _ => .seq c51_18 (fun _ => .ret)
def c51_20 : XC := fun _ => .seq c51_17 c51_19
def c51_21 : XC := fun _ => .seq c51_2 c51_20
def c51_22 : XC := fun _ => .seq c51_1 c51_21
def m_spec_CommonServers : MCode := c51_22 ()
def h_spec_CommonServers : Hints := [(0, [0,1], [], [], []), (1, [0,1,5], [], [], []), (2, [0,1,5,6], [], [], []), (3, [0,1,5,6,11], [], [], []), (5, [0,1,5,6,19], [], [], []), (6, [0,1,5,6], [], [], []), (4, [0,1,5,6], [], [], []), (7, [4], [], [], [])]
def r_spec_CommonServers : List RV := [.t 4]
abbrev n_spec_CommonServers : Nat := 51
theorem k_spec_CommonServers : Known Pr mu n_spec_CommonServers m_spec_CommonServers r_spec_CommonServers Go.Proofs.Try.f51.ntmps := .of h_spec_CommonServers hm Go.Proofs.Try.func51
def c52_1 : XC := fun _ => .region [] [xo 1 (.box (xt 0)),
 xo 2 (.alloc [.int .i64 0, .int .i64 0, .int .i64 0, .int .i64 0, .slice none 0 0, .slice none 0 0])] [1,2]
def c52_2 : XC := fun _ => .region [] [xo 3 (.fa (xt 1) 0),
 xo 4 (.ld (xt 3) 1 false),
 ⟨(some 5), .fa (xt 1) 1, none, [0, 1]⟩,
 ⟨(some 6), .ld (xt 5) 1 false, none, [0, 1]⟩,
 ⟨(some 7), .fa (xt 1) 2, none, [0, 1, 2, 3]⟩,
 ⟨(some 8), .ld (xt 7) 4 true, none, [0, 1, 2, 3]⟩,
 ⟨(some 9), .call 45 [(xt 8)], none, [0, 1, 2, 3]⟩,
 xo 10 (.bld [.int .i64 0, .int .i64 0, .int .i64 0, .int .i64 0, .slice none 0 0, .slice none 0 0] [(0, 1, (xt 4)), (1, 1, (xt 6)), (2, 4, (xt 9))]),
 xn (.sto (xt 2) (xt 10) 6)] [2]
def c52_3 : XC := fun _ => .seq c52_2 (fun _ => .ret)
def c52_4 : XC := fun _ => .seq c52_1 c52_3
def m_impl_acceptorCopy : MCode := c52_4 ()
def h_impl_acceptorCopy : Hints := [(0, [1,2], [], [], []), (1, [2], [[],[],[0,1],[0,1],[0,1,2,3],[0,1,2,3],[0,1,2,3]], [], [])]
def r_impl_acceptorCopy : List RV := [.c 2 6 true]
abbrev n_impl_acceptorCopy : Nat := 52
theorem k_impl_acceptorCopy : Known Pr mu n_impl_acceptorCopy m_impl_acceptorCopy r_impl_acceptorCopy Go.Proofs.Try.f52.ntmps := .of h_impl_acceptorCopy hm Go.Proofs.Try.func52
def c53_1 : XC := fun _ => .region [] [xo 4 (.mv (xb false))] [0,1]
def c53_2 : XC := fun _ => .region [] [xo 5 (.mv (xt 0)),
 xo 6 (.mv (xt 1)),
 xo 7 (.call 61 [(xt 5), (xt 6)]),
 xo 8 (.bin .geq (xt 7) (xi 0)),
 xo 4 (.mv (xt 8))] [4]
def c53_3 : XC := fun _ => .seq c53_2 (fun _ => .ret)
def c53_4 : XC := fun _ => .seq c53_1 c53_3
def m_slices_ContainsFunc_implAcceptorimplAcceptor : MCode := c53_4 ()
def h_slices_ContainsFunc_implAcceptorimplAcceptor : Hints := [(0, [0,1], [], [], []), (1, [4], [], [], [])]
def r_slices_ContainsFunc_implAcceptorimplAcceptor : List RV := [.t 4]
abbrev n_slices_ContainsFunc_implAcceptorimplAcceptor : Nat := 53
theorem k_slices_ContainsFunc_implAcceptorimplAcceptor : Known Pr mu n_slices_ContainsFunc_implAcceptorimplAcceptor m_slices_ContainsFunc_implAcceptorimplAcceptor r_slices_ContainsFunc_implAcceptorimplAcceptor Go.Proofs.Try.f53.ntmps := .of h_slices_ContainsFunc_implAcceptorimplAcceptor hm Go.Proofs.Try.func53
def c54_1 : XC := fun _ => .region [] [xo 1 (.box (xt 0)),
 xo 2 (.mv (xb false))] [1]
def c54_2 : XC := fun _ => .region [] [xo 3 (.ld (xt 1) 6 true),
 xo 4 (.call 55 [(xt 3)]),
 xo 5 (.not (xt 4)),
 xo 2 (.mv (xt 5))] [2]
def c54_3 : XC := fun _ => .seq c54_2 (fun _ => .ret)
def c54_4 : XC := fun _ => .seq c54_1 c54_3
def m_impl_AreAcceptors_c1 : MCode := c54_4 ()
def h_impl_AreAcceptors_c1 : Hints := [(0, [1], [], [], []), (1, [2], [], [], [])]
def r_impl_AreAcceptors_c1 : List RV := [.t 2]
abbrev n_impl_AreAcceptors_c1 : Nat := 54
theorem k_impl_AreAcceptors_c1 : Known Pr mu n_impl_AreAcceptors_c1 m_impl_AreAcceptors_c1 r_impl_AreAcceptors_c1 Go.Proofs.Try.f54.ntmps := .of h_impl_AreAcceptors_c1 hm Go.Proofs.Try.func54
def c55_1 : XC := fun _ => .region [] [xo 1 (.box (xt 0)),
 xo 2 (.mv (xb false))] [1]
def c55_2 : XC := fun _ => .region [] [xo 3 (.fa (xt 1) 0),
 xo 4 (.ld (xt 3) 1 false),
 xo 5 (.call 41 [(xt 4), (xi 0), (xi 99)]),
 xo 6 (.mv (xt 5)),
 ⟨(some 7), .fa (xt 1) 1, (some (6, true)), []⟩,
 ⟨(some 8), .ld (xt 7) 1 false, (some (6, true)), []⟩,
 ⟨(some 9), .fa (xt 1) 0, (some (6, true)), []⟩,
 ⟨(some 10), .ld (xt 9) 1 false, (some (6, true)), []⟩,
 ⟨(some 11), .call 41 [(xt 8), (xi 0), (xt 10)], (some (6, true)), []⟩,
 xo 12 (.pick (xt 6) (xt 11) (xb false)),
 xo 13 (.mv (xt 12)),
 ⟨(some 14), .fa (xt 1) 1, (some (13, true)), []⟩,
 ⟨(some 15), .ld (xt 14) 1 false, (some (13, true)), []⟩,
 ⟨(some 16), .bin .eql (xt 15) (xi 0), (some (13, true)), []⟩,
 ⟨(some 17), .mv (xt 16), (some (13, true)), []⟩,
 ⟨(some 18), .fa (xt 1) 2, (some (17, true)), []⟩,
 ⟨(some 19), .ld (xt 18) 4 true, (some (17, true)), []⟩,
 ⟨(some 20), .bld [.int .i64 0, .int .i64 0, .slice none 0 0, .slice none 0 0] [], (some (17, true)), []⟩,
 ⟨(some 21), .call 62 [(xt 19), (xt 20)], (some (17, true)), []⟩,
 ⟨(some 22), .pick (xt 17) (xt 21) (xb false), (some (13, true)), []⟩,
 ⟨(some 23), .mv (xt 22), (some (13, true)), []⟩,
 ⟨(some 24), .fa (xt 1) 1, (some (23, false)), []⟩,
 ⟨(some 25), .ld (xt 24) 1 false, (some (23, false)), []⟩,
 ⟨(some 26), .bin .gtr (xt 25) (xi 0), (some (23, false)), []⟩,
 ⟨(some 27), .mv (xt 26), (some (23, false)), []⟩,
 ⟨(some 28), .fa (xt 1) 2, (some (27, true)), []⟩,
 ⟨(some 29), .ld (xt 28) 4 true, (some (27, true)), []⟩,
 ⟨(some 30), .call 40 [(xt 29)], (some (27, true)), []⟩,
 ⟨(some 31), .pick (xt 27) (xt 30) (xb false), (some (23, false)), []⟩,
 ⟨(some 32), .pick (xt 23) (xb true) (xt 31), (some (13, true)), []⟩,
 xo 33 (.pick (xt 13) (xt 32) (xb false)),
 xo 2 (.mv (xt 33))] [2]
def c55_3 : XC := fun _ => .seq c55_2 (fun _ => .ret)
def c55_4 : XC := fun _ => .seq c55_1 c55_3
def m_impl_IsValidAcceptor : MCode := c55_4 ()
def h_impl_IsValidAcceptor : Hints := [(0, [1], [], [], []), (1, [2], [], [], [])]
def r_impl_IsValidAcceptor : List RV := [.t 2]
abbrev n_impl_IsValidAcceptor : Nat := 55
theorem k_impl_IsValidAcceptor : Known Pr mu n_impl_IsValidAcceptor m_impl_IsValidAcceptor r_impl_IsValidAcceptor Go.Proofs.Try.f55.ntmps := .of h_impl_IsValidAcceptor hm Go.Proofs.Try.func55
def c56_1 : XC := fun _ => .region [] [xo 2 (.mv (xb false))] [0]
def c56_2 : XC := fun _ => .region [] [xo 5 (.mv (xt 0)),
 xo 6 (.len false (xt 5)),
 xo 7 (.mv (xi 0))] [0,5,6,7]
def c56_3 : XC := fun _ => .region [] [xo 8 (.bin .lss (xt 7) (xt 6))] [0,5,6,7,8]
def c56_4 : XC := fun _ => .cond (xt 8) (fun _ => .skip) (fun _ => .exit 0)
def c56_5 : XC := fun _ => .region [] [xo 9 (.mv (xt 7)),
 xo 10 (.ia (xt 5) (xt 7) 1),
 xo 11 (.ld (xt 10) 1 false),
 xo 3 (.mv (xt 9)),
 xo 4 (.mv (xt 11))] [0,3,4,5,6,7]
def c56_6 : XC := fun _ => .region [] [xo 12 (.mv (xt 4)),
 xo 13 (.call 41 [(xt 12), (xi 0), (xi 4)]),
 xo 14 (.not (xt 13)),
 xo 15 (.mv (xt 14)),
 ⟨(some 16), .mv (xt 3), (some (15, false)), []⟩,
 ⟨(some 17), .bin .gtr (xt 16) (xi 0), (some (15, false)), []⟩,
 ⟨(some 18), .mv (xt 17), (some (15, false)), []⟩,
 ⟨(some 19), .mv (xt 4), (some (18, true)), []⟩,
 ⟨(some 20), .mv (xt 0), (some (18, true)), []⟩,
 ⟨(some 21), .mv (xt 3), (some (18, true)), []⟩,
 ⟨(some 22), .bin .sub (xt 21) (xi 1), (some (18, true)), []⟩,
 ⟨(some 23), .ia (xt 20) (xt 22) 1, (some (18, true)), []⟩,
 ⟨(some 24), .ld (xt 23) 1 false, (some (18, true)), []⟩,
 ⟨(some 25), .bin .leq (xt 19) (xt 24), (some (18, true)), []⟩,
 ⟨(some 26), .pick (xt 18) (xt 25) (xb false), (some (15, false)), []⟩,
 xo 27 (.pick (xt 15) (xb true) (xt 26))] [0,5,6,7,27]
def c56_7 : XC := fun _ => .region [] [xo 2 (.mv (xb false))] [2]
def c56_8 : XC := fun _ => .seq c56_7 (fun _ => .ret)
def c56_9 : XC := fun _ => .cond (xt 27) c56_8 (fun _ => .skip)
def c56_10 : XC := fun _ => .seq c56_6 c56_9
def c56_11 : XC := fun _ => .seq c56_5 c56_10
def c56_12 : XC := fun _ => .block 1 c56_11
def c56_13 : XC := fun _ => .region [] [xo 28 (.bin .add (xt 7) (xi 1)),
 xo 7 (.mv (xt 28))] [0,5,6,7]
def c56_14 : XC := fun _ => .seq c56_12 c56_13
def c56_15 : XC := fun _ => .seq c56_4 c56_14
def c56_16 : XC := fun _ => .seq c56_3 c56_15
def c56_17 : XC := fun _ => .loop c56_16
def c56_18 : XC := fun _ => .block 0 c56_17
def c56_19 : XC := fun _ => .seq c56_2 c56_18
def c56_20 : XC := fun _ => .region [] [xo 2 (.mv (xb true))] [2]
def c56_21 : XC := fun _ => .seq c56_20 (fun _ => .ret)
def c56_22 : XC := fun _ => .seq c56_19 c56_21
def c56_23 : XC := fun _ => .seq c56_1 c56_22
def m_impl_AreServers : MCode := c56_23 ()
def h_impl_AreServers : Hints := [(0, [0], [], [], []), (1, [0,5,6,7], [], [], []), (2, [0,5,6,7,8], [], [], []), (3, [0,3,4,5,6,7], [], [], []), (4, [0,5,6,7,27], [], [], []), (5, [2], [], [], []), (6, [0,5,6,7], [], [], []), (7, [2], [], [], [])]
def r_impl_AreServers : List RV := [.t 2]
abbrev n_impl_AreServers : Nat := 56
theorem k_impl_AreServers : Known Pr mu n_impl_AreServers m_impl_AreServers r_impl_AreServers Go.Proofs.Try.f56.ntmps := .of h_impl_AreServers hm Go.Proofs.Try.func56
def c57_1 : XC := fun _ => .region [] [xo 4 (.mv (.const (.slice none 0 0)))] [0,1]
def c57_2 : XC := fun _ => .region [] [xo 5 (.mv (xt 0)),
 xo 6 (.mv (xt 0)),
 xo 7 (.mv (xt 1)),
 xo 8 (.call 63 [(xt 6), (xt 7)]),
 xo 9 (.call 63 [(xt 5), (xt 8)]),
 xo 4 (.mv (xt 9))] [4]
def c57_3 : XC := fun _ => .seq c57_2 (fun _ => .ret)
def c57_4 : XC := fun _ => .seq c57_1 c57_3
def m_impl_CommonServers : MCode := c57_4 ()
def h_impl_CommonServers : Hints := [(0, [0,1], [], [], []), (1, [4], [], [], [])]
def r_impl_CommonServers : List RV := [.t 4]
abbrev n_impl_CommonServers : Nat := 57
theorem k_impl_CommonServers : Known Pr mu n_impl_CommonServers m_impl_CommonServers r_impl_CommonServers Go.Proofs.Try.f57.ntmps := .of h_impl_CommonServers hm Go.Proofs.Try.func57
def c58_1 : XC := fun _ => .region [] [xo 4 (.mv (xb false))] [0,1]
def c58_2 : XC := fun _ => .region [] [xo 5 (.mv (xt 0)),
 xo 6 (.mv (xt 1)),
 xo 7 (.call 64 [(xt 5), (xt 6)]),
 xo 8 (.bin .geq (xt 7) (xi 0)),
 xo 4 (.mv (xt 8))] [4]
def c58_3 : XC := fun _ => .seq c58_2 (fun _ => .ret)
def c58_4 : XC := fun _ => .seq c58_1 c58_3
def m_slices_Contains_intint : MCode := c58_4 ()
def h_slices_Contains_intint : Hints := [(0, [0,1], [], [], []), (1, [4], [], [], [])]
def r_slices_Contains_intint : List RV := [.t 4]
abbrev n_slices_Contains_intint : Nat := 58
theorem k_slices_Contains_intint : Known Pr mu n_slices_Contains_intint m_slices_Contains_intint r_slices_Contains_intint Go.Proofs.Try.f58.ntmps := .of h_slices_Contains_intint hm Go.Proofs.Try.func58
def c59_1 : XC := fun _ => .region [] [xo 2 (.box (xt 0)),
 xo 3 (.box (xt 1)),
 xo 4 (.mv (xb false))] [2,3]
def c59_2 : XC := fun _ => .region [] [xo 5 (.fa (xt 2) 0),
 xo 6 (.ld (xt 5) 1 false),
 xo 7 (.fa (xt 3) 0),
 xo 8 (.ld (xt 7) 1 false),
 xo 9 (.bin .eql (xt 6) (xt 8)),
 xo 10 (.mv (xt 9)),
 ⟨(some 11), .fa (xt 2) 1, (some (10, true)), []⟩,
 ⟨(some 12), .ld (xt 11) 1 false, (some (10, true)), []⟩,
 ⟨(some 13), .fa (xt 3) 1, (some (10, true)), []⟩,
 ⟨(some 14), .ld (xt 13) 1 false, (some (10, true)), []⟩,
 ⟨(some 15), .bin .eql (xt 12) (xt 14), (some (10, true)), []⟩,
 xo 16 (.pick (xt 10) (xt 15) (xb false)),
 xo 17 (.mv (xt 16)),
 ⟨(some 18), .fa (xt 2) 2, (some (17, true)), []⟩,
 ⟨(some 19), .ld (xt 18) 1 false, (some (17, true)), []⟩,
 ⟨(some 20), .fa (xt 3) 2, (some (17, true)), []⟩,
 ⟨(some 21), .ld (xt 20) 1 false, (some (17, true)), []⟩,
 ⟨(some 22), .call 65 [(xt 19), (xt 21)], (some (17, true)), []⟩,
 xo 23 (.pick (xt 17) (xt 22) (xb false)),
 xo 24 (.mv (xt 23)),
 ⟨(some 25), .fa (xt 2) 3, (some (24, true)), []⟩,
 ⟨(some 26), .ld (xt 25) 1 false, (some (24, true)), []⟩,
 ⟨(some 27), .fa (xt 3) 3, (some (24, true)), []⟩,
 ⟨(some 28), .ld (xt 27) 1 false, (some (24, true)), []⟩,
 ⟨(some 29), .call 65 [(xt 26), (xt 28)], (some (24, true)), []⟩,
 xo 30 (.pick (xt 24) (xt 29) (xb false)),
 xo 4 (.mv (xt 30))] [4]
def c59_3 : XC := fun _ => .seq c59_2 (fun _ => .ret)
def c59_4 : XC := fun _ => .seq c59_1 c59_3
def m_spec_EqualConfigs : MCode := c59_4 ()
def h_spec_EqualConfigs : Hints := [(0, [2,3], [], [], []), (1, [4], [], [], [])]
def r_spec_EqualConfigs : List RV := [.t 4]
abbrev n_spec_EqualConfigs : Nat := 59
theorem k_spec_EqualConfigs : Known Pr mu n_spec_EqualConfigs m_spec_EqualConfigs r_spec_EqualConfigs Go.Proofs.Try.f59.ntmps := .of h_spec_EqualConfigs hm Go.Proofs.Try.func59
def c60_1 : XC := fun _ => .region [] [xo 4 (.mv (.const (.slice none 0 0)))] [0,1]
def c60_2 : XC := fun _ => .region [] [xo 5 (.mv (xi 0))] [0,1,5]
def c60_3 : XC := fun _ => .region [] [xo 6 (.mv (xt 5)),
 xo 7 (.mv (xt 0)),
 xo 8 (.len false (xt 7)),
 xo 9 (.bin .lss (xt 6) (xt 8)),
 xo 10 (.mv (xt 9)),
 ⟨(some 11), .mv (xt 0), (some (10, true)), []⟩,
 ⟨(some 12), .mv (xt 5), (some (10, true)), []⟩,
 ⟨(some 13), .ia (xt 11) (xt 12) 1, (some (10, true)), []⟩,
 ⟨(some 14), .ld (xt 13) 1 false, (some (10, true)), []⟩,
 ⟨(some 15), .mv (xt 1), (some (10, true)), []⟩,
 ⟨(some 16), .bin .lss (xt 14) (xt 15), (some (10, true)), []⟩,
 xo 17 (.pick (xt 10) (xt 16) (xb false))] [0,1,5,17]
def c60_4 : XC := fun _ => .cond (xt 17) (fun _ => .skip) (fun _ => .exit 0)
def c60_5 : XC := fun _ => .seq c60_3 c60_4
def c60_6 : XC := fun _ => .region [] [xo 18 (.mv (xt 5)),
 xo 19 (.bin .add (xt 18) (xi 1)),
 xo 5 (.mv (xt 19))] [0,1,5]
def c60_7 : XC := fun _ => .block 1 c60_6
def c60_8 : XC := fun _ => .seq c60_5 c60_7
def c60_9 : XC := fun _ => .loop c60_8
def c60_10 : XC := fun _ => .block 0 c60_9
def c60_11 : XC := fun _ => .region [] [xo 20 (.mv (xt 5)),
 xo 21 (.mv (xt 0)),
 xo 22 (.len false (xt 21)),
 xo 23 (.bin .lss (xt 20) (xt 22)),
 xo 24 (.mv (xt 23)),
 ⟨(some 25), .mv (xt 0), (some (24, true)), []⟩,
 ⟨(some 26), .mv (xt 5), (some (24, true)), []⟩,
 ⟨(some 27), .ia (xt 25) (xt 26) 1, (some (24, true)), []⟩,
 ⟨(some 28), .ld (xt 27) 1 false, (some (24, true)), []⟩,
 ⟨(some 29), .mv (xt 1), (some (24, true)), []⟩,
 ⟨(some 30), .bin .eql (xt 28) (xt 29), (some (24, true)), []⟩,
 xo 31 (.pick (xt 24) (xt 30) (xb false))] [0,1,5,31]
def c60_12 : XC := fun _ => .region [] [xo 32 (.bsl 1 0 [.int .i64 0] []),
 xo 33 (.mv (xt 0)),
 xo 34 (.app (xt 32) (xt 33) 1 8),
 xo 4 (.mv (xt 34))] [4]
def c60_13 : XC := fun _ => .seq c60_12 (fun _ => .ret)
def c60_14 : XC := fun _ => .cond (xt 31) c60_13 (fun _ => .skip)
def c60_15 : XC := fun _ => .seq c60_11 c60_14
def c60_16 : XC := fun _ => .region [xo 43 (.mv (xt 0)), xo 44 (.mv (xt 5)), xo 45 (.slf (xt 43) (some (xt 44)) none 1)] [xo 35 (.bsl 1 0 [.int .i64 0] []),
 xo 36 (.mv (xt 0)),
 xo 37 (.mv (xt 5)),
 ⟨(some 38), .slc false (xt 36) none (some (xt 37)) none 1, none, [0]⟩,
 ⟨(some 39), .appn (xt 35) (xt 38) 1 8, none, [1000000]⟩,
 xo 40 (.mv (xt 1)),
 xo 41 (.bsl 1 1 [.int .i64 0] [(0, (xt 40))]),
 xo 42 (.app (xt 39) (xt 41) 1 8),
 ⟨(some 43), .mv (xt 43), none, []⟩,
 ⟨(some 44), .mv (xt 44), none, []⟩,
 ⟨(some 45), .mv (xt 45), none, []⟩,
 xo 46 (.app (xt 42) (xt 45) 1 8),
 xo 4 (.mv (xt 46))] [4]
def c60_17 : XC := fun _ => .seq c60_16 (fun _ => .ret)
def c60_18 : XC := fun _ => .seq c60_15 c60_17
def c60_19 : XC := fun _ => .seq c60_10 c60_18
def c60_20 : XC := fun _ => .seq c60_2 c60_19
def c60_21 : XC := fun _ => .seq c60_1 c60_20
def m_spec_l2Put : MCode := c60_21 ()
def h_spec_l2Put : Hints := [(0, [0,1], [], [], []), (1, [0,1,5], [], [], []), (2, [0,1,5,17], [], [], []), (3, [0,1,5], [], [], []), (4, [0,1,5,31], [], [], []), (5, [4], [], [], []), (6, [4], [[],[],[],[0],[1000000]], [8,9,10], [])]
def r_spec_l2Put : List RV := [.t 4]
abbrev n_spec_l2Put : Nat := 60
theorem k_spec_l2Put : Known Pr mu n_spec_l2Put m_spec_l2Put r_spec_l2Put Go.Proofs.Try.f60.ntmps := .of h_spec_l2Put hm Go.Proofs.Try.func60
def c61_1 : XC := fun _ => .region [] [xo 4 (.mv (xi 0))] [0,1]
def c61_2 : XC := fun _ => .region [] [xo 6 (.mv (xt 0)),
 xo 7 (.len false (xt 6)),
 xo 8 (.mv (xi 0))] [0,1,7,8]
def c61_3 : XC := fun _ => .region [] [xo 9 (.bin .lss (xt 8) (xt 7))] [0,1,7,8,9]
def c61_4 : XC := fun _ => .cond (xt 9) (fun _ => .skip) (fun _ => .exit 0)
def c61_5 : XC := fun _ => .region [] [xo 10 (.mv (xt 8)),
 xo 5 (.mv (xt 10))] [0,1,5,7,8]
def c61_6 : XC := fun _ => .region [] [xo 11 (.mv (xt 1)),
 xo 12 (.mv (xt 0)),
 xo 13 (.mv (xt 5)),
 xo 14 (.ia (xt 12) (xt 13) 6),
 xo 15 (.ld (xt 14) 6 true),
 xo 16 (.callv (xt 11) [(xt 15)])] [0,1,5,7,8,16]
def c61_7 : XC := fun _ => .region [] [xo 17 (.mv (xt 5)),
 xo 4 (.mv (xt 17))] [4]
def c61_8 : XC := fun _ => .seq c61_7 (fun _ => .ret)
def c61_9 : XC := fun _ => .cond (xt 16) c61_8 (fun _ => .skip)
def c61_10 : XC := fun _ => .seq c61_6 c61_9
def c61_11 : XC := fun _ => .seq c61_5 c61_10
def c61_12 : XC := fun _ => .block 1 c61_11
def c61_13 : XC := fun _ => .region [] [xo 18 (.bin .add (xt 8) (xi 1)),
 xo 8 (.mv (xt 18))] [0,1,7,8]
def c61_14 : XC := fun _ => .seq c61_12 c61_13
def c61_15 : XC := fun _ => .seq c61_4 c61_14
def c61_16 : XC := fun _ => .seq c61_3 c61_15
def c61_17 : XC := fun _ => .loop c61_16
def c61_18 : XC := fun _ => .block 0 c61_17
def c61_19 : XC := fun _ => .seq c61_2 c61_18
def c61_20 : XC := fun _ => .region [] [xo 4 (.mv (xi (-1)))] [4]
def c61_21 : XC := fun _ => .seq c61_20 (fun _ => .ret)
def c61_22 : XC := fun _ => .seq c61_19 c61_21
def c61_23 : XC := fun _ => .seq c61_1 c61_22
def m_slices_IndexFunc_implAcceptorimplAcceptor : MCode := c61_23 ()
def h_slices_IndexFunc_implAcceptorimplAcceptor : Hints := [(0, [0,1], [], [], []), (1, [0,1,7,8], [], [], []), (2, [0,1,7,8,9], [], [], []), (3, [0,1,5,7,8], [], [], []), (4, [0,1,5,7,8,16], [], [], []), (5, [4], [], [], []), (6, [0,1,7,8], [], [], []), (7, [4], [], [], [])]
def r_slices_IndexFunc_implAcceptorimplAcceptor : List RV := [.t 4]
abbrev n_slices_IndexFunc_implAcceptorimplAcceptor : Nat := 61
theorem k_slices_IndexFunc_implAcceptorimplAcceptor : Known Pr mu n_slices_IndexFunc_implAcceptorimplAcceptor m_slices_IndexFunc_implAcceptorimplAcceptor r_slices_IndexFunc_implAcceptorimplAcceptor Go.Proofs.Try.f61.ntmps := .of h_slices_IndexFunc_implAcceptorimplAcceptor hm Go.Proofs.Try.func61
def c62_1 : XC := fun _ => .region [] [xo 2 (.box (xt 0)),
 xo 3 (.box (xt 1)),
 xo 4 (.mv (xb false))] [2,3]
def c62_2 : XC := fun _ => .region [] [xo 5 (.fa (xt 2) 0),
 xo 6 (.ld (xt 5) 1 false),
 xo 7 (.fa (xt 3) 0),
 xo 8 (.ld (xt 7) 1 false),
 xo 9 (.bin .eql (xt 6) (xt 8)),
 xo 10 (.mv (xt 9)),
 ⟨(some 11), .fa (xt 2) 1, (some (10, true)), []⟩,
 ⟨(some 12), .ld (xt 11) 1 false, (some (10, true)), []⟩,
 ⟨(some 13), .fa (xt 3) 1, (some (10, true)), []⟩,
 ⟨(some 14), .ld (xt 13) 1 false, (some (10, true)), []⟩,
 ⟨(some 15), .bin .eql (xt 12) (xt 14), (some (10, true)), []⟩,
 xo 16 (.pick (xt 10) (xt 15) (xb false)),
 xo 17 (.mv (xt 16)),
 ⟨(some 18), .fa (xt 2) 2, (some (17, true)), []⟩,
 ⟨(some 19), .ld (xt 18) 1 false, (some (17, true)), []⟩,
 ⟨(some 20), .fa (xt 3) 2, (some (17, true)), []⟩,
 ⟨(some 21), .ld (xt 20) 1 false, (some (17, true)), []⟩,
 ⟨(some 22), .call 66 [(xt 19), (xt 21)], (some (17, true)), []⟩,
 xo 23 (.pick (xt 17) (xt 22) (xb false)),
 xo 24 (.mv (xt 23)),
 ⟨(some 25), .fa (xt 2) 3, (some (24, true)), []⟩,
 ⟨(some 26), .ld (xt 25) 1 false, (some (24, true)), []⟩,
 ⟨(some 27), .fa (xt 3) 3, (some (24, true)), []⟩,
 ⟨(some 28), .ld (xt 27) 1 false, (some (24, true)), []⟩,
 ⟨(some 29), .call 66 [(xt 26), (xt 28)], (some (24, true)), []⟩,
 xo 30 (.pick (xt 24) (xt 29) (xb false)),
 xo 4 (.mv (xt 30))] [4]
def c62_3 : XC := fun _ => .seq c62_2 (fun _ => .ret)
def c62_4 : XC := fun _ => .seq c62_1 c62_3
def m_impl_EqualConfigs : MCode := c62_4 ()
def h_impl_EqualConfigs : Hints := [(0, [2,3], [], [], []), (1, [4], [], [], [])]
def r_impl_EqualConfigs : List RV := [.t 4]
abbrev n_impl_EqualConfigs : Nat := 62
theorem k_impl_EqualConfigs : Known Pr mu n_impl_EqualConfigs m_impl_EqualConfigs r_impl_EqualConfigs Go.Proofs.Try.f62.ntmps := .of h_impl_EqualConfigs hm Go.Proofs.Try.func62
def c63_1 : XC := fun _ => .region [] [xo 3 (.box (xt 1)),
 xo 4 (.mv (.const (.slice none 0 0)))] [0,3]
def c63_2 : XC := fun _ => .region [] [xo 5 (.mv (xt 0)),
 xo 6 (.call 68 [(xt 5)]),
 xo 7 (.mkf 69 [(xt 3)]),
 xo 8 (.callm 67 [(xt 6), (xt 7)]),
 xo 4 (.mv (xt 8))] [4]
def c63_3 : XC := fun _ => .seq c63_2 (fun _ => .ret)
def c63_4 : XC := fun _ => .seq c63_1 c63_3
def m_impl_WithoutServers : MCode := c63_4 ()
def h_impl_WithoutServers : Hints := [(0, [0,3], [], [], []), (1, [4], [], [], [])]
def r_impl_WithoutServers : List RV := [.t 4]
abbrev n_impl_WithoutServers : Nat := 63
theorem k_impl_WithoutServers : Known Pr mu n_impl_WithoutServers m_impl_WithoutServers r_impl_WithoutServers Go.Proofs.Try.f63.ntmps := .of h_impl_WithoutServers hm Go.Proofs.Try.func63
def c64_1 : XC := fun _ => .region [] [xo 4 (.mv (xi 0))] [0,1]
def c64_2 : XC := fun _ => .region [] [xo 6 (.mv (xt 0)),
 xo 7 (.len false (xt 6)),
 xo 8 (.mv (xi 0))] [0,1,7,8]
def c64_3 : XC := fun _ => .region [] [xo 9 (.bin .lss (xt 8) (xt 7))] [0,1,7,8,9]
def c64_4 : XC := fun _ => .cond (xt 9) (fun _ => .skip) (fun _ => .exit 0)
def c64_5 : XC := fun _ => .region [] [xo 10 (.mv (xt 8)),
 xo 5 (.mv (xt 10))] [0,1,5,7,8]
def c64_6 : XC := fun _ => .region [] [xo 11 (.mv (xt 1)),
 xo 12 (.mv (xt 0)),
 xo 13 (.mv (xt 5)),
 xo 14 (.ia (xt 12) (xt 13) 1),
 xo 15 (.ld (xt 14) 1 false),
 xo 16 (.bin .eql (xt 11) (xt 15))] [0,1,5,7,8,16]
def c64_7 : XC := fun _ => .region [] [xo 17 (.mv (xt 5)),
 xo 4 (.mv (xt 17))] [4]
def c64_8 : XC := fun _ => .seq c64_7 (fun _ => .ret)
def c64_9 : XC := fun _ => .cond (xt 16) c64_8 (fun _ => .skip)
def c64_10 : XC := fun _ => .seq c64_6 c64_9
def c64_11 : XC := fun _ => .seq c64_5 c64_10
def c64_12 : XC := fun _ => .block 1 c64_11
def c64_13 : XC := fun _ => .region [] [xo 18 (.bin .add (xt 8) (xi 1)),
 xo 8 (.mv (xt 18))] [0,1,7,8]
def c64_14 : XC := fun _ => .seq c64_12 c64_13
def c64_15 : XC := fun _ => .seq c64_4 c64_14
def c64_16 : XC := fun _ => .seq c64_3 c64_15
def c64_17 : XC := fun _ => .loop c64_16
def c64_18 : XC := fun _ => .block 0 c64_17
def c64_19 : XC := fun _ => .seq c64_2 c64_18
def c64_20 : XC := fun _ => .region [] [xo 4 (.mv (xi (-1)))] [4]
def c64_21 : XC := fun _ => .seq c64_20 (fun _ => .ret)
def c64_22 : XC := fun _ => .seq c64_19 c64_21
def c64_23 : XC := fun _ => .seq c64_1 c64_22
def m_slices_Index_intint : MCode := c64_23 ()
def h_slices_Index_intint : Hints := [(0, [0,1], [], [], []), (1, [0,1,7,8], [], [], []), (2, [0,1,7,8,9], [], [], []), (3, [0,1,5,7,8], [], [], []), (4, [0,1,5,7,8,16], [], [], []), (5, [4], [], [], []), (6, [0,1,7,8], [], [], []), (7, [4], [], [], [])]
def r_slices_Index_intint : List RV := [.t 4]
abbrev n_slices_Index_intint : Nat := 64
theorem k_slices_Index_intint : Known Pr mu n_slices_Index_intint m_slices_Index_intint r_slices_Index_intint Go.Proofs.Try.f64.ntmps := .of h_slices_Index_intint hm Go.Proofs.Try.func64
def c65_1 : XC := fun _ => .region [] [xo 4 (.mv (xb false))] [0,1]
def c65_2 : XC := fun _ => .region [] [xo 6 (.mv (xt 0)),
 xo 7 (.len false (xt 6)),
 xo 8 (.mv (xt 1)),
 xo 9 (.len false (xt 8)),
 xo 10 (.bin .neq (xt 7) (xt 9))] [0,1,10]
def c65_3 : XC := fun _ => .region [] [xo 4 (.mv (xb false))] [4]
def c65_4 : XC := fun _ => .seq c65_3 (fun _ => .ret)
def c65_5 : XC := fun _ => .cond (xt 10) c65_4 (fun _ => .skip)
def c65_6 : XC := fun _ => .seq c65_2 c65_5
def c65_7 : XC := fun _ => .region [] [xo 5 (.mv (xi 0))] [0,1,5]
def c65_8 : XC := fun _ => .region [] [xo 11 (.mv (xt 5)),
 xo 12 (.mv (xt 0)),
 xo 13 (.len false (xt 12)),
 xo 14 (.bin .lss (xt 11) (xt 13))] [0,1,5,14]
def c65_9 : XC := fun _ => .cond (xt 14) (fun _ => .skip) (fun _ => .exit 0)
def c65_10 : XC := fun _ => .seq c65_8 c65_9
def c65_11 : XC := fun _ => .region [] [xo 17 (.mv (xt 0)),
 xo 18 (.mv (xt 5)),
 xo 19 (.ia (xt 17) (xt 18) 1),
 xo 20 (.ld (xt 19) 1 false),
 xo 21 (.mv (xt 1)),
 xo 22 (.mv (xt 5)),
 ⟨(some 23), .ia (xt 21) (xt 22) 1, none, [0, 1, 2, 3]⟩,
 ⟨(some 24), .ld (xt 23) 1 false, none, [0, 1, 2, 3]⟩,
 xo 25 (.bin .neq (xt 20) (xt 24))] [0,1,5,25]
def c65_12 : XC := fun _ => .region [] [xo 4 (.mv (xb false))] [4]
def c65_13 : XC := fun _ => .seq c65_12 (fun _ => .ret)
def c65_14 : XC := fun _ => .cond (xt 25) c65_13 (fun _ => .skip)
def c65_15 : XC := fun _ => .seq c65_11 c65_14
def c65_16 : XC := fun _ => .block 1 c65_15
def c65_17 : XC := fun _ => .region [] [xo 15 (.mv (xt 5)),
 xo 16 (.bin .add (xt 15) (xi 1)),
 xo 5 (.mv (xt 16))] [0,1,5]
def c65_18 : XC := fun _ => .seq c65_16 c65_17
def c65_19 : XC := fun _ => .seq c65_10 c65_18
def c65_20 : XC := fun _ => .loop c65_19
def c65_21 : XC := fun _ => .block 0 c65_20
def c65_22 : XC := fun _ => .seq c65_7 c65_21
def c65_23 : XC := fun _ => .region [] [xo 4 (.mv (xb true))] [4]
def c65_24 : XC := fun _ => .seq c65_23 (fun _ => .ret)
def c65_25 : XC := fun _ => .seq c65_22 c65_24
def c65_26 : XC := fun _ => .seq c65_6 c65_25
def c65_27 : XC := fun _ => .seq c65_1 c65_26
def m_spec_EqualServers : MCode := c65_27 ()
def h_spec_EqualServers : Hints := [(0, [0,1], [], [], []), (1, [0,1,10], [], [], []), (2, [4], [], [], []), (3, [0,1,5], [], [], []), (4, [0,1,5,14], [], [], []), (6, [0,1,5,25], [[],[],[],[],[],[],[0,1,2,3],[0,1,2,3]], [], []), (7, [4], [], [], []), (5, [0,1,5], [], [], []), (8, [4], [], [], [])]
def r_spec_EqualServers : List RV := [.t 4]
abbrev n_spec_EqualServers : Nat := 65
theorem k_spec_EqualServers : Known Pr mu n_spec_EqualServers m_spec_EqualServers r_spec_EqualServers Go.Proofs.Try.f65.ntmps := .of h_spec_EqualServers hm Go.Proofs.Try.func65
def c66_1 : XC := fun _ => .region [] [xo 4 (.mv (xb false))] [0,1]
def c66_2 : XC := fun _ => .region [] [xo 5 (.mv (xt 0)),
 xo 6 (.mv (xt 1)),
 xo 7 (.call 70 [(xt 5), (xt 6)]),
 xo 4 (.mv (xt 7))] [4]
def c66_3 : XC := fun _ => .seq c66_2 (fun _ => .ret)
def c66_4 : XC := fun _ => .seq c66_1 c66_3
def m_impl_EqualServers : MCode := c66_4 ()
def h_impl_EqualServers : Hints := [(0, [0,1], [], [], []), (1, [4], [], [], [])]
def r_impl_EqualServers : List RV := [.t 4]
abbrev n_impl_EqualServers : Nat := 66
theorem k_impl_EqualServers : Known Pr mu n_impl_EqualServers m_impl_EqualServers r_impl_EqualServers Go.Proofs.Try.f66.ntmps := .of h_impl_EqualServers hm Go.Proofs.Try.func66
def c67_1 : XC := fun _ => .region [] [xo 4 (.mv (.const (.slice none 0 0)))] [0,1]
def c67_2 : XC := fun _ => .region [] [xo 8 (.mv (xt 0)),
 xo 9 (.mv (xt 1)),
 xo 10 (.call 71 [(xt 8), (xt 9)]),
 xo 5 (.mv (xt 10))] [0,1,5]
def c67_3 : XC := fun _ => .region [] [xo 11 (.mv (xt 5)),
 xo 12 (.bin .eql (xt 11) (xi (-1)))] [0,1,5,12]
def c67_4 : XC := fun _ => .region [] [xo 13 (.mv (xt 0)),
 xo 4 (.mv (xt 13))] [4]
def c67_5 : XC := fun _ => .seq c67_4 (fun _ => .ret)
def c67_6 : XC := fun _ => .cond (xt 12) c67_5 (fun _ => .skip)
def c67_7 : XC := fun _ => .seq c67_3 c67_6
def c67_8 : XC := fun _ => .region [] [xo 14 (.mv (xt 5)),
 xo 15 (.bin .add (xt 14) (xi 1)),
 xo 6 (.mv (xt 15))] [0,1,5,6]
def c67_9 : XC := fun _ => .region [] [xo 16 (.mv (xt 6)),
 xo 17 (.mv (xt 0)),
 xo 18 (.len false (xt 17)),
 xo 19 (.bin .lss (xt 16) (xt 18))] [0,1,5,6,19]
def c67_10 : XC := fun _ => .cond (xt 19) (fun _ => .skip) (fun _ => .exit 0)
def c67_11 : XC := fun _ => .seq c67_9 c67_10
def c67_12 : XC := fun _ => .region [] [xo 22 (.mv (xt 0)),
 xo 23 (.mv (xt 6)),
 xo 24 (.ia (xt 22) (xt 23) 1),
 xo 25 (.ld (xt 24) 1 false),
 xo 7 (.mv (xt 25))] [0,1,5,6,7]
def c67_13 : XC := fun _ => .region [] [xo 26 (.mv (xt 1)),
 xo 27 (.mv (xt 7)),
 xo 28 (.callv (xt 26) [(xt 27)]),
 xo 29 (.not (xt 28))] [0,1,5,6,7,29]
def c67_14 : XC := fun _ => .region [] [xo 30 (.mv (xt 0)),
 xo 31 (.mv (xt 5)),
 xo 32 (.mv (xt 7)),
 xo 33 (.ia (xt 30) (xt 31) 1),
 xn (.sto (xt 33) (xt 32) 1)] [0,1,5,6]
def c67_15 : XC := fun _ => .region [] [xo 34 (.mv (xt 5)),
 xo 35 (.bin .add (xt 34) (xi 1)),
 xo 5 (.mv (xt 35))] [0,1,5,6]
def c67_16 : XC := fun _ => .seq c67_14 c67_15
def c67_17 : XC := fun _ => .cond (xt 29) c67_16 (fun _ => .skip)
def c67_18 : XC := fun _ => .seq c67_13 c67_17
def c67_19 : XC := fun _ => .seq c67_12 c67_18
def c67_20 : XC := fun _ => .block 1 c67_19
def c67_21 : XC := fun _ => .region [] [xo 20 (.mv (xt 6)),
 xo 21 (.bin .add (xt 20) (xi 1)),
 xo 6 (.mv (xt 21))] [0,1,5,6]
def c67_22 : XC := fun _ => .seq c67_20 c67_21
def c67_23 : XC := fun _ => .seq c67_11 c67_22
def c67_24 : XC := fun _ => .loop c67_23
def c67_25 : XC := fun _ => .block 0 c67_24
def c67_26 : XC := fun _ => .seq c67_8 c67_25
def c67_27 : XC := fun _ => .region [] [xo 36 (.mv (xt 0)),
 xo 37 (.mv (xt 5)),
 xo 38 (.slc false (xt 36) (some (xt 37)) none none 1),
 xn (.clr (xt 38) 1 [.int .i64 0])] [0,5]
def c67_28 : XC := fun _ => .region [] [xo 39 (.mv (xt 0)),
 xo 40 (.mv (xt 5)),
 xo 41 (.slc false (xt 39) none (some (xt 40)) none 1),
 xo 4 (.mv (xt 41))] [4]
def c67_29 : XC := fun _ => .seq c67_28 (fun _ => .ret)
def c67_30 : XC := fun _ => .seq c67_27 c67_29
def c67_31 : XC := fun _ => .seq c67_26 c67_30
def c67_32 : XC := fun _ => .seq c67_7 c67_31
def c67_33 : XC := fun _ => .seq c67_2 c67_32
def c67_34 : XC := fun _ => .seq c67_1 c67_33
def m_slices_DeleteFunc_intint : MCode := c67_34 ()
def h_slices_DeleteFunc_intint : Hints := [(0, [0,1], [], [], []), (1, [0,1,5], [], [], []), (2, [0,1,5,12], [], [], []), (3, [4], [], [], []), (4, [0,1,5,6], [], [], []), (5, [0,1,5,6,19], [], [], []), (7, [0,1,5,6,7], [], [], []), (8, [0,1,5,6,7,29], [], [], []), (9, [0,1,5,6], [], [], []), (10, [0,1,5,6], [], [], []), (6, [0,1,5,6], [], [], []), (11, [0,5], [], [], []), (12, [4], [], [], [])]
def r_slices_DeleteFunc_intint : List RV := [.t 4]
abbrev n_slices_DeleteFunc_intint : Nat := 67
theorem k_slices_DeleteFunc_intint : Known Pr mu n_slices_DeleteFunc_intint m_slices_DeleteFunc_intint r_slices_DeleteFunc_intint Go.Proofs.Try.f67.ntmps := .of h_slices_DeleteFunc_intint hm Go.Proofs.Try.func67
def c68_1 : XC := fun _ => .region [] [xo 2 (.mv (.const (.slice none 0 0)))] [0]
def c68_2 : XC := fun _ => .region [] [xo 4 (.mv (xt 0)),
 xo 5 (.call 72 [(xt 4)]),
 xo 3 (.mv (xt 5))] [3]
def c68_3 : XC := fun _ => .region [] [xo 6 (.mv (xt 3)),
 xo 7 (.callm 73 [(xt 6)])] [3]
def c68_4 : XC := fun _ => .region [] [xo 8 (.mv (xt 3)),
 xo 9 (.callm 74 [(xt 8)]),
 xo 2 (.mv (xt 9))] [2]
def c68_5 : XC := fun _ => .seq c68_4 (fun _ => .ret)
def c68_6 : XC := fun _ => .seq c68_3 c68_5
def c68_7 : XC := fun _ => .seq c68_2 c68_6
def c68_8 : XC := fun _ => .seq c68_1 c68_7
def m_impl_ascending : MCode := c68_8 ()
def h_impl_ascending : Hints := [(0, [0], [], [], []), (1, [3], [], [], []), (2, [3], [], [], []), (3, [2], [], [], [])]
def r_impl_ascending : List RV := [.t 2]
abbrev n_impl_ascending : Nat := 68
theorem k_impl_ascending : Known Pr mu n_impl_ascending m_impl_ascending r_impl_ascending Go.Proofs.Try.f68.ntmps := .of h_impl_ascending hm Go.Proofs.Try.func68
def c69_1 : XC := fun _ => .region [] [xo 3 (.mv (xb false))] [0,1]
def c69_2 : XC := fun _ => .region [] [xo 4 (.ld (xt 1) 1 false),
 xo 5 (.mv (xt 0)),
 xo 6 (.call 43 [(xt 4), (xt 5)]),
 xo 3 (.mv (xt 6))] [3]
def c69_3 : XC := fun _ => .seq c69_2 (fun _ => .ret)
def c69_4 : XC := fun _ => .seq c69_1 c69_3
def m_impl_WithoutServers_c1 : MCode := c69_4 ()
def h_impl_WithoutServers_c1 : Hints := [(0, [0,1], [], [], []), (1, [3], [], [], [])]
def r_impl_WithoutServers_c1 : List RV := [.t 3]
abbrev n_impl_WithoutServers_c1 : Nat := 69
theorem k_impl_WithoutServers_c1 : Known Pr mu n_impl_WithoutServers_c1 m_impl_WithoutServers_c1 r_impl_WithoutServers_c1 Go.Proofs.Try.f69.ntmps := .of h_impl_WithoutServers_c1 hm Go.Proofs.Try.func69
def c70_1 : XC := fun _ => .region [] [xo 4 (.mv (xb false))] [0,1]
def c70_2 : XC := fun _ => .region [] [xo 6 (.mv (xt 0)),
 xo 7 (.len false (xt 6)),
 xo 8 (.mv (xt 1)),
 xo 9 (.len false (xt 8)),
 xo 10 (.bin .neq (xt 7) (xt 9))] [0,1,10]
def c70_3 : XC := fun _ => .region [] [xo 4 (.mv (xb false))] [4]
def c70_4 : XC := fun _ => .seq c70_3 (fun _ => .ret)
def c70_5 : XC := fun _ => .cond (xt 10) c70_4 (fun _ => .skip)
def c70_6 : XC := fun _ => .seq c70_2 c70_5
def c70_7 : XC := fun _ => .region [] [xo 11 (.mv (xt 0)),
 xo 12 (.len false (xt 11)),
 xo 13 (.mv (xi 0))] [0,1,12,13]
def c70_8 : XC := fun _ => .region [] [xo 14 (.bin .lss (xt 13) (xt 12))] [0,1,12,13,14]
def c70_9 : XC := fun _ => .cond (xt 14) (fun _ => .skip) (fun _ => .exit 0)
def c70_10 : XC := fun _ => .region [] [xo 15 (.mv (xt 13)),
 xo 5 (.mv (xt 15))] [0,1,5,12,13]
def c70_11 : XC := fun _ => .region [] [xo 16 (.mv (xt 0)),
 xo 17 (.mv (xt 5)),
 xo 18 (.ia (xt 16) (xt 17) 1),
 xo 19 (.ld (xt 18) 1 false),
 xo 20 (.mv (xt 1)),
 xo 21 (.mv (xt 5)),
 ⟨(some 22), .ia (xt 20) (xt 21) 1, none, [0, 1, 2, 3]⟩,
 ⟨(some 23), .ld (xt 22) 1 false, none, [0, 1, 2, 3]⟩,
 xo 24 (.bin .neq (xt 19) (xt 23))] [0,1,12,13,24]
def c70_12 : XC := fun _ => .region [] [xo 4 (.mv (xb false))] [4]
def c70_13 : XC := fun _ => .seq c70_12 (fun _ => .ret)
def c70_14 : XC := fun _ => .cond (xt 24) c70_13 (fun _ => .skip)
def c70_15 : XC := fun _ => .seq c70_11 c70_14
def c70_16 : XC := fun _ => .seq c70_10 c70_15
def c70_17 : XC := fun _ => .block 1 c70_16
def c70_18 : XC := fun _ => .region [] [xo 25 (.bin .add (xt 13) (xi 1)),
 xo 13 (.mv (xt 25))] [0,1,12,13]
def c70_19 : XC := fun _ => .seq c70_17 c70_18
def c70_20 : XC := fun _ => .seq c70_9 c70_19
def c70_21 : XC := fun _ => .seq c70_8 c70_20
def c70_22 : XC := fun _ => .loop c70_21
def c70_23 : XC := fun _ => .block 0 c70_22
def c70_24 : XC := fun _ => .seq c70_7 c70_23
def c70_25 : XC := fun _ => .region [] [xo 4 (.mv (xb true))] [4]
def c70_26 : XC := fun _ => .seq c70_25 (fun _ => .ret)
def c70_27 : XC := fun _ => .seq c70_24 c70_26
def c70_28 : XC := fun _ => .seq c70_6 c70_27
def c70_29 : XC := fun _ => .seq c70_1 c70_28
def m_slices_Equal_intint : MCode := c70_29 ()
def h_slices_Equal_intint : Hints := [(0, [0,1], [], [], []), (1, [0,1,10], [], [], []), (2, [4], [], [], []), (3, [0,1,12,13], [], [], []), (4, [0,1,12,13,14], [], [], []), (5, [0,1,5,12,13], [], [], []), (6, [0,1,12,13,24], [[],[],[],[],[],[],[0,1,2,3],[0,1,2,3]], [], []), (7, [4], [], [], []), (8, [0,1,12,13], [], [], []), (9, [4], [], [], [])]
def r_slices_Equal_intint : List RV := [.t 4]
abbrev n_slices_Equal_intint : Nat := 70
theorem k_slices_Equal_intint : Known Pr mu n_slices_Equal_intint m_slices_Equal_intint r_slices_Equal_intint Go.Proofs.Try.f70.ntmps := .of h_slices_Equal_intint hm Go.Proofs.Try.func70
def c71_1 : XC := fun _ => .region [] [xo 4 (.mv (xi 0))] [0,1]
def c71_2 : XC := fun _ => .region [] [xo 6 (.mv (xt 0)),
 xo 7 (.len false (xt 6)),
 xo 8 (.mv (xi 0))] [0,1,7,8]
def c71_3 : XC := fun _ => .region [] [xo 9 (.bin .lss (xt 8) (xt 7))] [0,1,7,8,9]
def c71_4 : XC := fun _ => .cond (xt 9) (fun _ => .skip) (fun _ => .exit 0)
def c71_5 : XC := fun _ => .region [] [xo 10 (.mv (xt 8)),
 xo 5 (.mv (xt 10))] [0,1,5,7,8]
def c71_6 : XC := fun _ => .region [] [xo 11 (.mv (xt 1)),
 xo 12 (.mv (xt 0)),
 xo 13 (.mv (xt 5)),
 xo 14 (.ia (xt 12) (xt 13) 1),
 xo 15 (.ld (xt 14) 1 false),
 xo 16 (.callv (xt 11) [(xt 15)])] [0,1,5,7,8,16]
def c71_7 : XC := fun _ => .region [] [xo 17 (.mv (xt 5)),
 xo 4 (.mv (xt 17))] [4]
def c71_8 : XC := fun _ => .seq c71_7 (fun _ => .ret)
def c71_9 : XC := fun _ => .cond (xt 16) c71_8 (fun _ => .skip)
def c71_10 : XC := fun _ => .seq c71_6 c71_9
def c71_11 : XC := fun _ => .seq c71_5 c71_10
def c71_12 : XC := fun _ => .block 1 c71_11
def c71_13 : XC := fun _ => .region [] [xo 18 (.bin .add (xt 8) (xi 1)),
 xo 8 (.mv (xt 18))] [0,1,7,8]
def c71_14 : XC := fun _ => .seq c71_12 c71_13
def c71_15 : XC := fun _ => .seq c71_4 c71_14
def c71_16 : XC := fun _ => .seq c71_3 c71_15
def c71_17 : XC := fun _ => .loop c71_16
def c71_18 : XC := fun _ => .block 0 c71_17
def c71_19 : XC := fun _ => .seq c71_2 c71_18
def c71_20 : XC := fun _ => .region [] [xo 4 (.mv (xi (-1)))] [4]
def c71_21 : XC := fun _ => .seq c71_20 (fun _ => .ret)
def c71_22 : XC := fun _ => .seq c71_19 c71_21
def c71_23 : XC := fun _ => .seq c71_1 c71_22
def m_slices_IndexFunc_intint : MCode := c71_23 ()
def h_slices_IndexFunc_intint : Hints := [(0, [0,1], [], [], []), (1, [0,1,7,8], [], [], []), (2, [0,1,7,8,9], [], [], []), (3, [0,1,5,7,8], [], [], []), (4, [0,1,5,7,8,16], [], [], []), (5, [4], [], [], []), (6, [0,1,7,8], [], [], []), (7, [4], [], [], [])]
def r_slices_IndexFunc_intint : List RV := [.t 4]
abbrev n_slices_IndexFunc_intint : Nat := 71
theorem k_slices_IndexFunc_intint : Known Pr mu n_slices_IndexFunc_intint m_slices_IndexFunc_intint r_slices_IndexFunc_intint Go.Proofs.Try.f71.ntmps := .of h_slices_IndexFunc_intint hm Go.Proofs.Try.func71
def c72_1 : XC := fun _ => .region [] [xo 2 (.mv (.const (.slice none 0 0)))] [0]
def c72_2 : XC := fun _ => .region [] [xo 3 (.mv (xt 0)),
 xo 4 (.nbin .eql (xt 3) (.const (.slice none 0 0)))] [0,4]
def c72_3 : XC := fun _ => .region [] [xo 2 (.mv (.const (.slice none 0 0)))] [2]
def c72_4 : XC := fun _ => .seq c72_3 (fun _ => .ret)
def c72_5 : XC := fun _ => .cond (xt 4) c72_4 (fun _ => .skip)
def c72_6 : XC := fun _ => .seq c72_2 c72_5
def c72_7 : XC := fun _ => .region [] [xo 5 (.bsl 1 0 [.int .i64 0] []),
 xo 6 (.mv (xt 0)),
 xo 7 (.app (xt 5) (xt 6) 1 8),
 xo 2 (.mv (xt 7))] [2]
def c72_8 : XC := fun _ => .seq c72_7 (fun _ => .ret)
def c72_9 : XC := fun _ => .seq c72_6 c72_8
def c72_10 : XC := fun _ => .seq c72_1 c72_9
def m_slices_Clone_intint : MCode := c72_10 ()
def h_slices_Clone_intint : Hints := [(0, [0], [], [], []), (1, [0,4], [], [], []), (2, [2], [], [], []), (3, [2], [], [], [])]
def r_slices_Clone_intint : List RV := [.t 2]
abbrev n_slices_Clone_intint : Nat := 72
theorem k_slices_Clone_intint : Known Pr mu n_slices_Clone_intint m_slices_Clone_intint r_slices_Clone_intint Go.Proofs.Try.f72.ntmps := .of h_slices_Clone_intint hm Go.Proofs.Try.func72
def c73_1 : XC := fun _ => .region [] [xo 3 (.mv (xt 0)),
 xo 4 (.len false (xt 3)),
 xo 2 (.mv (xt 4))] [0,2]
def c73_2 : XC := fun _ => .region [] [xo 5 (.mv (xt 0)),
 xo 6 (.mv (xt 2)),
 xo 7 (.mv (xt 2)),
 xo 8 (.conv .u64 (xt 7)),
 xo 9 (.call 76 [(xt 8)]),
 xo 10 (.callm 75 [(xt 5), (xi 0), (xt 6), (xt 9)])] []
def c73_3 : XC := fun _ => .seq c73_1 c73_2
def m_slices_Sort_intint : MCode := c73_3 ()
def h_slices_Sort_intint : Hints := [(0, [0,2], [], [], []), (1, [], [], [], [])]
def r_slices_Sort_intint : List RV := []
abbrev n_slices_Sort_intint : Nat := 73
theorem k_slices_Sort_intint : Known Pr mu n_slices_Sort_intint m_slices_Sort_intint r_slices_Sort_intint Go.Proofs.Try.f73.ntmps := .of h_slices_Sort_intint hm Go.Proofs.Try.func73
def c74_1 : XC := fun _ => .region [] [xo 2 (.mv (.const (.slice none 0 0)))] [0]
def c74_2 : XC := fun _ => .region [] [xo 6 (.mv (xt 0)),
 xo 7 (.len false (xt 6)),
 xo 8 (.bin .lss (xt 7) (xi 2))] [0,8]
def c74_3 : XC := fun _ => .region [] [xo 9 (.mv (xt 0)),
 xo 2 (.mv (xt 9))] [2]
def c74_4 : XC := fun _ => .seq c74_3 (fun _ => .ret)
def c74_5 : XC := fun _ => .cond (xt 8) c74_4 (fun _ => .skip)
def c74_6 : XC := fun _ => .seq c74_2 c74_5
def c74_7 : XC := fun _ => .region [] [xo 3 (.mv (xi 1))] [0,3]
def c74_8 : XC := fun _ => .region [] [xo 10 (.mv (xt 3)),
 xo 11 (.mv (xt 0)),
 xo 12 (.len false (xt 11)),
 xo 13 (.bin .lss (xt 10) (xt 12))] [0,3,13]
def c74_9 : XC := fun _ => .cond (xt 13) (fun _ => .skip) (fun _ => .exit 0)
def c74_10 : XC := fun _ => .seq c74_8 c74_9
def c74_11 : XC := fun _ => .region [] [xo 16 (.mv (xt 0)),
 xo 17 (.mv (xt 3)),
 xo 18 (.ia (xt 16) (xt 17) 1),
 xo 19 (.ld (xt 18) 1 false),
 xo 20 (.mv (xt 0)),
 xo 21 (.mv (xt 3)),
 xo 22 (.bin .sub (xt 21) (xi 1)),
 ⟨(some 23), .ia (xt 20) (xt 22) 1, none, [0, 1, 2, 3]⟩,
 ⟨(some 24), .ld (xt 23) 1 false, none, [0, 1, 2, 3]⟩,
 xo 25 (.bin .eql (xt 19) (xt 24))] [0,3,25]
def c74_12 : XC := fun _ => .region [] [xo 26 (.mv (xt 0)),
 xo 27 (.mv (xt 3)),
 xo 28 (.slc false (xt 26) (some (xt 27)) none none 1),
 xo 4 (.mv (xt 28))] [0,3,4]
def c74_13 : XC := fun _ => .region [] [xo 5 (.mv (xi 1))] [0,3,4,5]
def c74_14 : XC := fun _ => .region [] [xo 29 (.mv (xt 5)),
 xo 30 (.mv (xt 4)),
 xo 31 (.len false (xt 30)),
 xo 32 (.bin .lss (xt 29) (xt 31))] [0,3,4,5,32]
def c74_15 : XC := fun _ => .cond (xt 32) (fun _ => .skip) (fun _ => .exit 2)
def c74_16 : XC := fun _ => .seq c74_14 c74_15
def c74_17 : XC := fun _ => .region [] [xo 35 (.mv (xt 4)),
 xo 36 (.mv (xt 5)),
 xo 37 (.ia (xt 35) (xt 36) 1),
 xo 38 (.ld (xt 37) 1 false),
 xo 39 (.mv (xt 4)),
 xo 40 (.mv (xt 5)),
 xo 41 (.bin .sub (xt 40) (xi 1)),
 ⟨(some 42), .ia (xt 39) (xt 41) 1, none, [0, 1, 2, 3]⟩,
 ⟨(some 43), .ld (xt 42) 1 false, none, [0, 1, 2, 3]⟩,
 xo 44 (.bin .neq (xt 38) (xt 43))] [0,3,4,5,44]
def c74_18 : XC := fun _ => .region [] [xo 45 (.mv (xt 0)),
 xo 46 (.mv (xt 3)),
 xo 47 (.mv (xt 4)),
 xo 48 (.mv (xt 5)),
 xo 49 (.ia (xt 47) (xt 48) 1),
 xo 50 (.ld (xt 49) 1 false),
 xo 51 (.ia (xt 45) (xt 46) 1),
 xn (.sto (xt 51) (xt 50) 1)] [0,3,4,5]
def c74_19 : XC := fun _ => .region [] [xo 52 (.mv (xt 3)),
 xo 53 (.bin .add (xt 52) (xi 1)),
 xo 3 (.mv (xt 53))] [0,3,4,5]
def c74_20 : XC := fun _ => .seq c74_18 c74_19
def c74_21 : XC := fun _ => .cond (xt 44) c74_20 (fun _ => .skip)
def c74_22 : XC := fun _ => .seq c74_17 c74_21
def c74_23 : XC := fun _ => .block 3 c74_22
def c74_24 : XC := fun _ => .region [] [xo 33 (.mv (xt 5)),
 xo 34 (.bin .add (xt 33) (xi 1)),
 xo 5 (.mv (xt 34))] [0,3,4,5]
def c74_25 : XC := fun _ => .seq c74_23 c74_24
def c74_26 : XC := fun _ => .seq c74_16 c74_25
def c74_27 : XC := fun _ => .loop c74_26
def c74_28 : XC := fun _ => .block 2 c74_27
def c74_29 : XC := fun _ => .seq c74_13 c74_28
def c74_30 : XC := fun _ => .region [] [xo 54 (.mv (xt 0)),
 xo 55 (.mv (xt 3)),
 xo 56 (.slc false (xt 54) (some (xt 55)) none none 1),
 xn (.clr (xt 56) 1 [.int .i64 0])] [0,3]
def c74_31 : XC := fun _ => .region [] [xo 57 (.mv (xt 0)),
 xo 58 (.mv (xt 3)),
 xo 59 (.slc false (xt 57) none (some (xt 58)) none 1),
 xo 2 (.mv (xt 59))] [2]
def c74_32 : XC := fun _ => .seq c74_31 (fun _ => .ret)
def c74_33 : XC := fun _ => .seq c74_30 c74_32
def c74_34 : XC := fun _ => .seq c74_29 c74_33
def c74_35 : XC := fun _ => .seq c74_12 c74_34
def c74_36 : XC := fun _ => .cond (xt 25) c74_35 (fun _ => .skip)
def c74_37 : XC := fun _ => .seq c74_11 c74_36
def c74_38 : XC := fun _ => .block 1 c74_37
def c74_39 : XC := fun _ => .region [] [xo 14 (.mv (xt 3)),
 xo 15 (.bin .add (xt 14) (xi 1)),
 xo 3 (.mv (xt 15))] [0,3]
def c74_40 : XC := fun _ => .seq c74_38 c74_39
def c74_41 : XC := fun _ => .seq c74_10 c74_40
def c74_42 : XC := fun _ => .loop c74_41
def c74_43 : XC := fun _ => .block 0 c74_42
def c74_44 : XC := fun _ => .seq c74_7 c74_43
def c74_45 : XC := fun _ => .region [] [xo 60 (.mv (xt 0)),
 xo 2 (.mv (xt 60))] [2]
def c74_46 : XC := fun _ => .seq c74_45 (fun _ => .ret)
def c74_47 : XC := fun _ => .seq c74_44 c74_46
def c74_48 : XC := fun _ => .seq c74_6 c74_47
def c74_49 : XC := fun _ => .seq c74_1 c74_48
def m_slices_Compact_intint : MCode := c74_49 ()
def h_slices_Compact_intint : Hints := [(0, [0], [], [], []), (1, [0,8], [], [], []), (2, [2], [], [], []), (3, [0,3], [], [], []), (4, [0,3,13], [], [], []), (6, [0,3,25], [[],[],[],[],[],[],[],[0,1,2,3],[0,1,2,3]], [], []), (7, [0,3,4], [], [], []), (8, [0,3,4,5], [], [], []), (9, [0,3,4,5,32], [], [], []), (11, [0,3,4,5,44], [[],[],[],[],[],[],[],[0,1,2,3],[0,1,2,3]], [], []), (12, [0,3,4,5], [], [], []), (13, [0,3,4,5], [], [], []), (10, [0,3,4,5], [], [], []), (14, [0,3], [], [], []), (15, [2], [], [], []), (5, [0,3], [], [], []), (16, [2], [], [], [])]
def r_slices_Compact_intint : List RV := [.t 2]
abbrev n_slices_Compact_intint : Nat := 74
theorem k_slices_Compact_intint : Known Pr mu n_slices_Compact_intint m_slices_Compact_intint r_slices_Compact_intint Go.Proofs.Try.f74.ntmps := .of h_slices_Compact_intint hm Go.Proofs.Try.func74
def c75_1 : XC := fun _ => .region [] [xo 8 (.mv (xb true))] [0,1,2,3,8]
def c75_2 : XC := fun _ => .region [] [xo 9 (.mv (xb true))] [0,1,2,3,8,9]
def c75_3 : XC := fun _ => .region [] [xo 19 (.mv (xt 2)),
 xo 20 (.mv (xt 1)),
 xo 21 (.bin .sub (xt 19) (xt 20)),
 xo 10 (.mv (xt 21))] [0,1,2,3,8,9,10]
def c75_4 : XC := fun _ => .region [] [xo 22 (.mv (xt 10)),
 xo 23 (.bin .leq (xt 22) (xi 12))] [0,1,2,3,8,9,10,23]
def c75_5 : XC := fun _ => .region [] [xo 24 (.mv (xt 0)),
 xo 25 (.mv (xt 1)),
 xo 26 (.mv (xt 2)),
 xo 27 (.callm 77 [(xt 24), (xt 25), (xt 26)])] []
def c75_6 : XC := fun _ => .seq c75_5 (fun _ => .ret)
def c75_7 : XC := fun _ => .cond (xt 23) c75_6 (fun _ => .skip)
def c75_8 : XC := fun _ => .seq c75_4 c75_7
def c75_9 : XC := fun _ => .region [] [xo 28 (.mv (xt 3)),
 xo 29 (.bin .eql (xt 28) (xi 0))] [0,1,2,3,8,9,10,29]
def c75_10 : XC := fun _ => .region [] [xo 30 (.mv (xt 0)),
 xo 31 (.mv (xt 1)),
 xo 32 (.mv (xt 2)),
 xo 33 (.callm 78 [(xt 30), (xt 31), (xt 32)])] []
def c75_11 : XC := fun _ => .seq c75_10 (fun _ => .ret)
def c75_12 : XC := fun _ => .cond (xt 29) c75_11 (fun _ => .skip)
def c75_13 : XC := fun _ => .seq c75_9 c75_12
def c75_14 : XC := fun _ => .region [] [xo 34 (.mv (xt 8)),
 xo 35 (.not (xt 34))] [0,1,2,3,8,9,10,35]
def c75_15 : XC := fun _ => .region [] [xo 36 (.mv (xt 0)),
 xo 37 (.mv (xt 1)),
 xo 38 (.mv (xt 2)),
 xo 39 (.callm 79 [(xt 36), (xt 37), (xt 38)])] [0,1,2,3,8,9,10]
def c75_16 : XC := fun _ => .region [] [xo 40 (.mv (xt 3)),
 xo 41 (.bin .sub (xt 40) (xi 1)),
 xo 3 (.mv (xt 41))] [0,1,2,3,8,9,10]
def c75_17 : XC := fun _ => .seq c75_15 c75_16
def c75_18 : XC := fun _ => .cond (xt 35) c75_17 (fun _ => .skip)
def c75_19 : XC := fun _ => .seq c75_14 c75_18
def c75_20 : XC := fun _ => .region [] [xo 43 (.mv (xt 0)),
 xo 44 (.mv (xt 1)),
 xo 45 (.mv (xt 2)),
 xo 46 (.call 80 [(xt 43), (xt 44), (xt 45)]),
 xo 42 (.mv (xt 46)),
 xo 47 (.ext (xt 42) 0),
 xo 48 (.ext (xt 42) 1),
 xo 11 (.mv (xt 47)),
 xo 12 (.mv (xt 48))] [0,1,2,3,8,9,10,11,12]
def c75_21 : XC := fun _ => .region [] [xo 49 (.mv (xt 12)),
 xo 50 (.bin .eql (xt 49) (xi 2))] [0,1,2,3,8,9,10,11,12,50]
def c75_22 : XC := fun _ => .region [] [xo 51 (.mv (xt 0)),
 xo 52 (.mv (xt 1)),
 xo 53 (.mv (xt 2)),
 xo 54 (.callm 81 [(xt 51), (xt 52), (xt 53)])] [0,1,2,3,8,9,10,11]
def c75_23 : XC := fun _ => .region [] [xo 55 (.mv (xt 2)),
 xo 56 (.bin .sub (xt 55) (xi 1)),
 xo 57 (.mv (xt 11)),
 xo 58 (.mv (xt 1)),
 xo 59 (.bin .sub (xt 57) (xt 58)),
 xo 60 (.bin .sub (xt 56) (xt 59)),
 xo 11 (.mv (xt 60))] [0,1,2,3,8,9,10,11]
def c75_24 : XC := fun _ => .region [] [xo 12 (.mv (xi 1))] [0,1,2,3,8,9,10,11,12]
def c75_25 : XC := fun _ => .seq c75_23 c75_24
def c75_26 : XC := fun _ => .seq c75_22 c75_25
def c75_27 : XC := fun _ => .cond (xt 50) c75_26 (fun _ => .skip)
def c75_28 : XC := fun _ => .seq c75_21 c75_27
def c75_29 : XC := fun _ => .region [] [xo 61 (.mv (xt 8)),
 xo 62 (.mv (xt 61)),
 ⟨(some 63), .mv (xt 9), (some (62, true)), []⟩,
 xo 64 (.pick (xt 62) (xt 63) (xb false)),
 xo 65 (.mv (xt 64)),
 ⟨(some 66), .mv (xt 12), (some (65, true)), []⟩,
 ⟨(some 67), .bin .eql (xt 66) (xi 1), (some (65, true)), []⟩,
 xo 68 (.pick (xt 65) (xt 67) (xb false))] [0,1,2,3,8,9,10,11,68]
def c75_30 : XC := fun _ => .region [] [xo 69 (.mv (xt 0)),
 xo 70 (.mv (xt 1)),
 xo 71 (.mv (xt 2)),
 xo 72 (.callm 82 [(xt 69), (xt 70), (xt 71)])] [0,1,2,3,8,9,10,11,72]
def c75_31 : XC := fun _ => .cond (xt 72) (fun _ => .ret) (fun _ => .skip)
def c75_32 : XC := fun _ => .seq c75_30 c75_31
def c75_33 : XC := fun _ => .cond (xt 68) c75_32 (fun _ => .skip)
def c75_34 : XC := fun _ => .seq c75_29 c75_33
def c75_35 : XC := fun _ => .region [] [xo 73 (.mv (xt 1)),
 xo 74 (.bin .gtr (xt 73) (xi 0)),
 xo 75 (.mv (xt 74)),
 ⟨(some 76), .mv (xt 0), (some (75, true)), []⟩,
 ⟨(some 77), .mv (xt 1), (some (75, true)), []⟩,
 ⟨(some 78), .bin .sub (xt 77) (xi 1), (some (75, true)), []⟩,
 ⟨(some 79), .ia (xt 76) (xt 78) 1, (some (75, true)), []⟩,
 ⟨(some 80), .ld (xt 79) 1 false, (some (75, true)), []⟩,
 ⟨(some 81), .mv (xt 0), (some (75, true)), []⟩,
 ⟨(some 82), .mv (xt 11), (some (75, true)), []⟩,
 ⟨(some 83), .ia (xt 81) (xt 82) 1, (some (75, true)), [3, 4, 5, 6, 7]⟩,
 ⟨(some 84), .ld (xt 83) 1 false, (some (75, true)), [3, 4, 5, 6, 7]⟩,
 ⟨(some 85), .call 83 [(xt 80), (xt 84)], (some (75, true)), []⟩,
 ⟨(some 86), .not (xt 85), (some (75, true)), []⟩,
 xo 87 (.pick (xt 75) (xt 86) (xb false))] [0,1,2,3,8,9,10,11,87]
def c75_36 : XC := fun _ => .region [] [xo 88 (.mv (xt 0)),
 xo 89 (.mv (xt 1)),
 xo 90 (.mv (xt 2)),
 xo 91 (.mv (xt 11)),
 xo 92 (.callm 84 [(xt 88), (xt 89), (xt 90), (xt 91)]),
 xo 13 (.mv (xt 92))] [0,2,3,8,9,13]
def c75_37 : XC := fun _ => .region [] [xo 93 (.mv (xt 13)),
 xo 1 (.mv (xt 93))] [0,1,2,3,8,9]
def c75_38 : XC := fun _ => .seq c75_37 (fun _ => .exit 1)
def c75_39 : XC := fun _ => .seq c75_36 c75_38
def c75_40 : XC := fun _ => .cond (xt 87) c75_39 (fun _ => .skip)
def c75_41 : XC := fun _ => .seq c75_35 c75_40
def c75_42 : XC := fun _ => .region [] [xo 95 (.mv (xt 0)),
 xo 96 (.mv (xt 1)),
 xo 97 (.mv (xt 2)),
 xo 98 (.mv (xt 11)),
 xo 99 (.callm 85 [(xt 95), (xt 96), (xt 97), (xt 98)]),
 xo 94 (.mv (xt 99)),
 xo 100 (.ext (xt 94) 0),
 xo 101 (.ext (xt 94) 1),
 xo 14 (.mv (xt 100)),
 xo 15 (.mv (xt 101))] [0,1,2,3,10,14,15]
def c75_43 : XC := fun _ => .region [] [xo 102 (.mv (xt 15)),
 xo 9 (.mv (xt 102))] [0,1,2,3,9,10,14]
def c75_44 : XC := fun _ => .region [] [xo 103 (.mv (xt 14)),
 xo 104 (.mv (xt 1)),
 xo 105 (.bin .sub (xt 103) (xt 104)),
 xo 106 (.mv (xt 2)),
 xo 107 (.mv (xt 14)),
 xo 108 (.bin .sub (xt 106) (xt 107)),
 xo 16 (.mv (xt 105)),
 xo 17 (.mv (xt 108))] [0,1,2,3,9,10,14,16,17]
def c75_45 : XC := fun _ => .region [] [xo 109 (.mv (xt 10)),
 xo 110 (.bin .quo (xt 109) (xi 8)),
 xo 18 (.mv (xt 110))] [0,1,2,3,9,14,16,17,18]
def c75_46 : XC := fun _ => .region [] [xo 111 (.mv (xt 16)),
 xo 112 (.mv (xt 17)),
 xo 113 (.bin .lss (xt 111) (xt 112))] [0,1,2,3,9,14,16,17,18,113]
def c75_47 : XC := fun _ => .region [] [xo 114 (.mv (xt 16)),
 xo 115 (.mv (xt 18)),
 xo 116 (.bin .geq (xt 114) (xt 115)),
 xo 8 (.mv (xt 116))] [0,1,2,3,8,9,14]
def c75_48 : XC := fun _ => .region [] [xo 117 (.mv (xt 0)),
 xo 118 (.mv (xt 1)),
 xo 119 (.mv (xt 14)),
 xo 120 (.mv (xt 3)),
 xo 121 (.callm 75 [(xt 117), (xt 118), (xt 119), (xt 120)])] [0,2,3,8,9,14]
def c75_49 : XC := fun _ => .region [] [xo 122 (.mv (xt 14)),
 xo 123 (.bin .add (xt 122) (xi 1)),
 xo 1 (.mv (xt 123))] [0,1,2,3,8,9]
def c75_50 : XC := fun _ => .seq c75_48 c75_49
def c75_51 : XC := fun _ => .seq c75_47 c75_50
def c75_52 : XC := fun _ => .region [] [xo 124 (.mv (xt 17)),
 xo 125 (.mv (xt 18)),
 xo 126 (.bin .geq (xt 124) (xt 125)),
 xo 8 (.mv (xt 126))] [0,1,2,3,8,9,14]
def c75_53 : XC := fun _ => .region [] [xo 127 (.mv (xt 0)),
 xo 128 (.mv (xt 14)),
 xo 129 (.bin .add (xt 128) (xi 1)),
 xo 130 (.mv (xt 2)),
 xo 131 (.mv (xt 3)),
 xo 132 (.callm 75 [(xt 127), (xt 129), (xt 130), (xt 131)])] [0,1,3,8,9,14]
def c75_54 : XC := fun _ => .region [] [xo 133 (.mv (xt 14)),
 xo 2 (.mv (xt 133))] [0,1,2,3,8,9]
def c75_55 : XC := fun _ => .seq c75_53 c75_54
def c75_56 : XC := fun _ => .seq c75_52 c75_55
def c75_57 : XC := fun _ => .cond (xt 113) c75_51 c75_56
def c75_58 : XC := fun _ => .seq c75_46 c75_57
def c75_59 : XC := fun _ => .seq c75_45 c75_58
def c75_60 : XC := fun _ => .seq c75_44 c75_59
def c75_61 : XC := fun _ => .seq c75_43 c75_60
def c75_62 : XC := fun _ => .seq c75_42 c75_61
def c75_63 : XC := fun _ => .seq c75_41 c75_62
def c75_64 : XC := fun _ => .seq c75_34 c75_63
def c75_65 : XC := fun _ => .seq c75_28 c75_64
def c75_66 : XC := fun _ => .seq c75_20 c75_65
def c75_67 : XC := fun _ => .seq c75_19 c75_66
def c75_68 : XC := fun _ => .seq c75_13 c75_67
def c75_69 : XC := fun _ => .seq c75_8 c75_68
def c75_70 : XC := fun _ => .seq c75_3 c75_69
def c75_71 : XC := fun _ => .block 1 c75_70
def c75_72 : XC := fun _ => .loop c75_71
def c75_73 : XC := fun _ => .block 0 c75_72
def c75_74 : XC := fun _ => .seq c75_2 c75_73
def c75_75 : XC := fun _ => .seq c75_1 c75_74
def m_slices_pdqsortOrdered_int : MCode := c75_75 ()
def h_slices_pdqsortOrdered_int : Hints := [(0, [0,1,2,3,8], [], [], []), (1, [0,1,2,3,8,9], [], [], []), (2, [0,1,2,3,8,9,10], [], [], []), (3, [0,1,2,3,8,9,10,23], [], [], []), (4, [], [], [], []), (5, [0,1,2,3,8,9,10,29], [], [], []), (6, [], [], [], []), (7, [0,1,2,3,8,9,10,35], [], [], []), (8, [0,1,2,3,8,9,10], [], [], []), (9, [0,1,2,3,8,9,10], [], [], []), (10, [0,1,2,3,8,9,10,11,12], [], [], []), (11, [0,1,2,3,8,9,10,11,12,50], [], [], []), (12, [0,1,2,3,8,9,10,11], [], [], []), (13, [0,1,2,3,8,9,10,11], [], [], []), (14, [0,1,2,3,8,9,10,11,12], [], [], []), (15, [0,1,2,3,8,9,10,11,68], [], [], []), (16, [0,1,2,3,8,9,10,11,72], [], [], []), (17, [0,1,2,3,8,9,10,11,87], [[],[],[],[],[],[],[],[],[],[],[3,4,5,6,7],[3,4,5,6,7]], [], []), (18, [0,2,3,8,9,13], [], [], []), (19, [0,1,2,3,8,9], [], [], []), (20, [0,1,2,3,10,14,15], [], [], []), (21, [0,1,2,3,9,10,14], [], [], []), (22, [0,1,2,3,9,10,14,16,17], [], [], []), (23, [0,1,2,3,9,14,16,17,18], [], [], []), (24, [0,1,2,3,9,14,16,17,18,113], [], [], []), (25, [0,1,2,3,8,9,14], [], [], []), (26, [0,2,3,8,9,14], [], [], []), (27, [0,1,2,3,8,9], [], [], []), (28, [0,1,2,3,8,9,14], [], [], []), (29, [0,1,3,8,9,14], [], [], []), (30, [0,1,2,3,8,9], [], [], [])]
def r_slices_pdqsortOrdered_int : List RV := []
abbrev n_slices_pdqsortOrdered_int : Nat := 75
theorem k_slices_pdqsortOrdered_int : Known Pr mu n_slices_pdqsortOrdered_int m_slices_pdqsortOrdered_int r_slices_pdqsortOrdered_int Go.Proofs.Try.f75.ntmps := .of h_slices_pdqsortOrdered_int hm Go.Proofs.Try.func75
def c76_1 : XC := fun _ => .region [] [xo 2 (.mv (xi 0))] [0]
def c76_2 : XC := fun _ => .region [] [xo 3 (.mv (xt 0)),
 xo 4 (.conv .u32 (xt 3)),
 xo 5 (.call 86 [(xt 4)]),
 xo 2 (.mv (xt 5))] [2]
def c76_3 : XC := fun _ => .seq c76_2 (fun _ => .ret)
def c76_4 : XC := fun _ => .cond (xb false) c76_3 (fun _ => .skip)
def c76_5 : XC := fun _ => .region [] [xo 6 (.mv (xt 0)),
 xo 7 (.call 87 [(xt 6)]),
 xo 2 (.mv (xt 7))] [2]
def c76_6 : XC := fun _ => .seq c76_5 (fun _ => .ret)
def c76_7 : XC := fun _ => .seq c76_4 c76_6
def c76_8 : XC := fun _ => .seq c76_1 c76_7
def m_math_bits_Len : MCode := c76_8 ()
def h_math_bits_Len : Hints := [(0, [0], [], [], []), (1, [2], [], [], []), (2, [2], [], [], [])]
def r_math_bits_Len : List RV := [.t 2]
abbrev n_math_bits_Len : Nat := 76
theorem k_math_bits_Len : Known Pr mu n_math_bits_Len m_math_bits_Len r_math_bits_Len Go.Proofs.Try.f76.ntmps := .of h_math_bits_Len hm Go.Proofs.Try.func76
def c77_1 : XC := fun _ => .region [] [xo 8 (.mv (xt 1)),
 xo 9 (.bin .add (xt 8) (xi 1)),
 xo 6 (.mv (xt 9))] [0,1,2,6]
def c77_2 : XC := fun _ => .region [] [xo 10 (.mv (xt 6)),
 xo 11 (.mv (xt 2)),
 xo 12 (.bin .lss (xt 10) (xt 11))] [0,1,2,6,12]
def c77_3 : XC := fun _ => .cond (xt 12) (fun _ => .skip) (fun _ => .exit 0)
def c77_4 : XC := fun _ => .seq c77_2 c77_3
def c77_5 : XC := fun _ => .region [] [xo 15 (.mv (xt 6)),
 xo 7 (.mv (xt 15))] [0,1,2,6,7]
def c77_6 : XC := fun _ => .region [] [xo 16 (.mv (xt 7)),
 xo 17 (.mv (xt 1)),
 xo 18 (.bin .gtr (xt 16) (xt 17)),
 xo 19 (.mv (xt 18)),
 ⟨(some 20), .mv (xt 0), (some (19, true)), []⟩,
 ⟨(some 21), .mv (xt 7), (some (19, true)), []⟩,
 ⟨(some 22), .ia (xt 20) (xt 21) 1, (some (19, true)), []⟩,
 ⟨(some 23), .ld (xt 22) 1 false, (some (19, true)), []⟩,
 ⟨(some 24), .mv (xt 0), (some (19, true)), []⟩,
 ⟨(some 25), .mv (xt 7), (some (19, true)), []⟩,
 ⟨(some 26), .bin .sub (xt 25) (xi 1), (some (19, true)), []⟩,
 ⟨(some 27), .ia (xt 24) (xt 26) 1, (some (19, true)), [4, 5, 6, 7]⟩,
 ⟨(some 28), .ld (xt 27) 1 false, (some (19, true)), [4, 5, 6, 7]⟩,
 ⟨(some 29), .call 83 [(xt 23), (xt 28)], (some (19, true)), []⟩,
 xo 30 (.pick (xt 19) (xt 29) (xb false))] [0,1,2,6,7,30]
def c77_7 : XC := fun _ => .cond (xt 30) (fun _ => .skip) (fun _ => .exit 2)
def c77_8 : XC := fun _ => .seq c77_6 c77_7
def c77_9 : XC := fun _ => .region [] [xo 33 (.mv (xt 0)),
 xo 34 (.mv (xt 7)),
 xo 35 (.mv (xt 0)),
 xo 36 (.mv (xt 7)),
 xo 37 (.bin .sub (xt 36) (xi 1)),
 xo 38 (.mv (xt 0)),
 xo 39 (.mv (xt 7)),
 xo 40 (.bin .sub (xt 39) (xi 1)),
 ⟨(some 41), .ia (xt 38) (xt 40) 1, none, [0, 1, 2, 3, 4]⟩,
 ⟨(some 42), .ld (xt 41) 1 false, none, [0, 1, 2, 3, 4]⟩,
 xo 43 (.mv (xt 0)),
 xo 44 (.mv (xt 7)),
 ⟨(some 45), .ia (xt 43) (xt 44) 1, none, [0, 1, 2, 3, 4, 5, 6, 7, 8, 9]⟩,
 ⟨(some 46), .ld (xt 45) 1 false, none, [0, 1, 2, 3, 4, 5, 6, 7, 8, 9]⟩,
 ⟨(some 47), .ia (xt 33) (xt 34) 1, none, [2, 3, 4]⟩,
 xn (.sto (xt 47) (xt 42) 1),
 xo 48 (.ia (xt 35) (xt 37) 1),
 xn (.sto (xt 48) (xt 46) 1)] [0,1,2,6,7]
def c77_10 : XC := fun _ => .block 3 c77_9
def c77_11 : XC := fun _ => .region [] [xo 31 (.mv (xt 7)),
 xo 32 (.bin .sub (xt 31) (xi 1)),
 xo 7 (.mv (xt 32))] [0,1,2,6,7]
def c77_12 : XC := fun _ => .seq c77_10 c77_11
def c77_13 : XC := fun _ => .seq c77_8 c77_12
def c77_14 : XC := fun _ => .loop c77_13
def c77_15 : XC := fun _ => .block 2 c77_14
def c77_16 : XC := fun _ => .seq c77_5 c77_15
def c77_17 : XC := fun _ => .block 1 c77_16
def c77_18 : XC := fun _ => .region [] [xo 13 (.mv (xt 6)),
 xo 14 (.bin .add (xt 13) (xi 1)),
 xo 6 (.mv (xt 14))] [0,1,2,6]
def c77_19 : XC := fun _ => .seq c77_17 c77_18
def c77_20 : XC := fun _ => .seq c77_4 c77_19
def c77_21 : XC := fun _ => .loop c77_20
def c77_22 : XC := fun _ => .block 0 c77_21
def c77_23 : XC := fun _ => .seq c77_1 c77_22
def m_slices_insertionSortOrdered_int : MCode := c77_23 ()
def h_slices_insertionSortOrdered_int : Hints := [(0, [0,1,2,6], [], [], []), (1, [0,1,2,6,12], [], [], []), (3, [0,1,2,6,7], [], [], []), (4, [0,1,2,6,7,30], [[],[],[],[],[],[],[],[],[],[],[],[4,5,6,7],[4,5,6,7]], [], []), (6, [0,1,2,6,7], [[],[],[],[],[],[],[],[],[0,1,2,3,4],[0,1,2,3,4],[],[],[0,1,2,3,4,5,6,7,8,9],[0,1,2,3,4,5,6,7,8,9],[2,3,4]], [], [2,3,4]), (5, [0,1,2,6,7], [], [], []), (2, [0,1,2,6], [], [], [])]
def r_slices_insertionSortOrdered_int : List RV := []
abbrev n_slices_insertionSortOrdered_int : Nat := 77
theorem k_slices_insertionSortOrdered_int : Known Pr mu n_slices_insertionSortOrdered_int m_slices_insertionSortOrdered_int r_slices_insertionSortOrdered_int Go.Proofs.Try.f77.ntmps := .of h_slices_insertionSortOrdered_int hm Go.Proofs.Try.func77
def c83_1 : XC := fun _ => .region [] [xo 4 (.mv (xb false))] [0,1]
def c83_2 : XC := fun _ => .region [] [xo 5 (.mv (xt 0)),
 xo 6 (.call 93 [(xt 5)]),
 xo 7 (.mv (xt 6)),
 ⟨(some 8), .mv (xt 1), (some (7, true)), []⟩,
 ⟨(some 9), .call 93 [(xt 8)], (some (7, true)), []⟩,
 ⟨(some 10), .not (xt 9), (some (7, true)), []⟩,
 xo 11 (.pick (xt 7) (xt 10) (xb false)),
 xo 12 (.mv (xt 11)),
 ⟨(some 13), .mv (xt 0), (some (12, false)), []⟩,
 ⟨(some 14), .mv (xt 1), (some (12, false)), []⟩,
 ⟨(some 15), .bin .lss (xt 13) (xt 14), (some (12, false)), []⟩,
 xo 16 (.pick (xt 12) (xb true) (xt 15)),
 xo 4 (.mv (xt 16))] [4]
def c83_3 : XC := fun _ => .seq c83_2 (fun _ => .ret)
def c83_4 : XC := fun _ => .seq c83_1 c83_3
def m_cmp_Less_int : MCode := c83_4 ()
def h_cmp_Less_int : Hints := [(0, [0,1], [], [], []), (1, [4], [], [], [])]
def r_cmp_Less_int : List RV := [.t 4]
abbrev n_cmp_Less_int : Nat := 83
theorem k_cmp_Less_int : Known Pr mu n_cmp_Less_int m_cmp_Less_int r_cmp_Less_int Go.Proofs.Try.f83.ntmps := .of h_cmp_Less_int hm Go.Proofs.Try.func83
def c87_1 : XC := fun _ => .region [] [xo 2 (.mv (xi 0))] [0,2]
def c87_2 : XC := fun _ => .region [] [xo 3 (.mv (xt 0)),
 xo 4 (.bin .geq (xt 3) (.const (.int .u64 4294967296)))] [0,2,4]
def c87_3 : XC := fun _ => .region [] [xo 5 (.mv (xt 0)),
 xo 6 (.bit .shr (xt 5) (.const (.int .u64 32))),
 xo 0 (.mv (xt 6))] [0]
def c87_4 : XC := fun _ => .region [] [xo 2 (.mv (xi 32))] [0,2]
def c87_5 : XC := fun _ => .seq c87_3 c87_4
def c87_6 : XC := fun _ => .cond (xt 4) c87_5 (fun _ => .skip)
def c87_7 : XC := fun _ => .seq c87_2 c87_6
def c87_8 : XC := fun _ => .region [] [xo 7 (.mv (xt 0)),
 xo 8 (.bin .geq (xt 7) (.const (.int .u64 65536)))] [0,2,8]
def c87_9 : XC := fun _ => .region [] [xo 9 (.mv (xt 0)),
 xo 10 (.bit .shr (xt 9) (.const (.int .u64 16))),
 xo 0 (.mv (xt 10))] [0,2]
def c87_10 : XC := fun _ => .region [] [xo 11 (.mv (xt 2)),
 xo 12 (.bin .add (xt 11) (xi 16)),
 xo 2 (.mv (xt 12))] [0,2]
def c87_11 : XC := fun _ => .seq c87_9 c87_10
def c87_12 : XC := fun _ => .cond (xt 8) c87_11 (fun _ => .skip)
def c87_13 : XC := fun _ => .seq c87_8 c87_12
def c87_14 : XC := fun _ => .region [] [xo 13 (.mv (xt 0)),
 xo 14 (.bin .geq (xt 13) (.const (.int .u64 256)))] [0,2,14]
def c87_15 : XC := fun _ => .region [] [xo 15 (.mv (xt 0)),
 xo 16 (.bit .shr (xt 15) (.const (.int .u64 8))),
 xo 0 (.mv (xt 16))] [0,2]
def c87_16 : XC := fun _ => .region [] [xo 17 (.mv (xt 2)),
 xo 18 (.bin .add (xt 17) (xi 8)),
 xo 2 (.mv (xt 18))] [0,2]
def c87_17 : XC := fun _ => .seq c87_15 c87_16
def c87_18 : XC := fun _ => .cond (xt 14) c87_17 (fun _ => .skip)
def c87_19 : XC := fun _ => .seq c87_14 c87_18
def c87_20 : XC := fun _ => .region [] [xo 19 (.mv (xt 2)),
 xo 20 (.mv (xt 0)),
 xo 21 (.conv .u8 (xt 20)),
 xo 22 (.sidx (.const (.string ⟨#[0, 1, 2, 2, 3, 3, 3, 3, 4, 4, 4, 4, 4, 4, 4, 4, 5, 5, 5, 5, 5, 5, 5, 5, 5, 5, 5, 5, 5, 5, 5, 5, 6, 6, 6, 6, 6, 6, 6, 6, 6, 6, 6, 6, 6, 6, 6, 6, 6, 6, 6, 6, 6, 6, 6, 6, 6, 6, 6, 6, 6, 6, 6, 6, 7, 7, 7, 7, 7, 7, 7, 7, 7, 7, 7, 7, 7, 7, 7, 7, 7, 7, 7, 7, 7, 7, 7, 7, 7, 7, 7, 7, 7, 7, 7, 7, 7, 7, 7, 7, 7, 7, 7, 7, 7, 7, 7, 7, 7, 7, 7, 7, 7, 7, 7, 7, 7, 7, 7, 7, 7, 7, 7, 7, 7, 7, 7, 7, 8, 8, 8, 8, 8, 8, 8, 8, 8, 8, 8, 8, 8, 8, 8, 8, 8, 8, 8, 8, 8, 8, 8, 8, 8, 8, 8, 8, 8, 8, 8, 8, 8, 8, 8, 8, 8, 8, 8, 8, 8, 8, 8, 8, 8, 8, 8, 8, 8, 8, 8, 8, 8, 8, 8, 8, 8, 8, 8, 8, 8, 8, 8, 8, 8, 8, 8, 8, 8, 8, 8, 8, 8, 8, 8, 8, 8, 8, 8, 8, 8, 8, 8, 8, 8, 8, 8, 8, 8, 8, 8, 8, 8, 8, 8, 8, 8, 8, 8, 8, 8, 8, 8, 8, 8, 8, 8, 8, 8, 8, 8, 8, 8, 8, 8, 8, 8, 8, 8, 8, 8, 8, 8, 8, 8, 8, 8, 8]⟩)) (xt 21)),
 xo 23 (.conv .i64 (xt 22)),
 xo 24 (.bin .add (xt 19) (xt 23)),
 xo 2 (.mv (xt 24))] [2]
def c87_21 : XC := fun _ => .seq c87_20 (fun _ => .ret)
def c87_22 : XC := fun _ => .seq c87_19 c87_21
def c87_23 : XC := fun _ => .seq c87_13 c87_22
def c87_24 : XC := fun _ => .seq c87_7 c87_23
def c87_25 : XC := fun _ => .seq c87_1 c87_24
def m_math_bits_Len64 : MCode := c87_25 ()
def h_math_bits_Len64 : Hints := [(0, [0,2], [], [], []), (1, [0,2,4], [], [], []), (2, [0], [], [], []), (3, [0,2], [], [], []), (4, [0,2,8], [], [], []), (5, [0,2], [], [], []), (6, [0,2], [], [], []), (7, [0,2,14], [], [], []), (8, [0,2], [], [], []), (9, [0,2], [], [], []), (10, [2], [], [], [])]
def r_math_bits_Len64 : List RV := [.t 2]
abbrev n_math_bits_Len64 : Nat := 87
theorem k_math_bits_Len64 : Known Pr mu n_math_bits_Len64 m_math_bits_Len64 r_math_bits_Len64 Go.Proofs.Try.f87.ntmps := .of h_math_bits_Len64 hm Go.Proofs.Try.func87
def c93_1 : XC := fun _ => .region [] [xo 2 (.mv (xb false))] [0]
def c93_2 : XC := fun _ => .region [] [xo 3 (.mv (xt 0)),
 xo 4 (.mv (xt 0)),
 xo 5 (.bin .neq (xt 3) (xt 4)),
 xo 2 (.mv (xt 5))] [2]
def c93_3 : XC := fun _ => .seq c93_2 (fun _ => .ret)
def c93_4 : XC := fun _ => .seq c93_1 c93_3
def m_cmp_isNaN_int : MCode := c93_4 ()
def h_cmp_isNaN_int : Hints := [(0, [0], [], [], []), (1, [2], [], [], [])]
def r_cmp_isNaN_int : List RV := [.t 2]
abbrev n_cmp_isNaN_int : Nat := 93
theorem k_cmp_isNaN_int : Known Pr mu n_cmp_isNaN_int m_cmp_isNaN_int r_cmp_isNaN_int Go.Proofs.Try.f93.ntmps := .of h_cmp_isNaN_int hm Go.Proofs.Try.func93
end Go.V.T
