/- The short code of the functions that FnExactRunProposal reaches, held against the program. Conditions: none. -/
import Derived.Test.YtgdhfdkdbfeagaaV6
import Derived.Test.YtgdhfdkdbfeagaaProg
namespace Go.V.T
open Go Go.V
noncomputable abbrev Pr := Go.Proofs.Try.prog
def mu : Nat → Bool := fun n => Nat.beq n 16 || Nat.beq n 17 || Nat.beq n 42 || Nat.beq n 43 || Nat.beq n 57 || Nat.beq n 112 || Nat.beq n 121 || Nat.beq n 122 || Nat.beq n 139 || Nat.beq n 145 || Nat.beq n 146 || Nat.beq n 147 || Nat.beq n 149 || Nat.beq n 150 || Nat.beq n 152 || Nat.beq n 153 || Nat.beq n 156 || Nat.beq n 1000020 || Nat.beq n 1000029 || Nat.beq n 1000071 || Nat.beq n 1000072 || Nat.beq n 1000073 || Nat.beq n 1000074 || Nat.beq n 1000115 || Nat.beq n 1000116 || Nat.beq n 1000117 || Nat.beq n 1000118 || Nat.beq n 2000070
def muc : Nat → Bool := fun n => Nat.beq n 3000000 || mu n
abbrev XC := Unit → MCode
def xt (n : Nat) : Operand := .tmp n
def xi (n : Int) : Operand := .const (.int .i64 n)
def xb (b : Bool) : Operand := .const (.bool b)
def xo (d : Nat) (m : MOp) : MOper := ⟨some d, m, none, []⟩
def xn (m : MOp) : MOper := ⟨none, m, none, []⟩
theorem hm : Pr.follows .mixedOrders = true := by kernel_rfl
def c8_1 : XC := fun _ => .region [] [xo 3 (.box (xt 1)),
 xo 4 (.mv (xb false))] [0,3]
def c8_2 : XC := fun _ => .region [] [xo 5 (.mv (xi 1048576))] [0,3,5]
def c8_3 : XC := fun _ => .region [] [xo 20 (.mv (xt 0)),
 xo 21 (.mv (xt 5)),
 xo 22 (.call 36 [(xt 20), (xt 21)]),
 xo 5 (.mv (xt 22))] [0,3,5]
def c8_4 : XC := fun _ => .region [] [xo 23 (.mv (xt 5)),
 xo 24 (.bin .lss (xt 23) (xi 0))] [0,3,5,24]
def c8_5 : XC := fun _ => .region [] [xo 4 (.mv (xb true))] [4]
def c8_6 : XC := fun _ => .seq c8_5 (fun _ => .ret)
def c8_7 : XC := fun _ => .cond (xt 24) c8_6 (fun _ => .skip)
def c8_8 : XC := fun _ => .seq c8_4 c8_7
def c8_9 : XC := fun _ => .region [] [xo 25 (.ld (xt 3) 7 true),
 xo 26 (.mv (xt 5)),
 xo 27 (.call 52 [(xt 25), (xt 26)]),
 xo 5 (.mv (xt 27))] [0,3,5]
def c8_10 : XC := fun _ => .region [] [xo 28 (.mv (xt 5)),
 xo 29 (.bin .lss (xt 28) (xi 0))] [0,3,29]
def c8_11 : XC := fun _ => .region [] [xo 4 (.mv (xb true))] [4]
def c8_12 : XC := fun _ => .seq c8_11 (fun _ => .ret)
def c8_13 : XC := fun _ => .cond (xt 29) c8_12 (fun _ => .skip)
def c8_14 : XC := fun _ => .seq c8_10 c8_13
def c8_15 : XC := fun _ => .region [] [xo 31 (.mv (xt 0)),
 xo 32 (.call 38 [(xt 31)]),
 ⟨(some 33), .ld (xt 3) 7 true, none, [0, 1]⟩,
 xo 34 (.call 54 [(xt 33)]),
 xo 35 (.call 53 [(xt 32), (xt 34)]),
 xo 30 (.mv (xt 35)),
 xo 36 (.ext (xt 30) 0),
 xo 37 (.ext (xt 30) 1),
 xo 38 (.ext (xt 30) 2),
 xo 7 (.alloc [.int .i64 0, .int .i64 0, .slice none 0 0, .slice none 0 0]),
 xo 6 (.mv (xt 36)),
 xn (.sto (xt 7) (xt 37) 4),
 xo 8 (.mv (xt 38))] [0,3,6,7,8]
def c8_16 : XC := fun _ => .region [] [xo 39 (.mv (xt 0)),
 xo 40 (.call 38 [(xt 39)]),
 xo 9 (.mv (xt 40))] [0,3,6,7,8,9]
def c8_17 : XC := fun _ => .region [] [xo 41 (.ld (xt 3) 7 true),
 xo 42 (.call 54 [(xt 41)]),
 xo 10 (.alloc [.int .i64 0, .slice none 0 0, .slice none 0 0, .int .i64 0, .int .i64 0, .slice none 0 0, .slice none 0 0]),
 xn (.sto (xt 10) (xt 42) 7)] [0,3,6,7,8,9,10]
def c8_18 : XC := fun _ => .region [] [xo 44 (.mv (xt 9)),
 xo 45 (.ld (xt 10) 7 true),
 xo 46 (.call 55 [(xt 44), (xt 45)]),
 xo 43 (.mv (xt 46)),
 xo 47 (.ext (xt 43) 0),
 xo 48 (.ext (xt 43) 1),
 xo 49 (.ext (xt 43) 2),
 xo 12 (.alloc [.int .i64 0, .int .i64 0, .slice none 0 0, .slice none 0 0]),
 xo 11 (.mv (xt 47)),
 xn (.sto (xt 12) (xt 48) 4),
 xo 13 (.mv (xt 49))] [0,3,6,7,8,9,10,11,12,13]
def c8_19 : XC := fun _ => .region [] [xo 50 (.mv (xt 11)),
 xo 51 (.mv (xt 6)),
 xo 52 (.call 41 [(xt 50), (xt 51)]),
 xo 53 (.not (xt 52)),
 xo 54 (.mv (xt 53)),
 ⟨(some 55), .ld (xt 12) 4 true, (some (54, false)), []⟩,
 ⟨(some 56), .ld (xt 7) 4 true, (some (54, false)), []⟩,
 ⟨(some 57), .call 40 [(xt 55), (xt 56)], (some (54, false)), []⟩,
 ⟨(some 58), .not (xt 57), (some (54, false)), []⟩,
 xo 59 (.pick (xt 54) (xb true) (xt 58)),
 xo 60 (.mv (xt 59)),
 ⟨(some 61), .mv (xt 13), (some (60, false)), []⟩,
 ⟨(some 62), .mv (xt 8), (some (60, false)), []⟩,
 ⟨(some 63), .bbin .neq (xt 61) (xt 62), (some (60, false)), []⟩,
 xo 64 (.pick (xt 60) (xb true) (xt 63))] [0,3,6,7,8,9,10,11,12,13,64]
def c8_20 : XC := fun _ => .region [] [xo 4 (.mv (xb false))] [4]
def c8_21 : XC := fun _ => .seq c8_20 (fun _ => .ret)
def c8_22 : XC := fun _ => .cond (xt 64) c8_21 (fun _ => .skip)
def c8_23 : XC := fun _ => .seq c8_19 c8_22
def c8_24 : XC := fun _ => .region [] [xo 65 (.mv (xt 9)),
 xo 66 (.mv (xt 0)),
 xo 67 (.call 38 [(xt 66)]),
 xo 68 (.call 41 [(xt 65), (xt 67)]),
 xo 69 (.not (xt 68))] [0,3,6,7,8,9,10,11,12,13,69]
def c8_25 : XC := fun _ => .region [] [xo 4 (.mv (xb false))] [4]
def c8_26 : XC := fun _ => .seq c8_25 (fun _ => .ret)
def c8_27 : XC := fun _ => .cond (xt 69) c8_26 (fun _ => .skip)
def c8_28 : XC := fun _ => .seq c8_24 c8_27
def c8_29 : XC := fun _ => .region [] [xo 70 (.ld (xt 10) 7 true),
 ⟨(some 71), .ld (xt 3) 7 true, none, [0]⟩,
 ⟨(some 72), .call 54 [(xt 71)], none, [0]⟩,
 xo 73 (.call 56 [(xt 70), (xt 72)]),
 xo 74 (.not (xt 73))] [0,3,6,7,8,9,10,11,12,13,74]
def c8_30 : XC := fun _ => .region [] [xo 4 (.mv (xb false))] [4]
def c8_31 : XC := fun _ => .seq c8_30 (fun _ => .ret)
def c8_32 : XC := fun _ => .cond (xt 74) c8_31 (fun _ => .skip)
def c8_33 : XC := fun _ => .seq c8_29 c8_32
def c8_34 : XC := fun _ => .region [] [xo 14 (.mv (xi 1))] [0,3,6,7,8,9,10,11,12,13,14]
def c8_35 : XC := fun _ => .region [] [xo 75 (.mv (xt 9)),
 xo 76 (.mv (xt 14)),
 xo 77 (.callm 42 [(xt 75), (xt 76)]),
 xo 14 (.mv (xt 77))] [0,3,6,7,8,10,11,12,13,14]
def c8_36 : XC := fun _ => .region [] [xo 78 (.ld (xt 10) 7 true),
 xo 79 (.mv (xt 14)),
 xo 80 (.callm 57 [(xt 78), (xt 79)]),
 xo 14 (.mv (xt 80))] [0,3,6,7,8,11,12,13,14]
def c8_37 : XC := fun _ => .region [] [xo 81 (.mv (xt 14)),
 xo 82 (.bin .lss (xt 81) (xi 0)),
 xo 83 (.mv (xt 82)),
 ⟨(some 84), .mv (xt 11), (some (83, false)), []⟩,
 ⟨(some 85), .mv (xt 6), (some (83, false)), []⟩,
 ⟨(some 86), .call 41 [(xt 84), (xt 85)], (some (83, false)), []⟩,
 ⟨(some 87), .not (xt 86), (some (83, false)), []⟩,
 xo 88 (.pick (xt 83) (xb true) (xt 87)),
 xo 89 (.mv (xt 88)),
 ⟨(some 90), .ld (xt 12) 4 true, (some (89, false)), []⟩,
 ⟨(some 91), .ld (xt 7) 4 true, (some (89, false)), []⟩,
 ⟨(some 92), .call 40 [(xt 90), (xt 91)], (some (89, false)), []⟩,
 ⟨(some 93), .not (xt 92), (some (89, false)), []⟩,
 xo 94 (.pick (xt 89) (xb true) (xt 93)),
 xo 95 (.mv (xt 94)),
 ⟨(some 96), .mv (xt 13), (some (95, false)), []⟩,
 ⟨(some 97), .mv (xt 8), (some (95, false)), []⟩,
 ⟨(some 98), .bbin .neq (xt 96) (xt 97), (some (95, false)), []⟩,
 xo 99 (.pick (xt 95) (xb true) (xt 98))] [0,3,6,7,8,11,12,99]
def c8_38 : XC := fun _ => .region [] [xo 4 (.mv (xb false))] [4]
def c8_39 : XC := fun _ => .seq c8_38 (fun _ => .ret)
def c8_40 : XC := fun _ => .cond (xt 99) c8_39 (fun _ => .skip)
def c8_41 : XC := fun _ => .seq c8_37 c8_40
def c8_42 : XC := fun _ => .region [] [xo 15 (.mv (xi 1))] [0,3,6,7,8,11,12,15]
def c8_43 : XC := fun _ => .region [] [xo 100 (.mv (xt 11)),
 xo 101 (.mv (xt 15)),
 xo 102 (.callm 42 [(xt 100), (xt 101)]),
 xo 15 (.mv (xt 102))] [0,3,6,7,8,11,12,15]
def c8_44 : XC := fun _ => .region [] [xo 103 (.ld (xt 12) 4 true),
 xo 104 (.mv (xt 15)),
 xo 105 (.callm 43 [(xt 103), (xt 104)]),
 xo 15 (.mv (xt 105))] [0,3,6,7,8,11,12,15]
def c8_45 : XC := fun _ => .region [] [xo 16 (.mv (xi 1))] [0,3,6,7,8,11,12,15,16]
def c8_46 : XC := fun _ => .region [] [xo 106 (.mv (xt 11)),
 xo 107 (.mv (xt 16)),
 xo 108 (.call 58 [(xt 106), (xt 107)]),
 xo 16 (.mv (xt 108))] [0,3,6,7,8,11,12,15,16]
def c8_47 : XC := fun _ => .region [] [xo 109 (.mv (xt 16)),
 xo 110 (.bin .lss (xt 109) (xi 0))] [0,3,6,7,8,11,12,15,16,110]
def c8_48 : XC := fun _ => .region [] [xo 4 (.mv (xb false))] [4]
def c8_49 : XC := fun _ => .seq c8_48 (fun _ => .ret)
def c8_50 : XC := fun _ => .cond (xt 110) c8_49 (fun _ => .skip)
def c8_51 : XC := fun _ => .seq c8_47 c8_50
def c8_52 : XC := fun _ => .region [] [xo 111 (.ld (xt 12) 4 true),
 xo 112 (.mv (xt 16)),
 xo 113 (.call 44 [(xt 111), (xt 112)]),
 xo 16 (.mv (xt 113))] [0,3,6,7,8,11,12,15,16]
def c8_53 : XC := fun _ => .region [] [xo 114 (.mv (xt 16)),
 xo 115 (.bin .lss (xt 114) (xi 0))] [0,3,6,7,8,11,12,15,16,115]
def c8_54 : XC := fun _ => .region [] [xo 4 (.mv (xb false))] [4]
def c8_55 : XC := fun _ => .seq c8_54 (fun _ => .ret)
def c8_56 : XC := fun _ => .cond (xt 115) c8_55 (fun _ => .skip)
def c8_57 : XC := fun _ => .seq c8_53 c8_56
def c8_58 : XC := fun _ => .region [] [xo 116 (.mv (xt 16)),
 xo 117 (.mv (xt 15)),
 xo 118 (.bin .neq (xt 116) (xt 117))] [0,3,6,7,8,11,12,15,118]
def c8_59 : XC := fun _ => .region [] [xo 4 (.mv (xb false))] [4]
def c8_60 : XC := fun _ => .seq c8_59 (fun _ => .ret)
def c8_61 : XC := fun _ => .cond (xt 118) c8_60 (fun _ => .skip)
def c8_62 : XC := fun _ => .seq c8_58 c8_61
def c8_63 : XC := fun _ => .region [] [xo 120 (.mv (xt 0)),
 xo 121 (.call 38 [(xt 120)]),
 ⟨(some 122), .ld (xt 3) 7 true, none, [0, 1]⟩,
 xo 123 (.call 54 [(xt 122)]),
 xo 124 (.call 55 [(xt 121), (xt 123)]),
 xo 119 (.mv (xt 124)),
 xo 125 (.ext (xt 119) 0),
 xo 126 (.ext (xt 119) 1),
 xo 127 (.ext (xt 119) 2),
 xo 18 (.alloc [.int .i64 0, .int .i64 0, .slice none 0 0, .slice none 0 0]),
 xo 17 (.mv (xt 125)),
 xn (.sto (xt 18) (xt 126) 4),
 xo 19 (.mv (xt 127))] [6,7,8,11,12,15,17,18,19]
def c8_64 : XC := fun _ => .region [] [xo 128 (.mv (xt 17)),
 xo 129 (.mv (xt 6)),
 xo 130 (.call 41 [(xt 128), (xt 129)]),
 xo 131 (.not (xt 130)),
 xo 132 (.mv (xt 131)),
 ⟨(some 133), .ld (xt 18) 4 true, (some (132, false)), []⟩,
 ⟨(some 134), .ld (xt 7) 4 true, (some (132, false)), []⟩,
 ⟨(some 135), .call 40 [(xt 133), (xt 134)], (some (132, false)), []⟩,
 ⟨(some 136), .not (xt 135), (some (132, false)), []⟩,
 xo 137 (.pick (xt 132) (xb true) (xt 136)),
 xo 138 (.mv (xt 137)),
 ⟨(some 139), .mv (xt 19), (some (138, false)), []⟩,
 ⟨(some 140), .mv (xt 8), (some (138, false)), []⟩,
 ⟨(some 141), .bbin .neq (xt 139) (xt 140), (some (138, false)), []⟩,
 xo 142 (.pick (xt 138) (xb true) (xt 141))] [11,12,15,142]
def c8_65 : XC := fun _ => .region [] [xo 4 (.mv (xb false))] [4]
def c8_66 : XC := fun _ => .seq c8_65 (fun _ => .ret)
def c8_67 : XC := fun _ => .cond (xt 142) c8_66 (fun _ => .skip)
def c8_68 : XC := fun _ => .seq c8_64 c8_67
def c8_69 : XC := fun _ => .region [] [xo 16 (.mv (xi 1))] [11,12,15,16]
def c8_70 : XC := fun _ => .region [] [xo 143 (.mv (xt 11)),
 xo 144 (.mv (xt 16)),
 xo 145 (.call 58 [(xt 143), (xt 144)]),
 xo 16 (.mv (xt 145))] [12,15,16]
def c8_71 : XC := fun _ => .region [] [xo 146 (.mv (xt 16)),
 xo 147 (.bin .lss (xt 146) (xi 0))] [12,15,16,147]
def c8_72 : XC := fun _ => .region [] [xo 4 (.mv (xb false))] [4]
def c8_73 : XC := fun _ => .seq c8_72 (fun _ => .ret)
def c8_74 : XC := fun _ => .cond (xt 147) c8_73 (fun _ => .skip)
def c8_75 : XC := fun _ => .seq c8_71 c8_74
def c8_76 : XC := fun _ => .region [] [xo 148 (.ld (xt 12) 4 true),
 xo 149 (.mv (xt 16)),
 xo 150 (.call 44 [(xt 148), (xt 149)]),
 xo 16 (.mv (xt 150))] [15,16]
def c8_77 : XC := fun _ => .region [] [xo 151 (.mv (xt 16)),
 xo 152 (.bin .lss (xt 151) (xi 0))] [15,16,152]
def c8_78 : XC := fun _ => .region [] [xo 4 (.mv (xb false))] [4]
def c8_79 : XC := fun _ => .seq c8_78 (fun _ => .ret)
def c8_80 : XC := fun _ => .cond (xt 152) c8_79 (fun _ => .skip)
def c8_81 : XC := fun _ => .seq c8_77 c8_80
def c8_82 : XC := fun _ => .region [] [xo 153 (.mv (xt 16)),
 xo 154 (.mv (xt 15)),
 xo 155 (.bin .neq (xt 153) (xt 154))] [155]
def c8_83 : XC := fun _ => .region [] [xo 4 (.mv (xb false))] [4]
def c8_84 : XC := fun _ => .seq c8_83 (fun _ => .ret)
def c8_85 : XC := fun _ => .cond (xt 155) c8_84 (fun _ => .skip)
def c8_86 : XC := fun _ => .seq c8_82 c8_85
def c8_87 : XC := fun _ => .region [] [xo 4 (.mv (xb true))] [4]
def c8_88 : XC := fun _ => .seq c8_87 (fun _ => .ret)
def c8_89 : XC := fun _ => .seq c8_86 c8_88
def c8_90 : XC := fun _ => .seq c8_81 c8_89
def c8_91 : XC := fun _ => .seq c8_76 c8_90
def c8_92 : XC := fun _ => .seq c8_75 c8_91
def c8_93 : XC := fun _ => .seq c8_70 c8_92
def c8_94 : XC := fun _ => .seq c8_69 c8_93
def c8_95 : XC := fun _ => .seq c8_68 c8_94
def c8_96 : XC := fun _ => .seq c8_63 c8_95
def c8_97 : XC := fun _ => .seq c8_62 c8_96
def c8_98 : XC := fun _ => .seq c8_57 c8_97
def c8_99 : XC := fun _ => .seq c8_52 c8_98
def c8_100 : XC := fun _ => .seq c8_51 c8_99
def c8_101 : XC := fun _ => .seq c8_46 c8_100
def c8_102 : XC := fun _ => .seq c8_45 c8_101
def c8_103 : XC := fun _ => .seq c8_44 c8_102
def c8_104 : XC := fun _ => .seq c8_43 c8_103
def c8_105 : XC := fun _ => .seq c8_42 c8_104
def c8_106 : XC := fun _ => .seq c8_41 c8_105
def c8_107 : XC := fun _ => .seq c8_36 c8_106
def c8_108 : XC := fun _ => .seq c8_35 c8_107
def c8_109 : XC := fun _ => .seq c8_34 c8_108
def c8_110 : XC := fun _ => .seq c8_33 c8_109
def c8_111 : XC := fun _ => .seq c8_28 c8_110
def c8_112 : XC := fun _ => .seq c8_23 c8_111
def c8_113 : XC := fun _ => .seq c8_18 c8_112
def c8_114 : XC := fun _ => .seq c8_17 c8_113
def c8_115 : XC := fun _ => .seq c8_16 c8_114
def c8_116 : XC := fun _ => .seq c8_15 c8_115
def c8_117 : XC := fun _ => .seq c8_14 c8_116
def c8_118 : XC := fun _ => .seq c8_9 c8_117
def c8_119 : XC := fun _ => .seq c8_8 c8_118
def c8_120 : XC := fun _ => .seq c8_3 c8_119
def c8_121 : XC := fun _ => .seq c8_2 c8_120
def c8_122 : XC := fun _ => .seq c8_1 c8_121
def m_laws_FnExactRunProposal : MCode := c8_122 ()
def h_laws_FnExactRunProposal : Hints := [(0, [0,3], [], [], []), (1, [0,3,5], [], [], []), (2, [0,3,5], [], [], []), (3, [0,3,5,24], [], [], []), (4, [4], [], [], []), (5, [0,3,5], [], [], []), (6, [0,3,29], [], [], []), (7, [4], [], [], []), (8, [0,3,6,7,8], [[],[],[0,1]], [], [8]), (9, [0,3,6,7,8,9], [], [], []), (10, [0,3,6,7,8,9,10], [], [], []), (11, [0,3,6,7,8,9,10,11,12,13], [], [], []), (12, [0,3,6,7,8,9,10,11,12,13,64], [], [], []), (13, [4], [], [], []), (14, [0,3,6,7,8,9,10,11,12,13,69], [], [], []), (15, [4], [], [], []), (16, [0,3,6,7,8,9,10,11,12,13,74], [[],[0],[0]], [], []), (17, [4], [], [], []), (18, [0,3,6,7,8,9,10,11,12,13,14], [], [], []), (19, [0,3,6,7,8,10,11,12,13,14], [], [], []), (20, [0,3,6,7,8,11,12,13,14], [], [], []), (21, [0,3,6,7,8,11,12,99], [], [], []), (22, [4], [], [], []), (23, [0,3,6,7,8,11,12,15], [], [], []), (24, [0,3,6,7,8,11,12,15], [], [], []), (25, [0,3,6,7,8,11,12,15], [], [], []), (26, [0,3,6,7,8,11,12,15,16], [], [], []), (27, [0,3,6,7,8,11,12,15,16], [], [], []), (28, [0,3,6,7,8,11,12,15,16,110], [], [], []), (29, [4], [], [], []), (30, [0,3,6,7,8,11,12,15,16], [], [], []), (31, [0,3,6,7,8,11,12,15,16,115], [], [], []), (32, [4], [], [], []), (33, [0,3,6,7,8,11,12,15,118], [], [], []), (34, [4], [], [], []), (35, [6,7,8,11,12,15,17,18,19], [[],[],[0,1]], [], [8]), (36, [11,12,15,142], [], [], []), (37, [4], [], [], []), (38, [11,12,15,16], [], [], []), (39, [12,15,16], [], [], []), (40, [12,15,16,147], [], [], []), (41, [4], [], [], []), (42, [15,16], [], [], []), (43, [15,16,152], [], [], []), (44, [4], [], [], []), (45, [155], [], [], []), (46, [4], [], [], []), (47, [4], [], [], [])]
def r_laws_FnExactRunProposal : List RV := [.t 4]
abbrev n_laws_FnExactRunProposal : Nat := 8
theorem k_laws_FnExactRunProposal : Known Pr mu n_laws_FnExactRunProposal m_laws_FnExactRunProposal r_laws_FnExactRunProposal Go.Proofs.Try.f8.ntmps := .of h_laws_FnExactRunProposal hm Go.Proofs.Try.func8
def c12_1 : XC := fun _ => .region [] [xo 2 (.mv (.const (.slice none 0 0)))] [0]
def c12_2 : XC := fun _ => .region [] [xo 5 (.mv (xt 0)),
 xo 6 (.len false (xt 5)),
 xo 7 (.mks 1 8 [.int .i64 0] (xt 6) (xt 6)),
 xo 3 (.mv (xt 7))] [0,3]
def c12_3 : XC := fun _ => .region [] [xo 4 (.mv (xi 0))] [0,3,4]
def c12_4 : XC := fun _ => .region [] [xo 8 (.mv (xt 4)),
 xo 9 (.mv (xt 0)),
 xo 10 (.len false (xt 9)),
 xo 11 (.bin .lss (xt 8) (xt 10))] [0,3,4,11]
def c12_5 : XC := fun _ => .cond (xt 11) (fun _ => .skip) (fun _ => .exit 0)
def c12_6 : XC := fun _ => .seq c12_4 c12_5
def c12_7 : XC := fun _ => .region [] [xo 14 (.mv (xt 3)),
 xo 15 (.mv (xt 4)),
 xo 16 (.mv (xt 0)),
 xo 17 (.mv (xt 4)),
 xo 18 (.ia (xt 16) (xt 17) 1),
 xo 19 (.ld (xt 18) 1 false),
 xo 20 (.ia (xt 14) (xt 15) 1),
 xn (.sto (xt 20) (xt 19) 1)] [0,3,4]
def c12_8 : XC := fun _ => .block 1 c12_7
def c12_9 : XC := fun _ => .region [] [xo 12 (.mv (xt 4)),
 xo 13 (.bin .add (xt 12) (xi 1)),
 xo 4 (.mv (xt 13))] [0,3,4]
def c12_10 : XC := fun _ => .seq c12_8 c12_9
def c12_11 : XC := fun _ => .seq c12_6 c12_10
def c12_12 : XC := fun _ => .loop c12_11
def c12_13 : XC := fun _ => .block 0 c12_12
def c12_14 : XC := fun _ => .seq c12_3 c12_13
def c12_15 : XC := fun _ => .region [] [xo 21 (.mv (xt 3)),
 xo 2 (.mv (xt 21))] [2]
def c12_16 : XC := fun _ => .seq c12_15 (fun _ => .ret)
def c12_17 : XC := fun _ => .seq c12_14 c12_16
def c12_18 : XC := fun _ => .seq c12_2 c12_17
def c12_19 : XC := fun _ => .seq c12_1 c12_18
def m_laws_toIntS : MCode := c12_19 ()
def h_laws_toIntS : Hints := [(0, [0], [], [], []), (1, [0,3], [], [], []), (2, [0,3,4], [], [], []), (3, [0,3,4,11], [], [], []), (5, [0,3,4], [], [], []), (4, [0,3,4], [], [], []), (6, [2], [], [], [])]
def r_laws_toIntS : List RV := [.t 2]
abbrev n_laws_toIntS : Nat := 12
theorem k_laws_toIntS : Known Pr mu n_laws_toIntS m_laws_toIntS r_laws_toIntS Go.Proofs.Try.f12.ntmps := .of h_laws_toIntS hm Go.Proofs.Try.func12
def c14_1 : XC := fun _ => .region [] [xo 4 (.mv (xb false))] [0,1]
def c14_2 : XC := fun _ => .region [] [xo 6 (.mv (xt 0)),
 xo 7 (.len false (xt 6)),
 xo 8 (.mv (xt 1)),
 xo 9 (.len false (xt 8)),
 xo 10 (.bin .neq (xt 7) (xt 9))] [0,1,10]
def c14_3 : XC := fun _ => .region [] [xo 4 (.mv (xb false))] [4]
def c14_4 : XC := fun _ => .seq c14_3 (fun _ => .ret)
def c14_5 : XC := fun _ => .cond (xt 10) c14_4 (fun _ => .skip)
def c14_6 : XC := fun _ => .seq c14_2 c14_5
def c14_7 : XC := fun _ => .region [] [xo 5 (.mv (xi 0))] [0,1,5]
def c14_8 : XC := fun _ => .region [] [xo 11 (.mv (xt 5)),
 xo 12 (.mv (xt 0)),
 xo 13 (.len false (xt 12)),
 xo 14 (.bin .lss (xt 11) (xt 13))] [0,1,5,14]
def c14_9 : XC := fun _ => .cond (xt 14) (fun _ => .skip) (fun _ => .exit 0)
def c14_10 : XC := fun _ => .seq c14_8 c14_9
def c14_11 : XC := fun _ => .region [] [xo 17 (.mv (xt 0)),
 xo 18 (.mv (xt 5)),
 xo 19 (.ia (xt 17) (xt 18) 1),
 xo 20 (.ld (xt 19) 1 false),
 xo 21 (.mv (xt 1)),
 xo 22 (.mv (xt 5)),
 ⟨(some 23), .ia (xt 21) (xt 22) 1, none, [0, 1, 2, 3]⟩,
 ⟨(some 24), .ld (xt 23) 1 false, none, [0, 1, 2, 3]⟩,
 xo 25 (.bin .neq (xt 20) (xt 24))] [0,1,5,25]
def c14_12 : XC := fun _ => .region [] [xo 4 (.mv (xb false))] [4]
def c14_13 : XC := fun _ => .seq c14_12 (fun _ => .ret)
def c14_14 : XC := fun _ => .cond (xt 25) c14_13 (fun _ => .skip)
def c14_15 : XC := fun _ => .seq c14_11 c14_14
def c14_16 : XC := fun _ => .block 1 c14_15
def c14_17 : XC := fun _ => .region [] [xo 15 (.mv (xt 5)),
 xo 16 (.bin .add (xt 15) (xi 1)),
 xo 5 (.mv (xt 16))] [0,1,5]
def c14_18 : XC := fun _ => .seq c14_16 c14_17
def c14_19 : XC := fun _ => .seq c14_10 c14_18
def c14_20 : XC := fun _ => .loop c14_19
def c14_21 : XC := fun _ => .block 0 c14_20
def c14_22 : XC := fun _ => .seq c14_7 c14_21
def c14_23 : XC := fun _ => .region [] [xo 4 (.mv (xb true))] [4]
def c14_24 : XC := fun _ => .seq c14_23 (fun _ => .ret)
def c14_25 : XC := fun _ => .seq c14_22 c14_24
def c14_26 : XC := fun _ => .seq c14_6 c14_25
def c14_27 : XC := fun _ => .seq c14_1 c14_26
def m_laws_eqIntS : MCode := c14_27 ()
def h_laws_eqIntS : Hints := [(0, [0,1], [], [], []), (1, [0,1,10], [], [], []), (2, [4], [], [], []), (3, [0,1,5], [], [], []), (4, [0,1,5,14], [], [], []), (6, [0,1,5,25], [[],[],[],[],[],[],[0,1,2,3],[0,1,2,3]], [], []), (7, [4], [], [], []), (5, [0,1,5], [], [], []), (8, [4], [], [], [])]
def r_laws_eqIntS : List RV := [.t 4]
abbrev n_laws_eqIntS : Nat := 14
theorem k_laws_eqIntS : Known Pr mu n_laws_eqIntS m_laws_eqIntS r_laws_eqIntS Go.Proofs.Try.f14.ntmps := .of h_laws_eqIntS hm Go.Proofs.Try.func14
def c17_1 : XC := fun _ => .region [] [xo 4 (.mv (xi 0))] [0,1]
def c17_2 : XC := fun _ => .region [] [xo 5 (.mv (xi 0))] [0,1,5]
def c17_3 : XC := fun _ => .region [] [xo 6 (.mv (xt 5)),
 xo 7 (.mv (xt 0)),
 xo 8 (.len false (xt 7)),
 xo 9 (.bin .lss (xt 6) (xt 8))] [0,1,5,9]
def c17_4 : XC := fun _ => .cond (xt 9) (fun _ => .skip) (fun _ => .exit 0)
def c17_5 : XC := fun _ => .seq c17_3 c17_4
def c17_6 : XC := fun _ => .region [] [xo 12 (.mv (xt 0)),
 xo 13 (.mv (xt 5)),
 xo 14 (.mv (xt 1)),
 xo 15 (.ia (xt 12) (xt 13) 1),
 xn (.sto (xt 15) (xt 14) 1)] [0,1,5]
def c17_7 : XC := fun _ => .region [] [xo 16 (.mv (xt 1)),
 xo 17 (.bin .add (xt 16) (xi 1)),
 xo 1 (.mv (xt 17))] [0,1,5]
def c17_8 : XC := fun _ => .seq c17_6 c17_7
def c17_9 : XC := fun _ => .block 1 c17_8
def c17_10 : XC := fun _ => .region [] [xo 10 (.mv (xt 5)),
 xo 11 (.bin .add (xt 10) (xi 1)),
 xo 5 (.mv (xt 11))] [0,1,5]
def c17_11 : XC := fun _ => .seq c17_9 c17_10
def c17_12 : XC := fun _ => .seq c17_5 c17_11
def c17_13 : XC := fun _ => .loop c17_12
def c17_14 : XC := fun _ => .block 0 c17_13
def c17_15 : XC := fun _ => .seq c17_2 c17_14
def c17_16 : XC := fun _ => .region [] [xo 18 (.mv (xt 1)),
 xo 4 (.mv (xt 18))] [4]
def c17_17 : XC := fun _ => .seq c17_16 (fun _ => .ret)
def c17_18 : XC := fun _ => .seq c17_15 c17_17
def c17_19 : XC := fun _ => .seq c17_1 c17_18
def m_laws_markIntS : MCode := c17_19 ()
def h_laws_markIntS : Hints := [(0, [0,1], [], [], []), (1, [0,1,5], [], [], []), (2, [0,1,5,9], [], [], []), (4, [0,1,5], [], [], []), (5, [0,1,5], [], [], []), (3, [0,1,5], [], [], []), (6, [4], [], [], [])]
def r_laws_markIntS : List RV := [.t 4]
abbrev n_laws_markIntS : Nat := 17
theorem k_laws_markIntS : Known Pr mu n_laws_markIntS m_laws_markIntS r_laws_markIntS Go.Proofs.Try.f17.ntmps := .of h_laws_markIntS hm Go.Proofs.Try.func17
def c18_1 : XC := fun _ => .region [] [xo 4 (.mv (xi 0))] [0,1]
def c18_2 : XC := fun _ => .region [] [xo 5 (.mv (xi 0))] [0,1,5]
def c18_3 : XC := fun _ => .region [] [xo 6 (.mv (xt 5)),
 xo 7 (.mv (xt 0)),
 xo 8 (.len false (xt 7)),
 xo 9 (.bin .lss (xt 6) (xt 8))] [0,1,5,9]
def c18_4 : XC := fun _ => .cond (xt 9) (fun _ => .skip) (fun _ => .exit 0)
def c18_5 : XC := fun _ => .seq c18_3 c18_4
def c18_6 : XC := fun _ => .region [] [xo 12 (.mv (xt 0)),
 xo 13 (.mv (xt 5)),
 xo 14 (.ia (xt 12) (xt 13) 1),
 xo 15 (.ld (xt 14) 1 false),
 xo 16 (.mv (xt 1)),
 xo 17 (.bin .neq (xt 15) (xt 16))] [0,1,5,17]
def c18_7 : XC := fun _ => .region [] [xo 4 (.mv (xi (-1)))] [4]
def c18_8 : XC := fun _ => .seq c18_7 (fun _ => .ret)
def c18_9 : XC := fun _ => .cond (xt 17) c18_8 (fun _ => .skip)
def c18_10 : XC := fun _ => .seq c18_6 c18_9
def c18_11 : XC := fun _ => .region [] [xo 18 (.mv (xt 1)),
 xo 19 (.bin .add (xt 18) (xi 1)),
 xo 1 (.mv (xt 19))] [0,1,5]
def c18_12 : XC := fun _ => .seq c18_10 c18_11
def c18_13 : XC := fun _ => .block 1 c18_12
def c18_14 : XC := fun _ => .region [] [xo 10 (.mv (xt 5)),
 xo 11 (.bin .add (xt 10) (xi 1)),
 xo 5 (.mv (xt 11))] [0,1,5]
def c18_15 : XC := fun _ => .seq c18_13 c18_14
def c18_16 : XC := fun _ => .seq c18_5 c18_15
def c18_17 : XC := fun _ => .loop c18_16
def c18_18 : XC := fun _ => .block 0 c18_17
def c18_19 : XC := fun _ => .seq c18_2 c18_18
def c18_20 : XC := fun _ => .region [] [xo 20 (.mv (xt 1)),
 xo 4 (.mv (xt 20))] [4]
def c18_21 : XC := fun _ => .seq c18_20 (fun _ => .ret)
def c18_22 : XC := fun _ => .seq c18_19 c18_21
def c18_23 : XC := fun _ => .seq c18_1 c18_22
def m_laws_heldIntS : MCode := c18_23 ()
def h_laws_heldIntS : Hints := [(0, [0,1], [], [], []), (1, [0,1,5], [], [], []), (2, [0,1,5,9], [], [], []), (4, [0,1,5,17], [], [], []), (5, [4], [], [], []), (6, [0,1,5], [], [], []), (3, [0,1,5], [], [], []), (7, [4], [], [], [])]
def r_laws_heldIntS : List RV := [.t 4]
abbrev n_laws_heldIntS : Nat := 18
theorem k_laws_heldIntS : Known Pr mu n_laws_heldIntS m_laws_heldIntS r_laws_heldIntS Go.Proofs.Try.f18.ntmps := .of h_laws_heldIntS hm Go.Proofs.Try.func18
def c23_1 : XC := fun _ => .region [] [xo 2 (.mv (xb false))] [0]
def c23_2 : XC := fun _ => .region [] [xo 3 (.mv (xi 0))] [0,3]
def c23_3 : XC := fun _ => .region [] [xo 4 (.mv (xt 3)),
 xo 5 (.mv (xt 0)),
 xo 6 (.len false (xt 5)),
 xo 7 (.bin .lss (xt 4) (xt 6))] [0,3,7]
def c23_4 : XC := fun _ => .cond (xt 7) (fun _ => .skip) (fun _ => .exit 0)
def c23_5 : XC := fun _ => .seq c23_3 c23_4
def c23_6 : XC := fun _ => .region [] [xo 10 (.mv (xt 0)),
 xo 11 (.mv (xt 3)),
 xo 12 (.ia (xt 10) (xt 11) 1),
 xo 13 (.ld (xt 12) 1 false),
 xo 14 (.call 59 [(xt 13), (xi 0), (xi 4)]),
 xo 15 (.not (xt 14)),
 xo 16 (.mv (xt 15)),
 ⟨(some 17), .mv (xt 3), (some (16, false)), []⟩,
 ⟨(some 18), .bin .gtr (xt 17) (xi 0), (some (16, false)), []⟩,
 ⟨(some 19), .mv (xt 18), (some (16, false)), []⟩,
 ⟨(some 20), .mv (xt 0), (some (19, true)), []⟩,
 ⟨(some 21), .mv (xt 3), (some (19, true)), []⟩,
 ⟨(some 22), .bin .sub (xt 21) (xi 1), (some (19, true)), []⟩,
 ⟨(some 23), .ia (xt 20) (xt 22) 1, (some (19, true)), []⟩,
 ⟨(some 24), .ld (xt 23) 1 false, (some (19, true)), []⟩,
 ⟨(some 25), .mv (xt 0), (some (19, true)), []⟩,
 ⟨(some 26), .mv (xt 3), (some (19, true)), []⟩,
 ⟨(some 27), .ia (xt 25) (xt 26) 1, (some (19, true)), [10, 11, 12, 13, 14]⟩,
 ⟨(some 28), .ld (xt 27) 1 false, (some (19, true)), [10, 11, 12, 13, 14]⟩,
 ⟨(some 29), .bin .geq (xt 24) (xt 28), (some (19, true)), []⟩,
 ⟨(some 30), .pick (xt 19) (xt 29) (xb false), (some (16, false)), []⟩,
 xo 31 (.pick (xt 16) (xb true) (xt 30))] [0,3,31]
def c23_7 : XC := fun _ => .region [] [xo 2 (.mv (xb false))] [2]
def c23_8 : XC := fun _ => .seq c23_7 (fun _ => .ret)
def c23_9 : XC := fun _ => .cond (xt 31) c23_8 (fun _ => .skip)
def c23_10 : XC := fun _ => .seq c23_6 c23_9
def c23_11 : XC := fun _ => .block 1 c23_10
def c23_12 : XC := fun _ => .region [] [xo 8 (.mv (xt 3)),
 xo 9 (.bin .add (xt 8) (xi 1)),
 xo 3 (.mv (xt 9))] [0,3]
def c23_13 : XC := fun _ => .seq c23_11 c23_12
def c23_14 : XC := fun _ => .seq c23_5 c23_13
def c23_15 : XC := fun _ => .loop c23_14
def c23_16 : XC := fun _ => .block 0 c23_15
def c23_17 : XC := fun _ => .seq c23_2 c23_16
def c23_18 : XC := fun _ => .region [] [xo 2 (.mv (xb true))] [2]
def c23_19 : XC := fun _ => .seq c23_18 (fun _ => .ret)
def c23_20 : XC := fun _ => .seq c23_17 c23_19
def c23_21 : XC := fun _ => .seq c23_1 c23_20
def m_spec_AreServers : MCode := c23_21 ()
def h_spec_AreServers : Hints := [(0, [0], [], [], []), (1, [0,3], [], [], []), (2, [0,3,7], [], [], []), (4, [0,3,31], [[],[],[],[],[],[],[],[],[],[],[],[],[],[],[],[],[],[10,11,12,13,14],[10,11,12,13,14]], [], []), (5, [2], [], [], []), (3, [0,3], [], [], []), (6, [2], [], [], [])]
def r_spec_AreServers : List RV := [.t 2]
abbrev n_spec_AreServers : Nat := 23
theorem k_spec_AreServers : Known Pr mu n_spec_AreServers m_spec_AreServers r_spec_AreServers Go.Proofs.Try.f23.ntmps := .of h_spec_AreServers hm Go.Proofs.Try.func23
def c24_1 : XC := fun _ => .region [] [xo 4 (.mv (.const (.slice none 0 0)))] [0,1]
def c24_2 : XC := fun _ => .region [] [xo 7 (.bsl 1 0 [.int .i64 0] []),
 xo 5 (.mv (xt 7))] [0,1,5]
def c24_3 : XC := fun _ => .region [] [xo 6 (.mv (xi 0))] [0,1,5,6]
def c24_4 : XC := fun _ => .region [] [xo 8 (.mv (xt 6)),
 xo 9 (.mv (xt 0)),
 xo 10 (.len false (xt 9)),
 xo 11 (.bin .lss (xt 8) (xt 10))] [0,1,5,6,11]
def c24_5 : XC := fun _ => .cond (xt 11) (fun _ => .skip) (fun _ => .exit 0)
def c24_6 : XC := fun _ => .seq c24_4 c24_5
def c24_7 : XC := fun _ => .region [] [xo 14 (.mv (xt 1)),
 xo 15 (.mv (xt 0)),
 xo 16 (.mv (xt 6)),
 xo 17 (.ia (xt 15) (xt 16) 1),
 xo 18 (.ld (xt 17) 1 false),
 xo 19 (.call 28 [(xt 14), (xt 18)])] [0,1,5,6,19]
def c24_8 : XC := fun _ => .region [] [xo 20 (.mv (xt 5)),
 xo 21 (.mv (xt 0)),
 xo 22 (.mv (xt 6)),
 xo 23 (.ia (xt 21) (xt 22) 1),
 xo 24 (.ld (xt 23) 1 false),
 xo 25 (.call 60 [(xt 20), (xt 24)]),
 xo 5 (.mv (xt 25))] [0,1,5,6]
def c24_9 : XC := fun _ => .cond (xt 19) c24_8 (fun _ => .skip)
def c24_10 : XC := fun _ => .seq c24_7 c24_9
def c24_11 : XC := fun _ => .block 1 c24_10
def c24_12 : XC := fun _ => .region [] [xo 12 (.mv (xt 6)),
 xo 13 (.bin .add (xt 12) (xi 1)),
 xo 6 (.mv (xt 13))] [0,1,5,6]
def c24_13 : XC := fun _ => .seq c24_11 c24_12
def c24_14 : XC := fun _ => .seq c24_6 c24_13
def c24_15 : XC := fun _ => .loop c24_14
def c24_16 : XC := fun _ => .block 0 c24_15
def c24_17 : XC := fun _ => .seq c24_3 c24_16
def c24_18 : XC := fun _ => .region [] [xo 26 (.mv (xt 5)),
 xo 4 (.mv (xt 26))] [4]
def c24_19 : XC := fun _ => .seq c24_18 (fun _ => .ret)
def c24_20 : XC := fun _ => .seq c24_17 c24_19
def c24_21 : XC := fun _ => .seq c24_2 c24_20
def c24_22 : XC := fun _ => .seq c24_1 c24_21
def m_spec_CommonServers : MCode := c24_22 ()
def h_spec_CommonServers : Hints := [(0, [0,1], [], [], []), (1, [0,1,5], [], [], []), (2, [0,1,5,6], [], [], []), (3, [0,1,5,6,11], [], [], []), (5, [0,1,5,6,19], [], [], []), (6, [0,1,5,6], [], [], []), (4, [0,1,5,6], [], [], []), (7, [4], [], [], [])]
def r_spec_CommonServers : List RV := [.t 4]
abbrev n_spec_CommonServers : Nat := 24
theorem k_spec_CommonServers : Known Pr mu n_spec_CommonServers m_spec_CommonServers r_spec_CommonServers Go.Proofs.Try.f24.ntmps := .of h_spec_CommonServers hm Go.Proofs.Try.func24
def c28_1 : XC := fun _ => .region [] [xo 4 (.mv (xb false))] [0,1]
def c28_2 : XC := fun _ => .region [] [xo 5 (.mv (xi 0))] [0,1,5]
def c28_3 : XC := fun _ => .region [] [xo 6 (.mv (xt 5)),
 xo 7 (.mv (xt 0)),
 xo 8 (.len false (xt 7)),
 xo 9 (.bin .lss (xt 6) (xt 8))] [0,1,5,9]
def c28_4 : XC := fun _ => .cond (xt 9) (fun _ => .skip) (fun _ => .exit 0)
def c28_5 : XC := fun _ => .seq c28_3 c28_4
def c28_6 : XC := fun _ => .region [] [xo 12 (.mv (xt 0)),
 xo 13 (.mv (xt 5)),
 xo 14 (.ia (xt 12) (xt 13) 1),
 xo 15 (.ld (xt 14) 1 false),
 xo 16 (.mv (xt 1)),
 xo 17 (.bin .eql (xt 15) (xt 16))] [0,1,5,17]
def c28_7 : XC := fun _ => .region [] [xo 4 (.mv (xb true))] [4]
def c28_8 : XC := fun _ => .seq c28_7 (fun _ => .ret)
def c28_9 : XC := fun _ => .cond (xt 17) c28_8 (fun _ => .skip)
def c28_10 : XC := fun _ => .seq c28_6 c28_9
def c28_11 : XC := fun _ => .block 1 c28_10
def c28_12 : XC := fun _ => .region [] [xo 10 (.mv (xt 5)),
 xo 11 (.bin .add (xt 10) (xi 1)),
 xo 5 (.mv (xt 11))] [0,1,5]
def c28_13 : XC := fun _ => .seq c28_11 c28_12
def c28_14 : XC := fun _ => .seq c28_5 c28_13
def c28_15 : XC := fun _ => .loop c28_14
def c28_16 : XC := fun _ => .block 0 c28_15
def c28_17 : XC := fun _ => .seq c28_2 c28_16
def c28_18 : XC := fun _ => .region [] [xo 4 (.mv (xb false))] [4]
def c28_19 : XC := fun _ => .seq c28_18 (fun _ => .ret)
def c28_20 : XC := fun _ => .seq c28_17 c28_19
def c28_21 : XC := fun _ => .seq c28_1 c28_20
def m_spec_HasServer : MCode := c28_21 ()
def h_spec_HasServer : Hints := [(0, [0,1], [], [], []), (1, [0,1,5], [], [], []), (2, [0,1,5,9], [], [], []), (4, [0,1,5,17], [], [], []), (5, [4], [], [], []), (3, [0,1,5], [], [], []), (6, [4], [], [], [])]
def r_spec_HasServer : List RV := [.t 4]
abbrev n_spec_HasServer : Nat := 28
theorem k_spec_HasServer : Known Pr mu n_spec_HasServer m_spec_HasServer r_spec_HasServer Go.Proofs.Try.f28.ntmps := .of h_spec_HasServer hm Go.Proofs.Try.func28
def c36_1 : XC := fun _ => .region [] [xo 4 (.mv (xi 0))] [0,1]
def c36_2 : XC := fun _ => .region [] [xo 6 (.mv (xt 1)),
 xo 7 (.mv (xt 0)),
 xo 8 (.len false (xt 7)),
 xo 9 (.bin .sub (xt 6) (xt 8)),
 xo 1 (.mv (xt 9))] [0,1]
def c36_3 : XC := fun _ => .region [] [xo 10 (.mv (xt 1)),
 xo 11 (.bin .lss (xt 10) (xi 0))] [0,1,11]
def c36_4 : XC := fun _ => .region [] [xo 4 (.mv (xi (-1)))] [4]
def c36_5 : XC := fun _ => .seq c36_4 (fun _ => .ret)
def c36_6 : XC := fun _ => .cond (xt 11) c36_5 (fun _ => .skip)
def c36_7 : XC := fun _ => .seq c36_3 c36_6
def c36_8 : XC := fun _ => .region [] [xo 5 (.mv (xi 0))] [0,1,5]
def c36_9 : XC := fun _ => .region [] [xo 12 (.mv (xt 5)),
 xo 13 (.mv (xt 0)),
 xo 14 (.len false (xt 13)),
 xo 15 (.bin .lss (xt 12) (xt 14))] [0,1,5,15]
def c36_10 : XC := fun _ => .cond (xt 15) (fun _ => .skip) (fun _ => .exit 0)
def c36_11 : XC := fun _ => .seq c36_9 c36_10
def c36_12 : XC := fun _ => .region [] [xo 18 (.mv (xt 0)),
 xo 19 (.mv (xt 5)),
 xo 20 (.ia (xt 18) (xt 19) 6),
 xo 21 (.ld (xt 20) 6 true),
 xo 22 (.mv (xt 1)),
 xo 23 (.call 79 [(xt 21), (xt 22)]),
 xo 1 (.mv (xt 23))] [0,1,5]
def c36_13 : XC := fun _ => .region [] [xo 24 (.mv (xt 1)),
 xo 25 (.bin .lss (xt 24) (xi 0))] [0,1,5,25]
def c36_14 : XC := fun _ => .region [] [xo 4 (.mv (xi (-1)))] [4]
def c36_15 : XC := fun _ => .seq c36_14 (fun _ => .ret)
def c36_16 : XC := fun _ => .cond (xt 25) c36_15 (fun _ => .skip)
def c36_17 : XC := fun _ => .seq c36_13 c36_16
def c36_18 : XC := fun _ => .seq c36_12 c36_17
def c36_19 : XC := fun _ => .block 1 c36_18
def c36_20 : XC := fun _ => .region [] [xo 16 (.mv (xt 5)),
 xo 17 (.bin .add (xt 16) (xi 1)),
 xo 5 (.mv (xt 17))] [0,1,5]
def c36_21 : XC := fun _ => .seq c36_19 c36_20
def c36_22 : XC := fun _ => .seq c36_11 c36_21
def c36_23 : XC := fun _ => .loop c36_22
def c36_24 : XC := fun _ => .block 0 c36_23
def c36_25 : XC := fun _ => .seq c36_8 c36_24
def c36_26 : XC := fun _ => .region [] [xo 26 (.mv (xt 1)),
 xo 4 (.mv (xt 26))] [4]
def c36_27 : XC := fun _ => .seq c36_26 (fun _ => .ret)
def c36_28 : XC := fun _ => .seq c36_25 c36_27
def c36_29 : XC := fun _ => .seq c36_7 c36_28
def c36_30 : XC := fun _ => .seq c36_2 c36_29
def c36_31 : XC := fun _ => .seq c36_1 c36_30
def m_laws_szAcceptorS : MCode := c36_31 ()
def h_laws_szAcceptorS : Hints := [(0, [0,1], [], [], []), (1, [0,1], [], [], []), (2, [0,1,11], [], [], []), (3, [4], [], [], []), (4, [0,1,5], [], [], []), (5, [0,1,5,15], [], [], []), (7, [0,1,5], [], [], []), (8, [0,1,5,25], [], [], []), (9, [4], [], [], []), (6, [0,1,5], [], [], []), (10, [4], [], [], [])]
def r_laws_szAcceptorS : List RV := [.t 4]
abbrev n_laws_szAcceptorS : Nat := 36
theorem k_laws_szAcceptorS : Known Pr mu n_laws_szAcceptorS m_laws_szAcceptorS r_laws_szAcceptorS Go.Proofs.Try.f36.ntmps := .of h_laws_szAcceptorS hm Go.Proofs.Try.func36
def c38_1 : XC := fun _ => .region [] [xo 2 (.mv (.const (.slice none 0 0)))] [0]
def c38_2 : XC := fun _ => .region [] [xo 5 (.mv (xt 0)),
 xo 6 (.len false (xt 5)),
 xo 7 (.mks 6 80 [.int .i64 0, .int .i64 0, .int .i64 0, .int .i64 0, .slice none 0 0, .slice none 0 0] (xt 6) (xt 6)),
 xo 3 (.mv (xt 7))] [0,3]
def c38_3 : XC := fun _ => .region [] [xo 4 (.mv (xi 0))] [0,3,4]
def c38_4 : XC := fun _ => .region [] [xo 8 (.mv (xt 4)),
 xo 9 (.mv (xt 0)),
 xo 10 (.len false (xt 9)),
 xo 11 (.bin .lss (xt 8) (xt 10))] [0,3,4,11]
def c38_5 : XC := fun _ => .cond (xt 11) (fun _ => .skip) (fun _ => .exit 0)
def c38_6 : XC := fun _ => .seq c38_4 c38_5
def c38_7 : XC := fun _ => .region [] [xo 14 (.mv (xt 3)),
 xo 15 (.mv (xt 4)),
 xo 16 (.mv (xt 0)),
 xo 17 (.mv (xt 4)),
 xo 18 (.ia (xt 16) (xt 17) 6),
 xo 19 (.ld (xt 18) 6 true),
 xo 20 (.call 83 [(xt 19)]),
 xo 21 (.ia (xt 14) (xt 15) 6),
 xn (.sto (xt 21) (xt 20) 6)] [0,3,4]
def c38_8 : XC := fun _ => .block 1 c38_7
def c38_9 : XC := fun _ => .region [] [xo 12 (.mv (xt 4)),
 xo 13 (.bin .add (xt 12) (xi 1)),
 xo 4 (.mv (xt 13))] [0,3,4]
def c38_10 : XC := fun _ => .seq c38_8 c38_9
def c38_11 : XC := fun _ => .seq c38_6 c38_10
def c38_12 : XC := fun _ => .loop c38_11
def c38_13 : XC := fun _ => .block 0 c38_12
def c38_14 : XC := fun _ => .seq c38_3 c38_13
def c38_15 : XC := fun _ => .region [] [xo 22 (.mv (xt 3)),
 xo 2 (.mv (xt 22))] [2]
def c38_16 : XC := fun _ => .seq c38_15 (fun _ => .ret)
def c38_17 : XC := fun _ => .seq c38_14 c38_16
def c38_18 : XC := fun _ => .seq c38_2 c38_17
def c38_19 : XC := fun _ => .seq c38_1 c38_18
def m_laws_toAcceptorS : MCode := c38_19 ()
def h_laws_toAcceptorS : Hints := [(0, [0], [], [], []), (1, [0,3], [], [], []), (2, [0,3,4], [], [], []), (3, [0,3,4,11], [], [], []), (5, [0,3,4], [], [], []), (4, [0,3,4], [], [], []), (6, [2], [], [], [])]
def r_laws_toAcceptorS : List RV := [.t 2]
abbrev n_laws_toAcceptorS : Nat := 38
theorem k_laws_toAcceptorS : Known Pr mu n_laws_toAcceptorS m_laws_toAcceptorS r_laws_toAcceptorS Go.Proofs.Try.f38.ntmps := .of h_laws_toAcceptorS hm Go.Proofs.Try.func38
def c40_1 : XC := fun _ => .region [] [xo 2 (.box (xt 0)),
 xo 3 (.box (xt 1)),
 xo 4 (.mv (xb false))] [2,3]
def c40_2 : XC := fun _ => .region [] [xo 5 (.fa (xt 2) 0),
 xo 6 (.ld (xt 5) 1 false),
 xo 7 (.fa (xt 3) 0),
 xo 8 (.ld (xt 7) 1 false),
 xo 9 (.bin .neq (xt 6) (xt 8))] [2,3,9]
def c40_3 : XC := fun _ => .region [] [xo 4 (.mv (xb false))] [4]
def c40_4 : XC := fun _ => .seq c40_3 (fun _ => .ret)
def c40_5 : XC := fun _ => .cond (xt 9) c40_4 (fun _ => .skip)
def c40_6 : XC := fun _ => .seq c40_2 c40_5
def c40_7 : XC := fun _ => .region [] [xo 10 (.fa (xt 2) 1),
 xo 11 (.ld (xt 10) 1 false),
 xo 12 (.fa (xt 3) 1),
 xo 13 (.ld (xt 12) 1 false),
 xo 14 (.bin .neq (xt 11) (xt 13))] [2,3,14]
def c40_8 : XC := fun _ => .region [] [xo 4 (.mv (xb false))] [4]
def c40_9 : XC := fun _ => .seq c40_8 (fun _ => .ret)
def c40_10 : XC := fun _ => .cond (xt 14) c40_9 (fun _ => .skip)
def c40_11 : XC := fun _ => .seq c40_7 c40_10
def c40_12 : XC := fun _ => .region [] [xo 15 (.fa (xt 2) 2),
 xo 16 (.ld (xt 15) 1 false),
 xo 17 (.fa (xt 3) 2),
 xo 18 (.ld (xt 17) 1 false),
 xo 19 (.call 14 [(xt 16), (xt 18)]),
 xo 20 (.not (xt 19))] [2,3,20]
def c40_13 : XC := fun _ => .region [] [xo 4 (.mv (xb false))] [4]
def c40_14 : XC := fun _ => .seq c40_13 (fun _ => .ret)
def c40_15 : XC := fun _ => .cond (xt 20) c40_14 (fun _ => .skip)
def c40_16 : XC := fun _ => .seq c40_12 c40_15
def c40_17 : XC := fun _ => .region [] [xo 21 (.fa (xt 2) 3),
 xo 22 (.ld (xt 21) 1 false),
 xo 23 (.fa (xt 3) 3),
 xo 24 (.ld (xt 23) 1 false),
 xo 25 (.call 14 [(xt 22), (xt 24)]),
 xo 26 (.not (xt 25))] [26]
def c40_18 : XC := fun _ => .region [] [xo 4 (.mv (xb false))] [4]
def c40_19 : XC := fun _ => .seq c40_18 (fun _ => .ret)
def c40_20 : XC := fun _ => .cond (xt 26) c40_19 (fun _ => .skip)
def c40_21 : XC := fun _ => .seq c40_17 c40_20
def c40_22 : XC := fun _ => .region [] [xo 4 (.mv (xb true))] [4]
def c40_23 : XC := fun _ => .seq c40_22 (fun _ => .ret)
def c40_24 : XC := fun _ => .seq c40_21 c40_23
def c40_25 : XC := fun _ => .seq c40_16 c40_24
def c40_26 : XC := fun _ => .seq c40_11 c40_25
def c40_27 : XC := fun _ => .seq c40_6 c40_26
def c40_28 : XC := fun _ => .seq c40_1 c40_27
def m_laws_eqConfig : MCode := c40_28 ()
def h_laws_eqConfig : Hints := [(0, [2,3], [], [], []), (1, [2,3,9], [], [], []), (2, [4], [], [], []), (3, [2,3,14], [], [], []), (4, [4], [], [], []), (5, [2,3,20], [], [], []), (6, [4], [], [], []), (7, [26], [], [], []), (8, [4], [], [], []), (9, [4], [], [], [])]
def r_laws_eqConfig : List RV := [.t 4]
abbrev n_laws_eqConfig : Nat := 40
theorem k_laws_eqConfig : Known Pr mu n_laws_eqConfig m_laws_eqConfig r_laws_eqConfig Go.Proofs.Try.f40.ntmps := .of h_laws_eqConfig hm Go.Proofs.Try.func40
def c41_1 : XC := fun _ => .region [] [xo 4 (.mv (xb false))] [0,1]
def c41_2 : XC := fun _ => .region [] [xo 6 (.mv (xt 0)),
 xo 7 (.len false (xt 6)),
 xo 8 (.mv (xt 1)),
 xo 9 (.len false (xt 8)),
 xo 10 (.bin .neq (xt 7) (xt 9))] [0,1,10]
def c41_3 : XC := fun _ => .region [] [xo 4 (.mv (xb false))] [4]
def c41_4 : XC := fun _ => .seq c41_3 (fun _ => .ret)
def c41_5 : XC := fun _ => .cond (xt 10) c41_4 (fun _ => .skip)
def c41_6 : XC := fun _ => .seq c41_2 c41_5
def c41_7 : XC := fun _ => .region [] [xo 5 (.mv (xi 0))] [0,1,5]
def c41_8 : XC := fun _ => .region [] [xo 11 (.mv (xt 5)),
 xo 12 (.mv (xt 0)),
 xo 13 (.len false (xt 12)),
 xo 14 (.bin .lss (xt 11) (xt 13))] [0,1,5,14]
def c41_9 : XC := fun _ => .cond (xt 14) (fun _ => .skip) (fun _ => .exit 0)
def c41_10 : XC := fun _ => .seq c41_8 c41_9
def c41_11 : XC := fun _ => .region [] [xo 17 (.mv (xt 0)),
 xo 18 (.mv (xt 5)),
 xo 19 (.ia (xt 17) (xt 18) 6),
 xo 20 (.ld (xt 19) 6 true),
 xo 21 (.mv (xt 1)),
 xo 22 (.mv (xt 5)),
 ⟨(some 23), .ia (xt 21) (xt 22) 6, none, [0, 1, 2, 3]⟩,
 ⟨(some 24), .ld (xt 23) 6 true, none, [0, 1, 2, 3]⟩,
 xo 25 (.call 87 [(xt 20), (xt 24)]),
 xo 26 (.not (xt 25))] [0,1,5,26]
def c41_12 : XC := fun _ => .region [] [xo 4 (.mv (xb false))] [4]
def c41_13 : XC := fun _ => .seq c41_12 (fun _ => .ret)
def c41_14 : XC := fun _ => .cond (xt 26) c41_13 (fun _ => .skip)
def c41_15 : XC := fun _ => .seq c41_11 c41_14
def c41_16 : XC := fun _ => .block 1 c41_15
def c41_17 : XC := fun _ => .region [] [xo 15 (.mv (xt 5)),
 xo 16 (.bin .add (xt 15) (xi 1)),
 xo 5 (.mv (xt 16))] [0,1,5]
def c41_18 : XC := fun _ => .seq c41_16 c41_17
def c41_19 : XC := fun _ => .seq c41_10 c41_18
def c41_20 : XC := fun _ => .loop c41_19
def c41_21 : XC := fun _ => .block 0 c41_20
def c41_22 : XC := fun _ => .seq c41_7 c41_21
def c41_23 : XC := fun _ => .region [] [xo 4 (.mv (xb true))] [4]
def c41_24 : XC := fun _ => .seq c41_23 (fun _ => .ret)
def c41_25 : XC := fun _ => .seq c41_22 c41_24
def c41_26 : XC := fun _ => .seq c41_6 c41_25
def c41_27 : XC := fun _ => .seq c41_1 c41_26
def m_laws_eqAcceptorS : MCode := c41_27 ()
def h_laws_eqAcceptorS : Hints := [(0, [0,1], [], [], []), (1, [0,1,10], [], [], []), (2, [4], [], [], []), (3, [0,1,5], [], [], []), (4, [0,1,5,14], [], [], []), (6, [0,1,5,26], [[],[],[],[],[],[],[0,1,2,3],[0,1,2,3]], [], []), (7, [4], [], [], []), (5, [0,1,5], [], [], []), (8, [4], [], [], [])]
def r_laws_eqAcceptorS : List RV := [.t 4]
abbrev n_laws_eqAcceptorS : Nat := 41
theorem k_laws_eqAcceptorS : Known Pr mu n_laws_eqAcceptorS m_laws_eqAcceptorS r_laws_eqAcceptorS Go.Proofs.Try.f41.ntmps := .of h_laws_eqAcceptorS hm Go.Proofs.Try.func41
def c42_1 : XC := fun _ => .region [] [xo 4 (.mv (xi 0))] [0,1]
def c42_2 : XC := fun _ => .region [] [xo 5 (.mv (xi 0))] [0,1,5]
def c42_3 : XC := fun _ => .region [] [xo 6 (.mv (xt 5)),
 xo 7 (.mv (xt 0)),
 xo 8 (.len false (xt 7)),
 xo 9 (.bin .lss (xt 6) (xt 8))] [0,1,5,9]
def c42_4 : XC := fun _ => .cond (xt 9) (fun _ => .skip) (fun _ => .exit 0)
def c42_5 : XC := fun _ => .seq c42_3 c42_4
def c42_6 : XC := fun _ => .region [] [xo 12 (.mv (xt 0)),
 xo 13 (.mv (xt 5)),
 xo 14 (.mv (xt 1)),
 xo 15 (.ia (xt 12) (xt 13) 6),
 xo 16 (.fa (xt 15) 0),
 xn (.sto (xt 16) (xt 14) 1)] [0,1,5]
def c42_7 : XC := fun _ => .region [] [xo 17 (.mv (xt 1)),
 xo 18 (.bin .add (xt 17) (xi 1)),
 xo 1 (.mv (xt 18))] [0,1,5]
def c42_8 : XC := fun _ => .region [] [xo 19 (.mv (xt 0)),
 xo 20 (.mv (xt 5)),
 xo 21 (.mv (xt 1)),
 xo 22 (.ia (xt 19) (xt 20) 6),
 xo 23 (.fa (xt 22) 1),
 xn (.sto (xt 23) (xt 21) 1)] [0,1,5]
def c42_9 : XC := fun _ => .region [] [xo 24 (.mv (xt 1)),
 xo 25 (.bin .add (xt 24) (xi 1)),
 xo 1 (.mv (xt 25))] [0,1,5]
def c42_10 : XC := fun _ => .region [] [xo 26 (.mv (xt 0)),
 xo 27 (.mv (xt 5)),
 xo 28 (.mv (xt 1)),
 xo 29 (.ia (xt 26) (xt 27) 6),
 xo 30 (.fa (xt 29) 2),
 xo 31 (.fa (xt 30) 0),
 xn (.sto (xt 31) (xt 28) 1)] [0,1,5]
def c42_11 : XC := fun _ => .region [] [xo 32 (.mv (xt 1)),
 xo 33 (.bin .add (xt 32) (xi 1)),
 xo 1 (.mv (xt 33))] [0,1,5]
def c42_12 : XC := fun _ => .region [] [xo 34 (.mv (xt 0)),
 xo 35 (.mv (xt 5)),
 xo 36 (.mv (xt 1)),
 xo 37 (.ia (xt 34) (xt 35) 6),
 xo 38 (.fa (xt 37) 2),
 xo 39 (.fa (xt 38) 1),
 xn (.sto (xt 39) (xt 36) 1)] [0,1,5]
def c42_13 : XC := fun _ => .region [] [xo 40 (.mv (xt 1)),
 xo 41 (.bin .add (xt 40) (xi 1)),
 xo 1 (.mv (xt 41))] [0,1,5]
def c42_14 : XC := fun _ => .region [] [xo 42 (.mv (xt 0)),
 xo 43 (.mv (xt 5)),
 xo 44 (.ia (xt 42) (xt 43) 6),
 xo 45 (.fa (xt 44) 2),
 xo 46 (.fa (xt 45) 2),
 xo 47 (.ld (xt 46) 1 false),
 xo 48 (.mv (xt 1)),
 xo 49 (.callm 17 [(xt 47), (xt 48)]),
 xo 1 (.mv (xt 49))] [0,1,5]
def c42_15 : XC := fun _ => .region [] [xo 50 (.mv (xt 0)),
 xo 51 (.mv (xt 5)),
 xo 52 (.ia (xt 50) (xt 51) 6),
 xo 53 (.fa (xt 52) 2),
 xo 54 (.fa (xt 53) 3),
 xo 55 (.ld (xt 54) 1 false),
 xo 56 (.mv (xt 1)),
 xo 57 (.callm 17 [(xt 55), (xt 56)]),
 xo 1 (.mv (xt 57))] [0,1,5]
def c42_16 : XC := fun _ => .seq c42_14 c42_15
def c42_17 : XC := fun _ => .seq c42_13 c42_16
def c42_18 : XC := fun _ => .seq c42_12 c42_17
def c42_19 : XC := fun _ => .seq c42_11 c42_18
def c42_20 : XC := fun _ => .seq c42_10 c42_19
def c42_21 : XC := fun _ => .seq c42_9 c42_20
def c42_22 : XC := fun _ => .seq c42_8 c42_21
def c42_23 : XC := fun _ => .seq c42_7 c42_22
def c42_24 : XC := fun _ => .seq c42_6 c42_23
def c42_25 : XC := fun _ => .block 1 c42_24
def c42_26 : XC := fun _ => .region [] [xo 10 (.mv (xt 5)),
 xo 11 (.bin .add (xt 10) (xi 1)),
 xo 5 (.mv (xt 11))] [0,1,5]
def c42_27 : XC := fun _ => .seq c42_25 c42_26
def c42_28 : XC := fun _ => .seq c42_5 c42_27
def c42_29 : XC := fun _ => .loop c42_28
def c42_30 : XC := fun _ => .block 0 c42_29
def c42_31 : XC := fun _ => .seq c42_2 c42_30
def c42_32 : XC := fun _ => .region [] [xo 58 (.mv (xt 1)),
 xo 4 (.mv (xt 58))] [4]
def c42_33 : XC := fun _ => .seq c42_32 (fun _ => .ret)
def c42_34 : XC := fun _ => .seq c42_31 c42_33
def c42_35 : XC := fun _ => .seq c42_1 c42_34
def m_laws_markAcceptorS : MCode := c42_35 ()
def h_laws_markAcceptorS : Hints := [(0, [0,1], [], [], []), (1, [0,1,5], [], [], []), (2, [0,1,5,9], [], [], []), (4, [0,1,5], [], [], []), (5, [0,1,5], [], [], []), (6, [0,1,5], [], [], []), (7, [0,1,5], [], [], []), (8, [0,1,5], [], [], []), (9, [0,1,5], [], [], []), (10, [0,1,5], [], [], []), (11, [0,1,5], [], [], []), (12, [0,1,5], [], [], []), (13, [0,1,5], [], [], []), (3, [0,1,5], [], [], []), (14, [4], [], [], [])]
def r_laws_markAcceptorS : List RV := [.t 4]
abbrev n_laws_markAcceptorS : Nat := 42
theorem k_laws_markAcceptorS : Known Pr mu n_laws_markAcceptorS m_laws_markAcceptorS r_laws_markAcceptorS Go.Proofs.Try.f42.ntmps := .of h_laws_markAcceptorS hm Go.Proofs.Try.func42
def c43_1 : XC := fun _ => .region [] [xo 2 (.box (xt 0)),
 xo 4 (.mv (xi 0))] [1,2]
def c43_2 : XC := fun _ => .region [] [xo 5 (.fa (xt 2) 2),
 xo 6 (.ld (xt 5) 1 false),
 xo 7 (.mv (xt 1)),
 xo 8 (.callm 17 [(xt 6), (xt 7)]),
 xo 1 (.mv (xt 8))] [1,2]
def c43_3 : XC := fun _ => .region [] [xo 9 (.fa (xt 2) 3),
 xo 10 (.ld (xt 9) 1 false),
 xo 11 (.mv (xt 1)),
 xo 12 (.callm 17 [(xt 10), (xt 11)]),
 xo 1 (.mv (xt 12))] [1]
def c43_4 : XC := fun _ => .region [] [xo 13 (.mv (xt 1)),
 xo 4 (.mv (xt 13))] [4]
def c43_5 : XC := fun _ => .seq c43_4 (fun _ => .ret)
def c43_6 : XC := fun _ => .seq c43_3 c43_5
def c43_7 : XC := fun _ => .seq c43_2 c43_6
def c43_8 : XC := fun _ => .seq c43_1 c43_7
def m_laws_markConfig : MCode := c43_8 ()
def h_laws_markConfig : Hints := [(0, [1,2], [], [], []), (1, [1,2], [], [], []), (2, [1], [], [], []), (3, [4], [], [], [])]
def r_laws_markConfig : List RV := [.t 4]
abbrev n_laws_markConfig : Nat := 43
theorem k_laws_markConfig : Known Pr mu n_laws_markConfig m_laws_markConfig r_laws_markConfig Go.Proofs.Try.f43.ntmps := .of h_laws_markConfig hm Go.Proofs.Try.func43
def c44_1 : XC := fun _ => .region [] [xo 2 (.box (xt 0)),
 xo 4 (.mv (xi 0))] [1,2]
def c44_2 : XC := fun _ => .region [] [xo 5 (.fa (xt 2) 2),
 xo 6 (.ld (xt 5) 1 false),
 xo 7 (.mv (xt 1)),
 xo 8 (.call 18 [(xt 6), (xt 7)]),
 xo 1 (.mv (xt 8))] [1,2]
def c44_3 : XC := fun _ => .region [] [xo 9 (.mv (xt 1)),
 xo 10 (.bin .lss (xt 9) (xi 0))] [1,2,10]
def c44_4 : XC := fun _ => .region [] [xo 4 (.mv (xi (-1)))] [4]
def c44_5 : XC := fun _ => .seq c44_4 (fun _ => .ret)
def c44_6 : XC := fun _ => .cond (xt 10) c44_5 (fun _ => .skip)
def c44_7 : XC := fun _ => .seq c44_3 c44_6
def c44_8 : XC := fun _ => .region [] [xo 11 (.fa (xt 2) 3),
 xo 12 (.ld (xt 11) 1 false),
 xo 13 (.mv (xt 1)),
 xo 14 (.call 18 [(xt 12), (xt 13)]),
 xo 1 (.mv (xt 14))] [1]
def c44_9 : XC := fun _ => .region [] [xo 15 (.mv (xt 1)),
 xo 16 (.bin .lss (xt 15) (xi 0))] [1,16]
def c44_10 : XC := fun _ => .region [] [xo 4 (.mv (xi (-1)))] [4]
def c44_11 : XC := fun _ => .seq c44_10 (fun _ => .ret)
def c44_12 : XC := fun _ => .cond (xt 16) c44_11 (fun _ => .skip)
def c44_13 : XC := fun _ => .seq c44_9 c44_12
def c44_14 : XC := fun _ => .region [] [xo 17 (.mv (xt 1)),
 xo 4 (.mv (xt 17))] [4]
def c44_15 : XC := fun _ => .seq c44_14 (fun _ => .ret)
def c44_16 : XC := fun _ => .seq c44_13 c44_15
def c44_17 : XC := fun _ => .seq c44_8 c44_16
def c44_18 : XC := fun _ => .seq c44_7 c44_17
def c44_19 : XC := fun _ => .seq c44_2 c44_18
def c44_20 : XC := fun _ => .seq c44_1 c44_19
def m_laws_heldConfig : MCode := c44_20 ()
def h_laws_heldConfig : Hints := [(0, [1,2], [], [], []), (1, [1,2], [], [], []), (2, [1,2,10], [], [], []), (3, [4], [], [], []), (4, [1], [], [], []), (5, [1,16], [], [], []), (6, [4], [], [], []), (7, [4], [], [], [])]
def r_laws_heldConfig : List RV := [.t 4]
abbrev n_laws_heldConfig : Nat := 44
theorem k_laws_heldConfig : Known Pr mu n_laws_heldConfig m_laws_heldConfig r_laws_heldConfig Go.Proofs.Try.f44.ntmps := .of h_laws_heldConfig hm Go.Proofs.Try.func44
def c52_1 : XC := fun _ => .region [] [xo 2 (.box (xt 0)),
 xo 4 (.mv (xi 0))] [1,2]
def c52_2 : XC := fun _ => .region [] [xo 5 (.fa (xt 2) 1),
 xo 6 (.ld (xt 5) 1 false),
 xo 7 (.mv (xt 1)),
 xo 8 (.call 101 [(xt 6), (xt 7)]),
 xo 1 (.mv (xt 8))] [1,2]
def c52_3 : XC := fun _ => .region [] [xo 9 (.mv (xt 1)),
 xo 10 (.bin .lss (xt 9) (xi 0))] [1,2,10]
def c52_4 : XC := fun _ => .region [] [xo 4 (.mv (xi (-1)))] [4]
def c52_5 : XC := fun _ => .seq c52_4 (fun _ => .ret)
def c52_6 : XC := fun _ => .cond (xt 10) c52_5 (fun _ => .skip)
def c52_7 : XC := fun _ => .seq c52_3 c52_6
def c52_8 : XC := fun _ => .region [] [xo 11 (.fa (xt 2) 2),
 xo 12 (.ld (xt 11) 1 false),
 xo 13 (.mv (xt 1)),
 xo 14 (.call 101 [(xt 12), (xt 13)]),
 xo 1 (.mv (xt 14))] [1,2]
def c52_9 : XC := fun _ => .region [] [xo 15 (.mv (xt 1)),
 xo 16 (.bin .lss (xt 15) (xi 0))] [1,2,16]
def c52_10 : XC := fun _ => .region [] [xo 4 (.mv (xi (-1)))] [4]
def c52_11 : XC := fun _ => .seq c52_10 (fun _ => .ret)
def c52_12 : XC := fun _ => .cond (xt 16) c52_11 (fun _ => .skip)
def c52_13 : XC := fun _ => .seq c52_9 c52_12
def c52_14 : XC := fun _ => .region [] [xo 17 (.fa (xt 2) 3),
 xo 18 (.ld (xt 17) 4 true),
 xo 19 (.mv (xt 1)),
 xo 20 (.call 88 [(xt 18), (xt 19)]),
 xo 1 (.mv (xt 20))] [1]
def c52_15 : XC := fun _ => .region [] [xo 21 (.mv (xt 1)),
 xo 22 (.bin .lss (xt 21) (xi 0))] [1,22]
def c52_16 : XC := fun _ => .region [] [xo 4 (.mv (xi (-1)))] [4]
def c52_17 : XC := fun _ => .seq c52_16 (fun _ => .ret)
def c52_18 : XC := fun _ => .cond (xt 22) c52_17 (fun _ => .skip)
def c52_19 : XC := fun _ => .seq c52_15 c52_18
def c52_20 : XC := fun _ => .region [] [xo 23 (.mv (xt 1)),
 xo 4 (.mv (xt 23))] [4]
def c52_21 : XC := fun _ => .seq c52_20 (fun _ => .ret)
def c52_22 : XC := fun _ => .seq c52_19 c52_21
def c52_23 : XC := fun _ => .seq c52_14 c52_22
def c52_24 : XC := fun _ => .seq c52_13 c52_23
def c52_25 : XC := fun _ => .seq c52_8 c52_24
def c52_26 : XC := fun _ => .seq c52_7 c52_25
def c52_27 : XC := fun _ => .seq c52_2 c52_26
def c52_28 : XC := fun _ => .seq c52_1 c52_27
def m_laws_szProposal : MCode := c52_28 ()
def h_laws_szProposal : Hints := [(0, [1,2], [], [], []), (1, [1,2], [], [], []), (2, [1,2,10], [], [], []), (3, [4], [], [], []), (4, [1,2], [], [], []), (5, [1,2,16], [], [], []), (6, [4], [], [], []), (7, [1], [], [], []), (8, [1,22], [], [], []), (9, [4], [], [], []), (10, [4], [], [], [])]
def r_laws_szProposal : List RV := [.t 4]
abbrev n_laws_szProposal : Nat := 52
theorem k_laws_szProposal : Known Pr mu n_laws_szProposal m_laws_szProposal r_laws_szProposal Go.Proofs.Try.f52.ntmps := .of h_laws_szProposal hm Go.Proofs.Try.func52
def c53_1 : XC := fun _ => .region [] [xo 3 (.box (xt 1)),
 xo 4 (.mv (.const (.slice none 0 0))),
 xo 5 (.alloc [.int .i64 0, .int .i64 0, .slice none 0 0, .slice none 0 0]),
 xo 6 (.mv (xb false))] [0,3,5]
def c53_2 : XC := fun _ => .region [] [xo 18 (.mv (xt 0)),
 xo 19 (.call 102 [(xt 18)]),
 xo 7 (.mv (xt 19))] [0,3,5,7]
def c53_3 : XC := fun _ => .region [] [xo 20 (.mv (xt 0)),
 xo 21 (.call 80 [(xt 20)]),
 xo 22 (.not (xt 21)),
 xo 23 (.mv (xt 22)),
 ⟨(some 24), .fa (xt 3) 3, (some (23, false)), []⟩,
 ⟨(some 25), .ld (xt 24) 4 true, (some (23, false)), []⟩,
 ⟨(some 26), .call 103 [(xt 25)], (some (23, false)), []⟩,
 ⟨(some 27), .not (xt 26), (some (23, false)), []⟩,
 xo 28 (.pick (xt 23) (xb true) (xt 27)),
 xo 29 (.mv (xt 28)),
 ⟨(some 30), .fa (xt 3) 0, (some (29, false)), []⟩,
 ⟨(some 31), .ld (xt 30) 1 false, (some (29, false)), []⟩,
 ⟨(some 32), .call 59 [(xt 31), (xi 1), (xi 99)], (some (29, false)), []⟩,
 ⟨(some 33), .not (xt 32), (some (29, false)), []⟩,
 xo 34 (.pick (xt 29) (xb true) (xt 33))] [0,3,5,7,34]
def c53_4 : XC := fun _ => .region [] [xo 35 (.mv (xt 7)),
 xo 36 (.bld [.int .i64 0, .int .i64 0, .slice none 0 0, .slice none 0 0] []),
 xo 4 (.mv (xt 35)),
 xn (.stoc (xt 5) (xt 36) 4),
 xo 6 (.mv (xb false))] [4,5,6]
def c53_5 : XC := fun _ => .seq c53_4 (fun _ => .ret)
def c53_6 : XC := fun _ => .cond (xt 34) c53_5 (fun _ => .skip)
def c53_7 : XC := fun _ => .seq c53_3 c53_6
def c53_8 : XC := fun _ => .region [] [xo 8 (.mv (xi 0))] [0,3,5,7,8]
def c53_9 : XC := fun _ => .region [] [xo 9 (.mv (xi 0))] [0,3,5,7,8,9]
def c53_10 : XC := fun _ => .region [] [xo 37 (.fa (xt 3) 3),
 xo 38 (.ld (xt 37) 4 true),
 xo 39 (.call 82 [(xt 38)]),
 xo 10 (.alloc [.int .i64 0, .int .i64 0, .slice none 0 0, .slice none 0 0]),
 xn (.stoc (xt 10) (xt 39) 4)] [0,3,5,7,8,9,10]
def c53_11 : XC := fun _ => .region [] [xo 11 (.mv (xi 0))] [0,3,5,7,8,9,10,11]
def c53_12 : XC := fun _ => .region [] [xo 40 (.mv (xt 11)),
 xo 41 (.mv (xt 0)),
 xo 42 (.len false (xt 41)),
 xo 43 (.bin .lss (xt 40) (xt 42))] [0,3,5,7,8,9,10,11,43]
def c53_13 : XC := fun _ => .cond (xt 43) (fun _ => .skip) (fun _ => .exit 0)
def c53_14 : XC := fun _ => .seq c53_12 c53_13
def c53_15 : XC := fun _ => .region [] [xo 46 (.fa (xt 3) 1),
 xo 47 (.ld (xt 46) 1 false),
 xo 48 (.mv (xt 11)),
 xo 49 (.call 28 [(xt 47), (xt 48)]),
 xo 50 (.not (xt 49))] [0,3,5,7,8,9,10,11,50]
def c53_16 : XC := fun _ => .cond (xt 50) (fun _ => .exit 1) (fun _ => .skip)
def c53_17 : XC := fun _ => .seq c53_15 c53_16
def c53_18 : XC := fun _ => .region [] [xo 52 (.mv (xt 7)),
 xo 53 (.mv (xt 11)),
 xo 54 (.ia (xt 52) (xt 53) 6),
 ⟨(some 55), .ldc (xt 54) 6 true, none, [2000000]⟩,
 ⟨(some 56), .fa (xt 3) 0, none, [0, 1, 2, 3]⟩,
 ⟨(some 57), .ld (xt 56) 1 false, none, [0, 1, 2, 3]⟩,
 xo 58 (.call 104 [(xt 55), (xt 57)]),
 xo 51 (.mv (xt 58)),
 xo 59 (.ext (xt 51) 0),
 xo 60 (.ext (xt 51) 1),
 xo 12 (.alloc [.int .i64 0, .int .i64 0, .int .i64 0, .int .i64 0, .slice none 0 0, .slice none 0 0]),
 xn (.stoc (xt 12) (xt 59) 6),
 xo 13 (.mv (xt 60))] [0,3,5,7,8,9,10,11,12,13]
def c53_19 : XC := fun _ => .region [] [xo 61 (.mv (xt 7)),
 xo 62 (.mv (xt 11)),
 xo 63 (.ld (xt 12) 6 true),
 xo 64 (.ia (xt 61) (xt 62) 6),
 xn (.stoc (xt 64) (xt 63) 6)] [0,3,5,7,8,9,10,11,12,13]
def c53_20 : XC := fun _ => .region [] [xo 65 (.mv (xt 13)),
 xo 66 (.not (xt 65))] [0,3,5,7,8,9,10,11,12,66]
def c53_21 : XC := fun _ => .cond (xt 66) (fun _ => .exit 1) (fun _ => .skip)
def c53_22 : XC := fun _ => .seq c53_20 c53_21
def c53_23 : XC := fun _ => .region [] [xo 67 (.mv (xt 8)),
 xo 68 (.bin .add (xt 67) (xi 1)),
 xo 8 (.mv (xt 68))] [0,3,5,7,8,9,10,11,12]
def c53_24 : XC := fun _ => .region [] [xo 69 (.fa (xt 12) 1),
 xo 70 (.ld (xt 69) 1 false),
 xo 71 (.mv (xt 9)),
 xo 72 (.bin .gtr (xt 70) (xt 71))] [0,3,5,7,8,9,10,11,12,72]
def c53_25 : XC := fun _ => .region [] [xo 73 (.fa (xt 12) 1),
 xo 74 (.ld (xt 73) 1 false),
 xo 9 (.mv (xt 74))] [0,3,5,7,8,9,10,11,12]
def c53_26 : XC := fun _ => .region [] [xo 75 (.fa (xt 12) 2),
 xo 76 (.ld (xt 75) 4 true),
 xo 77 (.call 82 [(xt 76)]),
 xn (.stoc (xt 10) (xt 77) 4)] [0,3,5,7,8,9,10,11]
def c53_27 : XC := fun _ => .seq c53_25 c53_26
def c53_28 : XC := fun _ => .cond (xt 72) c53_27 (fun _ => .skip)
def c53_29 : XC := fun _ => .seq c53_24 c53_28
def c53_30 : XC := fun _ => .seq c53_23 c53_29
def c53_31 : XC := fun _ => .seq c53_22 c53_30
def c53_32 : XC := fun _ => .seq c53_19 c53_31
def c53_33 : XC := fun _ => .seq c53_18 c53_32
def c53_34 : XC := fun _ => .seq c53_17 c53_33
def c53_35 : XC := fun _ => .block 1 c53_34
def c53_36 : XC := fun _ => .region [] [xo 44 (.mv (xt 11)),
 xo 45 (.bin .add (xt 44) (xi 1)),
 xo 11 (.mv (xt 45))] [0,3,5,7,8,9,10,11]
def c53_37 : XC := fun _ => .seq c53_35 c53_36
def c53_38 : XC := fun _ => .seq c53_14 c53_37
def c53_39 : XC := fun _ => .loop c53_38
def c53_40 : XC := fun _ => .block 0 c53_39
def c53_41 : XC := fun _ => .seq c53_11 c53_40
def c53_42 : XC := fun _ => .region [] [xo 78 (.mv (xt 8)),
 xo 79 (.bin .mul (xi 2) (xt 78)),
 xo 80 (.bin .leq (xt 79) (xi 3))] [0,3,5,7,10,80]
def c53_43 : XC := fun _ => .region [] [xo 81 (.mv (xt 7)),
 xo 82 (.bld [.int .i64 0, .int .i64 0, .slice none 0 0, .slice none 0 0] []),
 xo 4 (.mv (xt 81)),
 xn (.stoc (xt 5) (xt 82) 4),
 xo 6 (.mv (xb false))] [4,5,6]
def c53_44 : XC := fun _ => .seq c53_43 (fun _ => .ret)
def c53_45 : XC := fun _ => .cond (xt 80) c53_44 (fun _ => .skip)
def c53_46 : XC := fun _ => .seq c53_42 c53_45
def c53_47 : XC := fun _ => .region [] [xo 14 (.mv (xi 0))] [0,3,5,7,10,14]
def c53_48 : XC := fun _ => .region [] [xo 15 (.mv (xi 0))] [0,3,5,7,10,14,15]
def c53_49 : XC := fun _ => .region [] [xo 83 (.mv (xt 15)),
 xo 84 (.mv (xt 0)),
 xo 85 (.len false (xt 84)),
 xo 86 (.bin .lss (xt 83) (xt 85))] [0,3,5,7,10,14,15,86]
def c53_50 : XC := fun _ => .cond (xt 86) (fun _ => .skip) (fun _ => .exit 2)
def c53_51 : XC := fun _ => .seq c53_49 c53_50
def c53_52 : XC := fun _ => .region [] [xo 89 (.fa (xt 3) 2),
 xo 90 (.ld (xt 89) 1 false),
 xo 91 (.mv (xt 15)),
 xo 92 (.call 28 [(xt 90), (xt 91)]),
 xo 93 (.not (xt 92))] [0,3,5,7,10,14,15,93]
def c53_53 : XC := fun _ => .cond (xt 93) (fun _ => .exit 3) (fun _ => .skip)
def c53_54 : XC := fun _ => .seq c53_52 c53_53
def c53_55 : XC := fun _ => .region [] [xo 95 (.mv (xt 7)),
 xo 96 (.mv (xt 15)),
 xo 97 (.ia (xt 95) (xt 96) 6),
 ⟨(some 98), .ldc (xt 97) 6 true, none, [2000000]⟩,
 ⟨(some 99), .fa (xt 3) 0, none, [0, 1, 2, 3]⟩,
 ⟨(some 100), .ld (xt 99) 1 false, none, [0, 1, 2, 3]⟩,
 ⟨(some 101), .ld (xt 10) 4 true, none, [0, 1, 2, 3, 4, 5]⟩,
 xo 102 (.call 105 [(xt 98), (xt 100), (xt 101)]),
 xo 94 (.mv (xt 102)),
 xo 103 (.ext (xt 94) 0),
 xo 104 (.ext (xt 94) 1),
 xo 16 (.alloc [.int .i64 0, .int .i64 0, .int .i64 0, .int .i64 0, .slice none 0 0, .slice none 0 0]),
 xn (.stoc (xt 16) (xt 103) 6),
 xo 17 (.mv (xt 104))] [0,3,5,7,10,14,15,16,17]
def c53_56 : XC := fun _ => .region [] [xo 105 (.mv (xt 7)),
 xo 106 (.mv (xt 15)),
 xo 107 (.ld (xt 16) 6 true),
 xo 108 (.ia (xt 105) (xt 106) 6),
 xn (.stoc (xt 108) (xt 107) 6)] [0,3,5,7,10,14,15,17]
def c53_57 : XC := fun _ => .region [] [xo 109 (.mv (xt 17))] [0,3,5,7,10,14,15,109]
def c53_58 : XC := fun _ => .region [] [xo 110 (.mv (xt 14)),
 xo 111 (.bin .add (xt 110) (xi 1)),
 xo 14 (.mv (xt 111))] [0,3,5,7,10,14,15]
def c53_59 : XC := fun _ => .cond (xt 109) c53_58 (fun _ => .skip)
def c53_60 : XC := fun _ => .seq c53_57 c53_59
def c53_61 : XC := fun _ => .seq c53_56 c53_60
def c53_62 : XC := fun _ => .seq c53_55 c53_61
def c53_63 : XC := fun _ => .seq c53_54 c53_62
def c53_64 : XC := fun _ => .block 3 c53_63
def c53_65 : XC := fun _ => .region [] [xo 87 (.mv (xt 15)),
 xo 88 (.bin .add (xt 87) (xi 1)),
 xo 15 (.mv (xt 88))] [0,3,5,7,10,14,15]
def c53_66 : XC := fun _ => .seq c53_64 c53_65
def c53_67 : XC := fun _ => .seq c53_51 c53_66
def c53_68 : XC := fun _ => .loop c53_67
def c53_69 : XC := fun _ => .block 2 c53_68
def c53_70 : XC := fun _ => .seq c53_48 c53_69
def c53_71 : XC := fun _ => .region [] [xo 112 (.mv (xt 14)),
 xo 113 (.bin .mul (xi 2) (xt 112)),
 xo 114 (.bin .leq (xt 113) (xi 3))] [5,7,10,114]
def c53_72 : XC := fun _ => .region [] [xo 115 (.mv (xt 7)),
 xo 116 (.bld [.int .i64 0, .int .i64 0, .slice none 0 0, .slice none 0 0] []),
 xo 4 (.mv (xt 115)),
 xn (.stoc (xt 5) (xt 116) 4),
 xo 6 (.mv (xb false))] [4,5,6]
def c53_73 : XC := fun _ => .seq c53_72 (fun _ => .ret)
def c53_74 : XC := fun _ => .cond (xt 114) c53_73 (fun _ => .skip)
def c53_75 : XC := fun _ => .seq c53_71 c53_74
def c53_76 : XC := fun _ => .region [] [xo 117 (.mv (xt 7)),
 ⟨(some 118), .ld (xt 10) 4 true, none, [0]⟩,
 xo 4 (.mv (xt 117)),
 xn (.stoc (xt 5) (xt 118) 4),
 xo 6 (.mv (xb true))] [4,5,6]
def c53_77 : XC := fun _ => .seq c53_76 (fun _ => .ret)
def c53_78 : XC := fun _ => .seq c53_75 c53_77
def c53_79 : XC := fun _ => .seq c53_70 c53_78
def c53_80 : XC := fun _ => .seq c53_47 c53_79
def c53_81 : XC := fun _ => .seq c53_46 c53_80
def c53_82 : XC := fun _ => .seq c53_41 c53_81
def c53_83 : XC := fun _ => .seq c53_10 c53_82
def c53_84 : XC := fun _ => .seq c53_9 c53_83
def c53_85 : XC := fun _ => .seq c53_8 c53_84
def c53_86 : XC := fun _ => .seq c53_7 c53_85
def c53_87 : XC := fun _ => .seq c53_2 c53_86
def c53_88 : XC := fun _ => .seq c53_1 c53_87
def m_spec_RunProposal : MCode := c53_88 ()
def h_spec_RunProposal : Hints := [(0, [0,3,5], [], [], []), (1, [0,3,5,7], [], [], []), (2, [0,3,5,7,34], [], [], []), (3, [4,5,6], [], [], []), (4, [0,3,5,7,8], [], [], []), (5, [0,3,5,7,8,9], [], [], []), (6, [0,3,5,7,8,9,10], [], [], []), (7, [0,3,5,7,8,9,10,11], [], [], []), (8, [0,3,5,7,8,9,10,11,43], [], [], []), (10, [0,3,5,7,8,9,10,11,50], [], [], []), (11, [0,3,5,7,8,9,10,11,12,13], [[],[],[],[2000000],[0,1,2,3],[0,1,2,3]], [], [9]), (12, [0,3,5,7,8,9,10,11,12,13], [], [], []), (13, [0,3,5,7,8,9,10,11,12,66], [], [], []), (14, [0,3,5,7,8,9,10,11,12], [], [], []), (15, [0,3,5,7,8,9,10,11,12,72], [], [], []), (16, [0,3,5,7,8,9,10,11,12], [], [], []), (17, [0,3,5,7,8,9,10,11], [], [], []), (9, [0,3,5,7,8,9,10,11], [], [], []), (18, [0,3,5,7,10,80], [], [], []), (19, [4,5,6], [], [], []), (20, [0,3,5,7,10,14], [], [], []), (21, [0,3,5,7,10,14,15], [], [], []), (22, [0,3,5,7,10,14,15,86], [], [], []), (24, [0,3,5,7,10,14,15,93], [], [], []), (25, [0,3,5,7,10,14,15,16,17], [[],[],[],[2000000],[0,1,2,3],[0,1,2,3],[0,1,2,3,4,5]], [], [10]), (26, [0,3,5,7,10,14,15,17], [], [], []), (27, [0,3,5,7,10,14,15,109], [], [], []), (28, [0,3,5,7,10,14,15], [], [], []), (23, [0,3,5,7,10,14,15], [], [], []), (29, [5,7,10,114], [], [], []), (30, [4,5,6], [], [], []), (31, [4,5,6], [[],[0]], [], [])]
def r_spec_RunProposal : List RV := [.t 4, .c 5 4 true, .t 6]
abbrev n_spec_RunProposal : Nat := 53
theorem k_spec_RunProposal : Known Pr muc n_spec_RunProposal m_spec_RunProposal r_spec_RunProposal Go.Proofs.Try.f53.ntmps := .of h_spec_RunProposal hm Go.Proofs.Try.func53
def c54_1 : XC := fun _ => .region [] [xo 1 (.box (xt 0)),
 xo 2 (.alloc [.int .i64 0, .slice none 0 0, .slice none 0 0, .int .i64 0, .int .i64 0, .slice none 0 0, .slice none 0 0])] [1,2]
def c54_2 : XC := fun _ => .region [] [xo 3 (.alloc [.int .i64 0, .slice none 0 0, .slice none 0 0, .int .i64 0, .int .i64 0, .slice none 0 0, .slice none 0 0])] [1,2,3]
def c54_3 : XC := fun _ => .region [] [xo 4 (.fa (xt 1) 0),
 xo 5 (.ld (xt 4) 1 false),
 xo 6 (.fa (xt 3) 0),
 xn (.sto (xt 6) (xt 5) 1)] [1,2,3]
def c54_4 : XC := fun _ => .region [] [xo 7 (.fa (xt 1) 1),
 xo 8 (.ld (xt 7) 1 false),
 xo 9 (.call 12 [(xt 8)]),
 xo 10 (.fa (xt 3) 1),
 xn (.sto (xt 10) (xt 9) 1)] [1,2,3]
def c54_5 : XC := fun _ => .region [] [xo 11 (.fa (xt 1) 2),
 xo 12 (.ld (xt 11) 1 false),
 xo 13 (.call 12 [(xt 12)]),
 xo 14 (.fa (xt 3) 2),
 xn (.sto (xt 14) (xt 13) 1)] [1,2,3]
def c54_6 : XC := fun _ => .region [] [xo 15 (.fa (xt 1) 3),
 xo 16 (.ld (xt 15) 4 true),
 xo 17 (.call 94 [(xt 16)]),
 xo 18 (.fa (xt 3) 3),
 xn (.sto (xt 18) (xt 17) 4)] [2,3]
def c54_7 : XC := fun _ => .region [] [xo 19 (.ld (xt 3) 7 true),
 xn (.sto (xt 2) (xt 19) 7)] [2]
def c54_8 : XC := fun _ => .seq c54_7 (fun _ => .ret)
def c54_9 : XC := fun _ => .seq c54_6 c54_8
def c54_10 : XC := fun _ => .seq c54_5 c54_9
def c54_11 : XC := fun _ => .seq c54_4 c54_10
def c54_12 : XC := fun _ => .seq c54_3 c54_11
def c54_13 : XC := fun _ => .seq c54_2 c54_12
def c54_14 : XC := fun _ => .seq c54_1 c54_13
def m_laws_toProposal : MCode := c54_14 ()
def h_laws_toProposal : Hints := [(0, [1,2], [], [], []), (1, [1,2,3], [], [], []), (2, [1,2,3], [], [], []), (3, [1,2,3], [], [], []), (4, [1,2,3], [], [], []), (5, [2,3], [], [], []), (6, [2], [], [], [])]
def r_laws_toProposal : List RV := [.c 2 7 true]
abbrev n_laws_toProposal : Nat := 54
theorem k_laws_toProposal : Known Pr mu n_laws_toProposal m_laws_toProposal r_laws_toProposal Go.Proofs.Try.f54.ntmps := .of h_laws_toProposal hm Go.Proofs.Try.func54
def c55_1 : XC := fun _ => .region [] [xo 3 (.box (xt 1)),
 xo 4 (.mv (.const (.slice none 0 0))),
 xo 5 (.alloc [.int .i64 0, .int .i64 0, .slice none 0 0, .slice none 0 0]),
 xo 6 (.mv (xb false))] [0,3,5]
def c55_2 : XC := fun _ => .region [] [xo 20 (.mv (xt 0)),
 xo 21 (.call 106 [(xt 20)]),
 xo 7 (.mv (xt 21))] [0,3,5,7]
def c55_3 : XC := fun _ => .region [] [xo 22 (.mv (xt 0)),
 xo 23 (.call 84 [(xt 22)]),
 xo 24 (.not (xt 23)),
 xo 25 (.mv (xt 24)),
 ⟨(some 26), .fa (xt 3) 3, (some (25, false)), []⟩,
 ⟨(some 27), .ld (xt 26) 4 true, (some (25, false)), []⟩,
 ⟨(some 28), .call 107 [(xt 27)], (some (25, false)), []⟩,
 ⟨(some 29), .not (xt 28), (some (25, false)), []⟩,
 xo 30 (.pick (xt 25) (xb true) (xt 29)),
 xo 31 (.mv (xt 30)),
 ⟨(some 32), .fa (xt 3) 0, (some (31, false)), []⟩,
 ⟨(some 33), .ld (xt 32) 1 false, (some (31, false)), []⟩,
 ⟨(some 34), .call 64 [(xt 33), (xi 1), (xi 99)], (some (31, false)), []⟩,
 ⟨(some 35), .not (xt 34), (some (31, false)), []⟩,
 xo 36 (.pick (xt 31) (xb true) (xt 35))] [0,3,5,7,36]
def c55_4 : XC := fun _ => .region [] [xo 37 (.mv (xt 7)),
 xo 38 (.bld [.int .i64 0, .int .i64 0, .slice none 0 0, .slice none 0 0] []),
 xo 4 (.mv (xt 37)),
 xn (.stoc (xt 5) (xt 38) 4),
 xo 6 (.mv (xb false))] [4,5,6]
def c55_5 : XC := fun _ => .seq c55_4 (fun _ => .ret)
def c55_6 : XC := fun _ => .cond (xt 36) c55_5 (fun _ => .skip)
def c55_7 : XC := fun _ => .seq c55_3 c55_6
def c55_8 : XC := fun _ => .region [] [xo 8 (.mv (xi 0)),
 xo 9 (.mv (xi 0))] [0,3,5,7,8,9]
def c55_9 : XC := fun _ => .region [] [xo 39 (.fa (xt 3) 3),
 xo 40 (.ld (xt 39) 4 true),
 xo 11 (.alloc [.int .i64 0, .int .i64 0, .slice none 0 0, .slice none 0 0]),
 xo 10 (.mv (xi 0)),
 xn (.stoc (xt 11) (xt 40) 4)] [0,3,5,7,8,9,10,11]
def c55_10 : XC := fun _ => .region [] [xo 41 (.mv (xt 0)),
 xo 42 (.len false (xt 41)),
 xo 43 (.mv (xi 0))] [3,5,7,8,9,10,11,41,42,43]
def c55_11 : XC := fun _ => .region [] [xo 44 (.bin .lss (xt 43) (xt 42))] [3,5,7,8,9,10,11,41,42,43,44]
def c55_12 : XC := fun _ => .cond (xt 44) (fun _ => .skip) (fun _ => .exit 0)
def c55_13 : XC := fun _ => .region [] [xo 45 (.mv (xt 43)),
 xo 46 (.ia (xt 41) (xt 43) 6),
 xo 47 (.ld (xt 46) 6 true),
 xo 13 (.alloc [.int .i64 0, .int .i64 0, .int .i64 0, .int .i64 0, .slice none 0 0, .slice none 0 0]),
 xo 12 (.mv (xt 45)),
 xn (.stoc (xt 13) (xt 47) 6)] [3,5,7,8,9,10,11,12,13,41,42,43]
def c55_14 : XC := fun _ => .region [] [xo 49 (.ld (xt 13) 6 true),
 xo 50 (.fa (xt 3) 0),
 xo 51 (.ld (xt 50) 1 false),
 xo 52 (.call 108 [(xt 49), (xt 51)]),
 xo 48 (.mv (xt 52)),
 xo 53 (.ext (xt 48) 0),
 xo 54 (.ext (xt 48) 1),
 xo 14 (.alloc [.int .i64 0, .int .i64 0, .int .i64 0, .int .i64 0, .slice none 0 0, .slice none 0 0]),
 xn (.stoc (xt 14) (xt 53) 6),
 xo 15 (.mv (xt 54))] [3,5,7,8,9,10,11,12,13,14,15,41,42,43]
def c55_15 : XC := fun _ => .region [] [xo 55 (.mv (xt 15)),
 xo 56 (.mv (xt 55)),
 ⟨(some 57), .fa (xt 3) 1, (some (56, true)), []⟩,
 ⟨(some 58), .ld (xt 57) 1 false, (some (56, true)), []⟩,
 ⟨(some 59), .mv (xt 12), (some (56, true)), []⟩,
 ⟨(some 60), .call 75 [(xt 58), (xt 59)], (some (56, true)), []⟩,
 xo 61 (.pick (xt 56) (xt 60) (xb false))] [3,5,7,8,9,10,11,12,13,14,41,42,43,61]
def c55_16 : XC := fun _ => .region [] [xo 62 (.mv (xt 7)),
 xo 63 (.mv (xt 12)),
 xo 64 (.ld (xt 14) 6 true),
 xo 65 (.ia (xt 62) (xt 63) 6),
 xn (.stoc (xt 65) (xt 64) 6)] [3,5,7,8,9,10,11,13,41,42,43]
def c55_17 : XC := fun _ => .region [] [xo 66 (.mv (xt 8)),
 xo 67 (.bin .add (xt 66) (xi 1)),
 xo 8 (.mv (xt 67))] [3,5,7,8,9,10,11,13,41,42,43]
def c55_18 : XC := fun _ => .region [] [xo 68 (.fa (xt 13) 1),
 xo 69 (.ld (xt 68) 1 false),
 xo 70 (.mv (xt 10)),
 xo 71 (.bin .gtr (xt 69) (xt 70))] [3,5,7,8,9,10,11,13,41,42,43,71]
def c55_19 : XC := fun _ => .region [] [xo 72 (.fa (xt 13) 1),
 xo 73 (.ld (xt 72) 1 false),
 ⟨(some 74), .fa (xt 13) 2, none, [0, 1]⟩,
 ⟨(some 75), .ld (xt 74) 4 true, none, [0, 1]⟩,
 xo 10 (.mv (xt 73)),
 xn (.stoc (xt 11) (xt 75) 4)] [3,5,7,8,9,10,11,41,42,43]
def c55_20 : XC := fun _ => .cond (xt 71) c55_19 (fun _ => .skip)
def c55_21 : XC := fun _ => .seq c55_18 c55_20
def c55_22 : XC := fun _ => .seq c55_17 c55_21
def c55_23 : XC := fun _ => .seq c55_16 c55_22
def c55_24 : XC := fun _ => .cond (xt 61) c55_23 (fun _ => .skip)
def c55_25 : XC := fun _ => .seq c55_15 c55_24
def c55_26 : XC := fun _ => .seq c55_14 c55_25
def c55_27 : XC := fun _ => .seq c55_13 c55_26
def c55_28 : XC := fun _ => .block 1 c55_27
def c55_29 : XC := fun _ => .region [] [xo 76 (.bin .add (xt 43) (xi 1)),
 xo 43 (.mv (xt 76))] [3,5,7,8,9,10,11,41,42,43]
def c55_30 : XC := fun _ => .seq c55_28 c55_29
def c55_31 : XC := fun _ => .seq c55_12 c55_30
def c55_32 : XC := fun _ => .seq c55_11 c55_31
def c55_33 : XC := fun _ => .loop c55_32
def c55_34 : XC := fun _ => .block 0 c55_33
def c55_35 : XC := fun _ => .seq c55_10 c55_34
def c55_36 : XC := fun _ => .region [] [xo 77 (.mv (xt 8)),
 xo 78 (.bin .mul (xi 2) (xt 77)),
 xo 79 (.bin .leq (xt 78) (xi 3))] [3,5,7,9,11,79]
def c55_37 : XC := fun _ => .region [] [xo 80 (.mv (xt 7)),
 xo 81 (.bld [.int .i64 0, .int .i64 0, .slice none 0 0, .slice none 0 0] []),
 xo 4 (.mv (xt 80)),
 xn (.stoc (xt 5) (xt 81) 4),
 xo 6 (.mv (xb false))] [4,5,6]
def c55_38 : XC := fun _ => .seq c55_37 (fun _ => .ret)
def c55_39 : XC := fun _ => .cond (xt 79) c55_38 (fun _ => .skip)
def c55_40 : XC := fun _ => .seq c55_36 c55_39
def c55_41 : XC := fun _ => .region [] [xo 82 (.mv (xt 7)),
 xo 83 (.len false (xt 82)),
 xo 84 (.mv (xi 0))] [3,5,7,9,11,82,83,84]
def c55_42 : XC := fun _ => .region [] [xo 85 (.bin .lss (xt 84) (xt 83))] [3,5,7,9,11,82,83,84,85]
def c55_43 : XC := fun _ => .cond (xt 85) (fun _ => .skip) (fun _ => .exit 2)
def c55_44 : XC := fun _ => .region [] [xo 86 (.mv (xt 84)),
 xo 87 (.ia (xt 82) (xt 84) 6),
 ⟨(some 88), .ldc (xt 87) 6 true, none, [2000000]⟩,
 xo 17 (.alloc [.int .i64 0, .int .i64 0, .int .i64 0, .int .i64 0, .slice none 0 0, .slice none 0 0]),
 xo 16 (.mv (xt 86)),
 xn (.stoc (xt 17) (xt 88) 6)] [3,5,7,9,11,16,17,82,83,84]
def c55_45 : XC := fun _ => .region [] [xo 90 (.ld (xt 17) 6 true),
 xo 91 (.fa (xt 3) 0),
 xo 92 (.ld (xt 91) 1 false),
 xo 93 (.ld (xt 11) 4 true),
 xo 94 (.call 109 [(xt 90), (xt 92), (xt 93)]),
 xo 89 (.mv (xt 94)),
 xo 95 (.ext (xt 89) 0),
 xo 96 (.ext (xt 89) 1),
 xo 18 (.alloc [.int .i64 0, .int .i64 0, .int .i64 0, .int .i64 0, .slice none 0 0, .slice none 0 0]),
 xn (.stoc (xt 18) (xt 95) 6),
 xo 19 (.mv (xt 96))] [3,5,7,9,11,16,18,19,82,83,84]
def c55_46 : XC := fun _ => .region [] [xo 97 (.mv (xt 19)),
 xo 98 (.mv (xt 97)),
 ⟨(some 99), .fa (xt 3) 2, (some (98, true)), []⟩,
 ⟨(some 100), .ld (xt 99) 1 false, (some (98, true)), []⟩,
 ⟨(some 101), .mv (xt 16), (some (98, true)), []⟩,
 ⟨(some 102), .call 75 [(xt 100), (xt 101)], (some (98, true)), []⟩,
 xo 103 (.pick (xt 98) (xt 102) (xb false))] [3,5,7,9,11,16,18,82,83,84,103]
def c55_47 : XC := fun _ => .region [] [xo 104 (.mv (xt 7)),
 xo 105 (.mv (xt 16)),
 xo 106 (.ld (xt 18) 6 true),
 xo 107 (.ia (xt 104) (xt 105) 6),
 xn (.stoc (xt 107) (xt 106) 6)] [3,5,7,9,11,82,83,84]
def c55_48 : XC := fun _ => .region [] [xo 108 (.mv (xt 9)),
 xo 109 (.bin .add (xt 108) (xi 1)),
 xo 9 (.mv (xt 109))] [3,5,7,9,11,82,83,84]
def c55_49 : XC := fun _ => .seq c55_47 c55_48
def c55_50 : XC := fun _ => .cond (xt 103) c55_49 (fun _ => .skip)
def c55_51 : XC := fun _ => .seq c55_46 c55_50
def c55_52 : XC := fun _ => .seq c55_45 c55_51
def c55_53 : XC := fun _ => .seq c55_44 c55_52
def c55_54 : XC := fun _ => .block 3 c55_53
def c55_55 : XC := fun _ => .region [] [xo 110 (.bin .add (xt 84) (xi 1)),
 xo 84 (.mv (xt 110))] [3,5,7,9,11,82,83,84]
def c55_56 : XC := fun _ => .seq c55_54 c55_55
def c55_57 : XC := fun _ => .seq c55_43 c55_56
def c55_58 : XC := fun _ => .seq c55_42 c55_57
def c55_59 : XC := fun _ => .loop c55_58
def c55_60 : XC := fun _ => .block 2 c55_59
def c55_61 : XC := fun _ => .seq c55_41 c55_60
def c55_62 : XC := fun _ => .region [] [xo 111 (.mv (xt 9)),
 xo 112 (.bin .mul (xi 2) (xt 111)),
 xo 113 (.bin .leq (xt 112) (xi 3))] [5,7,11,113]
def c55_63 : XC := fun _ => .region [] [xo 114 (.mv (xt 7)),
 xo 115 (.bld [.int .i64 0, .int .i64 0, .slice none 0 0, .slice none 0 0] []),
 xo 4 (.mv (xt 114)),
 xn (.stoc (xt 5) (xt 115) 4),
 xo 6 (.mv (xb false))] [4,5,6]
def c55_64 : XC := fun _ => .seq c55_63 (fun _ => .ret)
def c55_65 : XC := fun _ => .cond (xt 113) c55_64 (fun _ => .skip)
def c55_66 : XC := fun _ => .seq c55_62 c55_65
def c55_67 : XC := fun _ => .region [] [xo 116 (.mv (xt 7)),
 xo 117 (.ld (xt 11) 4 true),
 xo 118 (.call 86 [(xt 117)]),
 xo 4 (.mv (xt 116)),
 xn (.stoc (xt 5) (xt 118) 4),
 xo 6 (.mv (xb true))] [4,5,6]
def c55_68 : XC := fun _ => .seq c55_67 (fun _ => .ret)
def c55_69 : XC := fun _ => .seq c55_66 c55_68
def c55_70 : XC := fun _ => .seq c55_61 c55_69
def c55_71 : XC := fun _ => .seq c55_40 c55_70
def c55_72 : XC := fun _ => .seq c55_35 c55_71
def c55_73 : XC := fun _ => .seq c55_9 c55_72
def c55_74 : XC := fun _ => .seq c55_8 c55_73
def c55_75 : XC := fun _ => .seq c55_7 c55_74
def c55_76 : XC := fun _ => .seq c55_2 c55_75
def c55_77 : XC := fun _ => .seq c55_1 c55_76
def m_impl_RunProposal : MCode := c55_77 ()
def h_impl_RunProposal : Hints := [(0, [0,3,5], [], [], []), (1, [0,3,5,7], [], [], []), (2, [0,3,5,7,36], [], [], []), (3, [4,5,6], [], [], []), (4, [0,3,5,7,8,9], [], [], []), (5, [0,3,5,7,8,9,10,11], [], [], []), (6, [3,5,7,8,9,10,11,41,42,43], [], [], []), (7, [3,5,7,8,9,10,11,41,42,43,44], [], [], []), (8, [3,5,7,8,9,10,11,12,13,41,42,43], [], [], []), (9, [3,5,7,8,9,10,11,12,13,14,15,41,42,43], [], [], []), (10, [3,5,7,8,9,10,11,12,13,14,41,42,43,61], [], [], []), (11, [3,5,7,8,9,10,11,13,41,42,43], [], [], []), (12, [3,5,7,8,9,10,11,13,41,42,43], [], [], []), (13, [3,5,7,8,9,10,11,13,41,42,43,71], [], [], []), (14, [3,5,7,8,9,10,11,41,42,43], [[],[],[0,1],[0,1]], [], []), (15, [3,5,7,8,9,10,11,41,42,43], [], [], []), (16, [3,5,7,9,11,79], [], [], []), (17, [4,5,6], [], [], []), (18, [3,5,7,9,11,82,83,84], [], [], []), (19, [3,5,7,9,11,82,83,84,85], [], [], []), (20, [3,5,7,9,11,16,17,82,83,84], [[],[],[2000000]], [], []), (21, [3,5,7,9,11,16,18,19,82,83,84], [], [], []), (22, [3,5,7,9,11,16,18,82,83,84,103], [], [], []), (23, [3,5,7,9,11,82,83,84], [], [], []), (24, [3,5,7,9,11,82,83,84], [], [], []), (25, [3,5,7,9,11,82,83,84], [], [], []), (26, [5,7,11,113], [], [], []), (27, [4,5,6], [], [], []), (28, [4,5,6], [], [], [])]
def r_impl_RunProposal : List RV := [.t 4, .c 5 4 true, .t 6]
abbrev n_impl_RunProposal : Nat := 55
theorem k_impl_RunProposal : Known Pr muc n_impl_RunProposal m_impl_RunProposal r_impl_RunProposal Go.Proofs.Try.f55.ntmps := .of h_impl_RunProposal hm Go.Proofs.Try.func55
def c56_1 : XC := fun _ => .region [] [xo 2 (.box (xt 0)),
 xo 3 (.box (xt 1)),
 xo 4 (.mv (xb false))] [2,3]
def c56_2 : XC := fun _ => .region [] [xo 5 (.fa (xt 2) 0),
 xo 6 (.ld (xt 5) 1 false),
 xo 7 (.fa (xt 3) 0),
 xo 8 (.ld (xt 7) 1 false),
 xo 9 (.bin .neq (xt 6) (xt 8))] [2,3,9]
def c56_3 : XC := fun _ => .region [] [xo 4 (.mv (xb false))] [4]
def c56_4 : XC := fun _ => .seq c56_3 (fun _ => .ret)
def c56_5 : XC := fun _ => .cond (xt 9) c56_4 (fun _ => .skip)
def c56_6 : XC := fun _ => .seq c56_2 c56_5
def c56_7 : XC := fun _ => .region [] [xo 10 (.fa (xt 2) 1),
 xo 11 (.ld (xt 10) 1 false),
 xo 12 (.fa (xt 3) 1),
 xo 13 (.ld (xt 12) 1 false),
 xo 14 (.call 14 [(xt 11), (xt 13)]),
 xo 15 (.not (xt 14))] [2,3,15]
def c56_8 : XC := fun _ => .region [] [xo 4 (.mv (xb false))] [4]
def c56_9 : XC := fun _ => .seq c56_8 (fun _ => .ret)
def c56_10 : XC := fun _ => .cond (xt 15) c56_9 (fun _ => .skip)
def c56_11 : XC := fun _ => .seq c56_7 c56_10
def c56_12 : XC := fun _ => .region [] [xo 16 (.fa (xt 2) 2),
 xo 17 (.ld (xt 16) 1 false),
 xo 18 (.fa (xt 3) 2),
 xo 19 (.ld (xt 18) 1 false),
 xo 20 (.call 14 [(xt 17), (xt 19)]),
 xo 21 (.not (xt 20))] [2,3,21]
def c56_13 : XC := fun _ => .region [] [xo 4 (.mv (xb false))] [4]
def c56_14 : XC := fun _ => .seq c56_13 (fun _ => .ret)
def c56_15 : XC := fun _ => .cond (xt 21) c56_14 (fun _ => .skip)
def c56_16 : XC := fun _ => .seq c56_12 c56_15
def c56_17 : XC := fun _ => .region [] [xo 22 (.fa (xt 2) 3),
 xo 23 (.ld (xt 22) 4 true),
 xo 24 (.fa (xt 3) 3),
 xo 25 (.ld (xt 24) 4 true),
 xo 26 (.call 40 [(xt 23), (xt 25)]),
 xo 27 (.not (xt 26))] [27]
def c56_18 : XC := fun _ => .region [] [xo 4 (.mv (xb false))] [4]
def c56_19 : XC := fun _ => .seq c56_18 (fun _ => .ret)
def c56_20 : XC := fun _ => .cond (xt 27) c56_19 (fun _ => .skip)
def c56_21 : XC := fun _ => .seq c56_17 c56_20
def c56_22 : XC := fun _ => .region [] [xo 4 (.mv (xb true))] [4]
def c56_23 : XC := fun _ => .seq c56_22 (fun _ => .ret)
def c56_24 : XC := fun _ => .seq c56_21 c56_23
def c56_25 : XC := fun _ => .seq c56_16 c56_24
def c56_26 : XC := fun _ => .seq c56_11 c56_25
def c56_27 : XC := fun _ => .seq c56_6 c56_26
def c56_28 : XC := fun _ => .seq c56_1 c56_27
def m_laws_eqProposal : MCode := c56_28 ()
def h_laws_eqProposal : Hints := [(0, [2,3], [], [], []), (1, [2,3,9], [], [], []), (2, [4], [], [], []), (3, [2,3,15], [], [], []), (4, [4], [], [], []), (5, [2,3,21], [], [], []), (6, [4], [], [], []), (7, [27], [], [], []), (8, [4], [], [], []), (9, [4], [], [], [])]
def r_laws_eqProposal : List RV := [.t 4]
abbrev n_laws_eqProposal : Nat := 56
theorem k_laws_eqProposal : Known Pr mu n_laws_eqProposal m_laws_eqProposal r_laws_eqProposal Go.Proofs.Try.f56.ntmps := .of h_laws_eqProposal hm Go.Proofs.Try.func56
def c57_1 : XC := fun _ => .region [] [xo 2 (.box (xt 0)),
 xo 4 (.mv (xi 0))] [1,2]
def c57_2 : XC := fun _ => .region [] [xo 5 (.fa (xt 2) 1),
 xo 6 (.ld (xt 5) 1 false),
 xo 7 (.mv (xt 1)),
 xo 8 (.callm 17 [(xt 6), (xt 7)]),
 xo 1 (.mv (xt 8))] [1,2]
def c57_3 : XC := fun _ => .region [] [xo 9 (.fa (xt 2) 2),
 xo 10 (.ld (xt 9) 1 false),
 xo 11 (.mv (xt 1)),
 xo 12 (.callm 17 [(xt 10), (xt 11)]),
 xo 1 (.mv (xt 12))] [1,2]
def c57_4 : XC := fun _ => .region [] [xo 13 (.fa (xt 2) 3),
 xo 14 (.ld (xt 13) 4 true),
 xo 15 (.mv (xt 1)),
 xo 16 (.callm 43 [(xt 14), (xt 15)]),
 xo 1 (.mv (xt 16))] [1]
def c57_5 : XC := fun _ => .region [] [xo 17 (.mv (xt 1)),
 xo 4 (.mv (xt 17))] [4]
def c57_6 : XC := fun _ => .seq c57_5 (fun _ => .ret)
def c57_7 : XC := fun _ => .seq c57_4 c57_6
def c57_8 : XC := fun _ => .seq c57_3 c57_7
def c57_9 : XC := fun _ => .seq c57_2 c57_8
def c57_10 : XC := fun _ => .seq c57_1 c57_9
def m_laws_markProposal : MCode := c57_10 ()
def h_laws_markProposal : Hints := [(0, [1,2], [], [], []), (1, [1,2], [], [], []), (2, [1,2], [], [], []), (3, [1], [], [], []), (4, [4], [], [], [])]
def r_laws_markProposal : List RV := [.t 4]
abbrev n_laws_markProposal : Nat := 57
theorem k_laws_markProposal : Known Pr mu n_laws_markProposal m_laws_markProposal r_laws_markProposal Go.Proofs.Try.f57.ntmps := .of h_laws_markProposal hm Go.Proofs.Try.func57
def c58_1 : XC := fun _ => .region [] [xo 4 (.mv (xi 0))] [0,1]
def c58_2 : XC := fun _ => .region [] [xo 5 (.mv (xi 0))] [0,1,5]
def c58_3 : XC := fun _ => .region [] [xo 6 (.mv (xt 5)),
 xo 7 (.mv (xt 0)),
 xo 8 (.len false (xt 7)),
 xo 9 (.bin .lss (xt 6) (xt 8))] [0,1,5,9]
def c58_4 : XC := fun _ => .cond (xt 9) (fun _ => .skip) (fun _ => .exit 0)
def c58_5 : XC := fun _ => .seq c58_3 c58_4
def c58_6 : XC := fun _ => .region [] [xo 12 (.mv (xt 0)),
 xo 13 (.mv (xt 5)),
 xo 14 (.ia (xt 12) (xt 13) 6),
 xo 15 (.fa (xt 14) 0),
 xo 16 (.ld (xt 15) 1 false),
 xo 17 (.mv (xt 1)),
 xo 18 (.bin .neq (xt 16) (xt 17))] [0,1,5,18]
def c58_7 : XC := fun _ => .region [] [xo 4 (.mv (xi (-1)))] [4]
def c58_8 : XC := fun _ => .seq c58_7 (fun _ => .ret)
def c58_9 : XC := fun _ => .cond (xt 18) c58_8 (fun _ => .skip)
def c58_10 : XC := fun _ => .seq c58_6 c58_9
def c58_11 : XC := fun _ => .region [] [xo 19 (.mv (xt 1)),
 xo 20 (.bin .add (xt 19) (xi 1)),
 xo 1 (.mv (xt 20))] [0,1,5]
def c58_12 : XC := fun _ => .region [] [xo 21 (.mv (xt 0)),
 xo 22 (.mv (xt 5)),
 xo 23 (.ia (xt 21) (xt 22) 6),
 xo 24 (.fa (xt 23) 1),
 xo 25 (.ld (xt 24) 1 false),
 xo 26 (.mv (xt 1)),
 xo 27 (.bin .neq (xt 25) (xt 26))] [0,1,5,27]
def c58_13 : XC := fun _ => .region [] [xo 4 (.mv (xi (-1)))] [4]
def c58_14 : XC := fun _ => .seq c58_13 (fun _ => .ret)
def c58_15 : XC := fun _ => .cond (xt 27) c58_14 (fun _ => .skip)
def c58_16 : XC := fun _ => .seq c58_12 c58_15
def c58_17 : XC := fun _ => .region [] [xo 28 (.mv (xt 1)),
 xo 29 (.bin .add (xt 28) (xi 1)),
 xo 1 (.mv (xt 29))] [0,1,5]
def c58_18 : XC := fun _ => .region [] [xo 30 (.mv (xt 0)),
 xo 31 (.mv (xt 5)),
 xo 32 (.ia (xt 30) (xt 31) 6),
 xo 33 (.fa (xt 32) 2),
 xo 34 (.fa (xt 33) 0),
 xo 35 (.ld (xt 34) 1 false),
 xo 36 (.mv (xt 1)),
 xo 37 (.bin .neq (xt 35) (xt 36))] [0,1,5,37]
def c58_19 : XC := fun _ => .region [] [xo 4 (.mv (xi (-1)))] [4]
def c58_20 : XC := fun _ => .seq c58_19 (fun _ => .ret)
def c58_21 : XC := fun _ => .cond (xt 37) c58_20 (fun _ => .skip)
def c58_22 : XC := fun _ => .seq c58_18 c58_21
def c58_23 : XC := fun _ => .region [] [xo 38 (.mv (xt 1)),
 xo 39 (.bin .add (xt 38) (xi 1)),
 xo 1 (.mv (xt 39))] [0,1,5]
def c58_24 : XC := fun _ => .region [] [xo 40 (.mv (xt 0)),
 xo 41 (.mv (xt 5)),
 xo 42 (.ia (xt 40) (xt 41) 6),
 xo 43 (.fa (xt 42) 2),
 xo 44 (.fa (xt 43) 1),
 xo 45 (.ld (xt 44) 1 false),
 xo 46 (.mv (xt 1)),
 xo 47 (.bin .neq (xt 45) (xt 46))] [0,1,5,47]
def c58_25 : XC := fun _ => .region [] [xo 4 (.mv (xi (-1)))] [4]
def c58_26 : XC := fun _ => .seq c58_25 (fun _ => .ret)
def c58_27 : XC := fun _ => .cond (xt 47) c58_26 (fun _ => .skip)
def c58_28 : XC := fun _ => .seq c58_24 c58_27
def c58_29 : XC := fun _ => .region [] [xo 48 (.mv (xt 1)),
 xo 49 (.bin .add (xt 48) (xi 1)),
 xo 1 (.mv (xt 49))] [0,1,5]
def c58_30 : XC := fun _ => .region [] [xo 50 (.mv (xt 0)),
 xo 51 (.mv (xt 5)),
 xo 52 (.ia (xt 50) (xt 51) 6),
 xo 53 (.fa (xt 52) 2),
 xo 54 (.fa (xt 53) 2),
 xo 55 (.ld (xt 54) 1 false),
 xo 56 (.mv (xt 1)),
 xo 57 (.call 18 [(xt 55), (xt 56)]),
 xo 1 (.mv (xt 57))] [0,1,5]
def c58_31 : XC := fun _ => .region [] [xo 58 (.mv (xt 1)),
 xo 59 (.bin .lss (xt 58) (xi 0))] [0,1,5,59]
def c58_32 : XC := fun _ => .region [] [xo 4 (.mv (xi (-1)))] [4]
def c58_33 : XC := fun _ => .seq c58_32 (fun _ => .ret)
def c58_34 : XC := fun _ => .cond (xt 59) c58_33 (fun _ => .skip)
def c58_35 : XC := fun _ => .seq c58_31 c58_34
def c58_36 : XC := fun _ => .region [] [xo 60 (.mv (xt 0)),
 xo 61 (.mv (xt 5)),
 xo 62 (.ia (xt 60) (xt 61) 6),
 xo 63 (.fa (xt 62) 2),
 xo 64 (.fa (xt 63) 3),
 xo 65 (.ld (xt 64) 1 false),
 xo 66 (.mv (xt 1)),
 xo 67 (.call 18 [(xt 65), (xt 66)]),
 xo 1 (.mv (xt 67))] [0,1,5]
def c58_37 : XC := fun _ => .region [] [xo 68 (.mv (xt 1)),
 xo 69 (.bin .lss (xt 68) (xi 0))] [0,1,5,69]
def c58_38 : XC := fun _ => .region [] [xo 4 (.mv (xi (-1)))] [4]
def c58_39 : XC := fun _ => .seq c58_38 (fun _ => .ret)
def c58_40 : XC := fun _ => .cond (xt 69) c58_39 (fun _ => .skip)
def c58_41 : XC := fun _ => .seq c58_37 c58_40
def c58_42 : XC := fun _ => .seq c58_36 c58_41
def c58_43 : XC := fun _ => .seq c58_35 c58_42
def c58_44 : XC := fun _ => .seq c58_30 c58_43
def c58_45 : XC := fun _ => .seq c58_29 c58_44
def c58_46 : XC := fun _ => .seq c58_28 c58_45
def c58_47 : XC := fun _ => .seq c58_23 c58_46
def c58_48 : XC := fun _ => .seq c58_22 c58_47
def c58_49 : XC := fun _ => .seq c58_17 c58_48
def c58_50 : XC := fun _ => .seq c58_16 c58_49
def c58_51 : XC := fun _ => .seq c58_11 c58_50
def c58_52 : XC := fun _ => .seq c58_10 c58_51
def c58_53 : XC := fun _ => .block 1 c58_52
def c58_54 : XC := fun _ => .region [] [xo 10 (.mv (xt 5)),
 xo 11 (.bin .add (xt 10) (xi 1)),
 xo 5 (.mv (xt 11))] [0,1,5]
def c58_55 : XC := fun _ => .seq c58_53 c58_54
def c58_56 : XC := fun _ => .seq c58_5 c58_55
def c58_57 : XC := fun _ => .loop c58_56
def c58_58 : XC := fun _ => .block 0 c58_57
def c58_59 : XC := fun _ => .seq c58_2 c58_58
def c58_60 : XC := fun _ => .region [] [xo 70 (.mv (xt 1)),
 xo 4 (.mv (xt 70))] [4]
def c58_61 : XC := fun _ => .seq c58_60 (fun _ => .ret)
def c58_62 : XC := fun _ => .seq c58_59 c58_61
def c58_63 : XC := fun _ => .seq c58_1 c58_62
def m_laws_heldAcceptorS : MCode := c58_63 ()
def h_laws_heldAcceptorS : Hints := [(0, [0,1], [], [], []), (1, [0,1,5], [], [], []), (2, [0,1,5,9], [], [], []), (4, [0,1,5,18], [], [], []), (5, [4], [], [], []), (6, [0,1,5], [], [], []), (7, [0,1,5,27], [], [], []), (8, [4], [], [], []), (9, [0,1,5], [], [], []), (10, [0,1,5,37], [], [], []), (11, [4], [], [], []), (12, [0,1,5], [], [], []), (13, [0,1,5,47], [], [], []), (14, [4], [], [], []), (15, [0,1,5], [], [], []), (16, [0,1,5], [], [], []), (17, [0,1,5,59], [], [], []), (18, [4], [], [], []), (19, [0,1,5], [], [], []), (20, [0,1,5,69], [], [], []), (21, [4], [], [], []), (3, [0,1,5], [], [], []), (22, [4], [], [], [])]
def r_laws_heldAcceptorS : List RV := [.t 4]
abbrev n_laws_heldAcceptorS : Nat := 58
theorem k_laws_heldAcceptorS : Known Pr mu n_laws_heldAcceptorS m_laws_heldAcceptorS r_laws_heldAcceptorS Go.Proofs.Try.f58.ntmps := .of h_laws_heldAcceptorS hm Go.Proofs.Try.func58
def c59_1 : XC := fun _ => .region [] [xo 6 (.mv (xb false))] [0,1,2]
def c59_2 : XC := fun _ => .region [] [xo 7 (.mv (xt 0)),
 xo 8 (.mv (xt 1)),
 xo 9 (.bin .geq (xt 7) (xt 8)),
 xo 10 (.mv (xt 9)),
 ⟨(some 11), .mv (xt 0), (some (10, true)), []⟩,
 ⟨(some 12), .mv (xt 2), (some (10, true)), []⟩,
 ⟨(some 13), .bin .leq (xt 11) (xt 12), (some (10, true)), []⟩,
 xo 14 (.pick (xt 10) (xt 13) (xb false)),
 xo 6 (.mv (xt 14))] [6]
def c59_3 : XC := fun _ => .seq c59_2 (fun _ => .ret)
def c59_4 : XC := fun _ => .seq c59_1 c59_3
def m_spec_l1In : MCode := c59_4 ()
def h_spec_l1In : Hints := [(0, [0,1,2], [], [], []), (1, [6], [], [], [])]
def r_spec_l1In : List RV := [.t 6]
abbrev n_spec_l1In : Nat := 59
theorem k_spec_l1In : Known Pr mu n_spec_l1In m_spec_l1In r_spec_l1In Go.Proofs.Try.f59.ntmps := .of h_spec_l1In hm Go.Proofs.Try.func59
def c60_1 : XC := fun _ => .region [] [xo 4 (.mv (.const (.slice none 0 0)))] [0,1]
def c60_2 : XC := fun _ => .region [] [xo 5 (.mv (xi 0))] [0,1,5]
def c60_3 : XC := fun _ => .region [] [xo 6 (.mv (xt 5)),
 xo 7 (.mv (xt 0)),
 xo 8 (.len false (xt 7)),
 xo 9 (.bin .lss (xt 6) (xt 8)),
 xo 10 (.mv (xt 9)),
 ⟨(some 11), .mv (xt 0), (some (10, true)), []⟩,
 ⟨(some 12), .mv (xt 5), (some (10, true)), []⟩,
 ⟨(some 13), .ia (xt 11) (xt 12) 1, (some (10, true)), []⟩,
 ⟨(some 14), .ld (xt 13) 1 false, (some (10, true)), []⟩,
 ⟨(some 15), .mv (xt 1), (some (10, true)), []⟩,
 ⟨(some 16), .bin .lss (xt 14) (xt 15), (some (10, true)), []⟩,
 xo 17 (.pick (xt 10) (xt 16) (xb false))] [0,1,5,17]
def c60_4 : XC := fun _ => .cond (xt 17) (fun _ => .skip) (fun _ => .exit 0)
def c60_5 : XC := fun _ => .seq c60_3 c60_4
def c60_6 : XC := fun _ => .region [] [xo 18 (.mv (xt 5)),
 xo 19 (.bin .add (xt 18) (xi 1)),
 xo 5 (.mv (xt 19))] [0,1,5]
def c60_7 : XC := fun _ => .block 1 c60_6
def c60_8 : XC := fun _ => .seq c60_5 c60_7
def c60_9 : XC := fun _ => .loop c60_8
def c60_10 : XC := fun _ => .block 0 c60_9
def c60_11 : XC := fun _ => .region [] [xo 20 (.mv (xt 5)),
 xo 21 (.mv (xt 0)),
 xo 22 (.len false (xt 21)),
 xo 23 (.bin .lss (xt 20) (xt 22)),
 xo 24 (.mv (xt 23)),
 ⟨(some 25), .mv (xt 0), (some (24, true)), []⟩,
 ⟨(some 26), .mv (xt 5), (some (24, true)), []⟩,
 ⟨(some 27), .ia (xt 25) (xt 26) 1, (some (24, true)), []⟩,
 ⟨(some 28), .ld (xt 27) 1 false, (some (24, true)), []⟩,
 ⟨(some 29), .mv (xt 1), (some (24, true)), []⟩,
 ⟨(some 30), .bin .eql (xt 28) (xt 29), (some (24, true)), []⟩,
 xo 31 (.pick (xt 24) (xt 30) (xb false))] [0,1,5,31]
def c60_12 : XC := fun _ => .region [] [xo 32 (.bsl 1 0 [.int .i64 0] []),
 xo 33 (.mv (xt 0)),
 xo 34 (.app (xt 32) (xt 33) 1 8),
 xo 4 (.mv (xt 34))] [4]
def c60_13 : XC := fun _ => .seq c60_12 (fun _ => .ret)
def c60_14 : XC := fun _ => .cond (xt 31) c60_13 (fun _ => .skip)
def c60_15 : XC := fun _ => .seq c60_11 c60_14
def c60_16 : XC := fun _ => .region [xo 43 (.mv (xt 0)), xo 44 (.mv (xt 5)), xo 45 (.slf (xt 43) (some (xt 44)) none 1)] [xo 35 (.bsl 1 0 [.int .i64 0] []),
 xo 36 (.mv (xt 0)),
 xo 37 (.mv (xt 5)),
 ⟨(some 38), .slc false (xt 36) none (some (xt 37)) none 1, none, [0]⟩,
 ⟨(some 39), .appn (xt 35) (xt 38) 1 8, none, [1000000]⟩,
 xo 40 (.mv (xt 1)),
 xo 41 (.bsl 1 1 [.int .i64 0] [(0, (xt 40))]),
 xo 42 (.app (xt 39) (xt 41) 1 8),
 ⟨(some 43), .mv (xt 43), none, []⟩,
 ⟨(some 44), .mv (xt 44), none, []⟩,
 ⟨(some 45), .mv (xt 45), none, []⟩,
 xo 46 (.app (xt 42) (xt 45) 1 8),
 xo 4 (.mv (xt 46))] [4]
def c60_17 : XC := fun _ => .seq c60_16 (fun _ => .ret)
def c60_18 : XC := fun _ => .seq c60_15 c60_17
def c60_19 : XC := fun _ => .seq c60_10 c60_18
def c60_20 : XC := fun _ => .seq c60_2 c60_19
def c60_21 : XC := fun _ => .seq c60_1 c60_20
def m_spec_l2Put : MCode := c60_21 ()
def h_spec_l2Put : Hints := [(0, [0,1], [], [], []), (1, [0,1,5], [], [], []), (2, [0,1,5,17], [], [], []), (3, [0,1,5], [], [], []), (4, [0,1,5,31], [], [], []), (5, [4], [], [], []), (6, [4], [[],[],[],[0],[1000000]], [8,9,10], [])]
def r_spec_l2Put : List RV := [.t 4]
abbrev n_spec_l2Put : Nat := 60
theorem k_spec_l2Put : Known Pr mu n_spec_l2Put m_spec_l2Put r_spec_l2Put Go.Proofs.Try.f60.ntmps := .of h_spec_l2Put hm Go.Proofs.Try.func60
def c63_1 : XC := fun _ => .region [] [xo 2 (.mv (xb false))] [0]
def c63_2 : XC := fun _ => .region [] [xo 5 (.mv (xt 0)),
 xo 6 (.len false (xt 5)),
 xo 7 (.mv (xi 0))] [0,5,6,7]
def c63_3 : XC := fun _ => .region [] [xo 8 (.bin .lss (xt 7) (xt 6))] [0,5,6,7,8]
def c63_4 : XC := fun _ => .cond (xt 8) (fun _ => .skip) (fun _ => .exit 0)
def c63_5 : XC := fun _ => .region [] [xo 9 (.mv (xt 7)),
 xo 10 (.ia (xt 5) (xt 7) 1),
 xo 11 (.ld (xt 10) 1 false),
 xo 3 (.mv (xt 9)),
 xo 4 (.mv (xt 11))] [0,3,4,5,6,7]
def c63_6 : XC := fun _ => .region [] [xo 12 (.mv (xt 4)),
 xo 13 (.call 64 [(xt 12), (xi 0), (xi 4)]),
 xo 14 (.not (xt 13)),
 xo 15 (.mv (xt 14)),
 ⟨(some 16), .mv (xt 3), (some (15, false)), []⟩,
 ⟨(some 17), .bin .gtr (xt 16) (xi 0), (some (15, false)), []⟩,
 ⟨(some 18), .mv (xt 17), (some (15, false)), []⟩,
 ⟨(some 19), .mv (xt 4), (some (18, true)), []⟩,
 ⟨(some 20), .mv (xt 0), (some (18, true)), []⟩,
 ⟨(some 21), .mv (xt 3), (some (18, true)), []⟩,
 ⟨(some 22), .bin .sub (xt 21) (xi 1), (some (18, true)), []⟩,
 ⟨(some 23), .ia (xt 20) (xt 22) 1, (some (18, true)), []⟩,
 ⟨(some 24), .ld (xt 23) 1 false, (some (18, true)), []⟩,
 ⟨(some 25), .bin .leq (xt 19) (xt 24), (some (18, true)), []⟩,
 ⟨(some 26), .pick (xt 18) (xt 25) (xb false), (some (15, false)), []⟩,
 xo 27 (.pick (xt 15) (xb true) (xt 26))] [0,5,6,7,27]
def c63_7 : XC := fun _ => .region [] [xo 2 (.mv (xb false))] [2]
def c63_8 : XC := fun _ => .seq c63_7 (fun _ => .ret)
def c63_9 : XC := fun _ => .cond (xt 27) c63_8 (fun _ => .skip)
def c63_10 : XC := fun _ => .seq c63_6 c63_9
def c63_11 : XC := fun _ => .seq c63_5 c63_10
def c63_12 : XC := fun _ => .block 1 c63_11
def c63_13 : XC := fun _ => .region [] [xo 28 (.bin .add (xt 7) (xi 1)),
 xo 7 (.mv (xt 28))] [0,5,6,7]
def c63_14 : XC := fun _ => .seq c63_12 c63_13
def c63_15 : XC := fun _ => .seq c63_4 c63_14
def c63_16 : XC := fun _ => .seq c63_3 c63_15
def c63_17 : XC := fun _ => .loop c63_16
def c63_18 : XC := fun _ => .block 0 c63_17
def c63_19 : XC := fun _ => .seq c63_2 c63_18
def c63_20 : XC := fun _ => .region [] [xo 2 (.mv (xb true))] [2]
def c63_21 : XC := fun _ => .seq c63_20 (fun _ => .ret)
def c63_22 : XC := fun _ => .seq c63_19 c63_21
def c63_23 : XC := fun _ => .seq c63_1 c63_22
def m_impl_AreServers : MCode := c63_23 ()
def h_impl_AreServers : Hints := [(0, [0], [], [], []), (1, [0,5,6,7], [], [], []), (2, [0,5,6,7,8], [], [], []), (3, [0,3,4,5,6,7], [], [], []), (4, [0,5,6,7,27], [], [], []), (5, [2], [], [], []), (6, [0,5,6,7], [], [], []), (7, [2], [], [], [])]
def r_impl_AreServers : List RV := [.t 2]
abbrev n_impl_AreServers : Nat := 63
theorem k_impl_AreServers : Known Pr mu n_impl_AreServers m_impl_AreServers r_impl_AreServers Go.Proofs.Try.f63.ntmps := .of h_impl_AreServers hm Go.Proofs.Try.func63
def c64_1 : XC := fun _ => .region [] [xo 6 (.mv (xb false))] [0,1,2]
def c64_2 : XC := fun _ => .region [] [xo 7 (.mv (xt 1)),
 xo 8 (.mv (xt 0)),
 xo 9 (.bin .leq (xt 7) (xt 8)),
 xo 10 (.mv (xt 9)),
 ⟨(some 11), .mv (xt 0), (some (10, true)), []⟩,
 ⟨(some 12), .mv (xt 2), (some (10, true)), []⟩,
 ⟨(some 13), .bin .leq (xt 11) (xt 12), (some (10, true)), []⟩,
 xo 14 (.pick (xt 10) (xt 13) (xb false)),
 xo 6 (.mv (xt 14))] [6]
def c64_3 : XC := fun _ => .seq c64_2 (fun _ => .ret)
def c64_4 : XC := fun _ => .seq c64_1 c64_3
def m_impl_within : MCode := c64_4 ()
def h_impl_within : Hints := [(0, [0,1,2], [], [], []), (1, [6], [], [], [])]
def r_impl_within : List RV := [.t 6]
abbrev n_impl_within : Nat := 64
theorem k_impl_within : Known Pr mu n_impl_within m_impl_within r_impl_within Go.Proofs.Try.f64.ntmps := .of h_impl_within hm Go.Proofs.Try.func64
def c65_1 : XC := fun _ => .region [] [xo 4 (.mv (.const (.slice none 0 0)))] [0,1]
def c65_2 : XC := fun _ => .region [] [xo 5 (.mv (xt 0)),
 xo 6 (.mv (xt 0)),
 xo 7 (.mv (xt 1)),
 xo 8 (.call 66 [(xt 6), (xt 7)]),
 xo 9 (.call 66 [(xt 5), (xt 8)]),
 xo 4 (.mv (xt 9))] [4]
def c65_3 : XC := fun _ => .seq c65_2 (fun _ => .ret)
def c65_4 : XC := fun _ => .seq c65_1 c65_3
def m_impl_CommonServers : MCode := c65_4 ()
def h_impl_CommonServers : Hints := [(0, [0,1], [], [], []), (1, [4], [], [], [])]
def r_impl_CommonServers : List RV := [.t 4]
abbrev n_impl_CommonServers : Nat := 65
theorem k_impl_CommonServers : Known Pr mu n_impl_CommonServers m_impl_CommonServers r_impl_CommonServers Go.Proofs.Try.f65.ntmps := .of h_impl_CommonServers hm Go.Proofs.Try.func65
def c66_1 : XC := fun _ => .region [] [xo 3 (.box (xt 1)),
 xo 4 (.mv (.const (.slice none 0 0)))] [0,3]
def c66_2 : XC := fun _ => .region [] [xo 5 (.mv (xt 0)),
 xo 6 (.call 78 [(xt 5)]),
 xo 7 (.mkf 113 [(xt 3)]),
 xo 8 (.callm 112 [(xt 6), (xt 7)]),
 xo 4 (.mv (xt 8))] [4]
def c66_3 : XC := fun _ => .seq c66_2 (fun _ => .ret)
def c66_4 : XC := fun _ => .seq c66_1 c66_3
def m_impl_WithoutServers : MCode := c66_4 ()
def h_impl_WithoutServers : Hints := [(0, [0,3], [], [], []), (1, [4], [], [], [])]
def r_impl_WithoutServers : List RV := [.t 4]
abbrev n_impl_WithoutServers : Nat := 66
theorem k_impl_WithoutServers : Known Pr mu n_impl_WithoutServers m_impl_WithoutServers r_impl_WithoutServers Go.Proofs.Try.f66.ntmps := .of h_impl_WithoutServers hm Go.Proofs.Try.func66
def c75_1 : XC := fun _ => .region [] [xo 4 (.mv (xb false))] [0,1]
def c75_2 : XC := fun _ => .region [] [xo 5 (.mv (xt 0)),
 xo 6 (.mv (xt 1)),
 xo 7 (.call 119 [(xt 5), (xt 6)]),
 xo 4 (.mv (xt 7))] [4]
def c75_3 : XC := fun _ => .seq c75_2 (fun _ => .ret)
def c75_4 : XC := fun _ => .seq c75_1 c75_3
def m_impl_HasServer : MCode := c75_4 ()
def h_impl_HasServer : Hints := [(0, [0,1], [], [], []), (1, [4], [], [], [])]
def r_impl_HasServer : List RV := [.t 4]
abbrev n_impl_HasServer : Nat := 75
theorem k_impl_HasServer : Known Pr mu n_impl_HasServer m_impl_HasServer r_impl_HasServer Go.Proofs.Try.f75.ntmps := .of h_impl_HasServer hm Go.Proofs.Try.func75
def c78_1 : XC := fun _ => .region [] [xo 2 (.mv (.const (.slice none 0 0)))] [0]
def c78_2 : XC := fun _ => .region [] [xo 4 (.mv (xt 0)),
 xo 5 (.call 120 [(xt 4)]),
 xo 3 (.mv (xt 5))] [3]
def c78_3 : XC := fun _ => .region [] [xo 6 (.mv (xt 3)),
 xo 7 (.callm 121 [(xt 6)])] [3]
def c78_4 : XC := fun _ => .region [] [xo 8 (.mv (xt 3)),
 xo 9 (.callm 122 [(xt 8)]),
 xo 2 (.mv (xt 9))] [2]
def c78_5 : XC := fun _ => .seq c78_4 (fun _ => .ret)
def c78_6 : XC := fun _ => .seq c78_3 c78_5
def c78_7 : XC := fun _ => .seq c78_2 c78_6
def c78_8 : XC := fun _ => .seq c78_1 c78_7
def m_impl_ascending : MCode := c78_8 ()
def h_impl_ascending : Hints := [(0, [0], [], [], []), (1, [3], [], [], []), (2, [3], [], [], []), (3, [2], [], [], [])]
def r_impl_ascending : List RV := [.t 2]
abbrev n_impl_ascending : Nat := 78
theorem k_impl_ascending : Known Pr mu n_impl_ascending m_impl_ascending r_impl_ascending Go.Proofs.Try.f78.ntmps := .of h_impl_ascending hm Go.Proofs.Try.func78
def c79_1 : XC := fun _ => .region [] [xo 2 (.box (xt 0)),
 xo 4 (.mv (xi 0))] [1,2]
def c79_2 : XC := fun _ => .region [] [xo 5 (.fa (xt 2) 2),
 xo 6 (.ld (xt 5) 4 true),
 xo 7 (.mv (xt 1)),
 xo 8 (.call 88 [(xt 6), (xt 7)]),
 xo 1 (.mv (xt 8))] [1]
def c79_3 : XC := fun _ => .region [] [xo 9 (.mv (xt 1)),
 xo 10 (.bin .lss (xt 9) (xi 0))] [1,10]
def c79_4 : XC := fun _ => .region [] [xo 4 (.mv (xi (-1)))] [4]
def c79_5 : XC := fun _ => .seq c79_4 (fun _ => .ret)
def c79_6 : XC := fun _ => .cond (xt 10) c79_5 (fun _ => .skip)
def c79_7 : XC := fun _ => .seq c79_3 c79_6
def c79_8 : XC := fun _ => .region [] [xo 11 (.mv (xt 1)),
 xo 4 (.mv (xt 11))] [4]
def c79_9 : XC := fun _ => .seq c79_8 (fun _ => .ret)
def c79_10 : XC := fun _ => .seq c79_7 c79_9
def c79_11 : XC := fun _ => .seq c79_2 c79_10
def c79_12 : XC := fun _ => .seq c79_1 c79_11
def m_laws_szAcceptor : MCode := c79_12 ()
def h_laws_szAcceptor : Hints := [(0, [1,2], [], [], []), (1, [1], [], [], []), (2, [1,10], [], [], []), (3, [4], [], [], []), (4, [4], [], [], [])]
def r_laws_szAcceptor : List RV := [.t 4]
abbrev n_laws_szAcceptor : Nat := 79
theorem k_laws_szAcceptor : Known Pr mu n_laws_szAcceptor m_laws_szAcceptor r_laws_szAcceptor Go.Proofs.Try.f79.ntmps := .of h_laws_szAcceptor hm Go.Proofs.Try.func79
def c80_1 : XC := fun _ => .region [] [xo 2 (.mv (xb false))] [0]
def c80_2 : XC := fun _ => .region [] [xo 3 (.mv (xi 0))] [0,3]
def c80_3 : XC := fun _ => .region [] [xo 4 (.mv (xt 3)),
 xo 5 (.mv (xt 0)),
 xo 6 (.len false (xt 5)),
 xo 7 (.bin .lss (xt 4) (xt 6))] [0,3,7]
def c80_4 : XC := fun _ => .cond (xt 7) (fun _ => .skip) (fun _ => .exit 0)
def c80_5 : XC := fun _ => .seq c80_3 c80_4
def c80_6 : XC := fun _ => .region [] [xo 10 (.mv (xt 0)),
 xo 11 (.mv (xt 3)),
 xo 12 (.ia (xt 10) (xt 11) 6),
 xo 13 (.ld (xt 12) 6 true),
 xo 14 (.call 123 [(xt 13)]),
 xo 15 (.not (xt 14))] [0,3,15]
def c80_7 : XC := fun _ => .region [] [xo 2 (.mv (xb false))] [2]
def c80_8 : XC := fun _ => .seq c80_7 (fun _ => .ret)
def c80_9 : XC := fun _ => .cond (xt 15) c80_8 (fun _ => .skip)
def c80_10 : XC := fun _ => .seq c80_6 c80_9
def c80_11 : XC := fun _ => .block 1 c80_10
def c80_12 : XC := fun _ => .region [] [xo 8 (.mv (xt 3)),
 xo 9 (.bin .add (xt 8) (xi 1)),
 xo 3 (.mv (xt 9))] [0,3]
def c80_13 : XC := fun _ => .seq c80_11 c80_12
def c80_14 : XC := fun _ => .seq c80_5 c80_13
def c80_15 : XC := fun _ => .loop c80_14
def c80_16 : XC := fun _ => .block 0 c80_15
def c80_17 : XC := fun _ => .seq c80_2 c80_16
def c80_18 : XC := fun _ => .region [] [xo 16 (.mv (xt 0)),
 xo 17 (.len false (xt 16)),
 xo 18 (.bin .eql (xt 17) (xi 3)),
 xo 2 (.mv (xt 18))] [2]
def c80_19 : XC := fun _ => .seq c80_18 (fun _ => .ret)
def c80_20 : XC := fun _ => .seq c80_17 c80_19
def c80_21 : XC := fun _ => .seq c80_1 c80_20
def m_spec_AreAcceptors : MCode := c80_21 ()
def h_spec_AreAcceptors : Hints := [(0, [0], [], [], []), (1, [0,3], [], [], []), (2, [0,3,7], [], [], []), (4, [0,3,15], [], [], []), (5, [2], [], [], []), (3, [0,3], [], [], []), (6, [2], [], [], [])]
def r_spec_AreAcceptors : List RV := [.t 2]
abbrev n_spec_AreAcceptors : Nat := 80
theorem k_spec_AreAcceptors : Known Pr mu n_spec_AreAcceptors m_spec_AreAcceptors r_spec_AreAcceptors Go.Proofs.Try.f80.ntmps := .of h_spec_AreAcceptors hm Go.Proofs.Try.func80
def c81_1 : XC := fun _ => .region [] [xo 2 (.box (xt 0)),
 xo 3 (.box (xt 1)),
 xo 4 (.mv (xb false))] [2,3]
def c81_2 : XC := fun _ => .region [] [xo 5 (.fa (xt 2) 0),
 xo 6 (.ld (xt 5) 1 false),
 xo 7 (.fa (xt 3) 0),
 xo 8 (.ld (xt 7) 1 false),
 xo 9 (.bin .eql (xt 6) (xt 8)),
 xo 10 (.mv (xt 9)),
 ⟨(some 11), .fa (xt 2) 1, (some (10, true)), []⟩,
 ⟨(some 12), .ld (xt 11) 1 false, (some (10, true)), []⟩,
 ⟨(some 13), .fa (xt 3) 1, (some (10, true)), []⟩,
 ⟨(some 14), .ld (xt 13) 1 false, (some (10, true)), []⟩,
 ⟨(some 15), .bin .eql (xt 12) (xt 14), (some (10, true)), []⟩,
 xo 16 (.pick (xt 10) (xt 15) (xb false)),
 xo 17 (.mv (xt 16)),
 ⟨(some 18), .fa (xt 2) 2, (some (17, true)), []⟩,
 ⟨(some 19), .ld (xt 18) 1 false, (some (17, true)), []⟩,
 ⟨(some 20), .fa (xt 3) 2, (some (17, true)), []⟩,
 ⟨(some 21), .ld (xt 20) 1 false, (some (17, true)), []⟩,
 ⟨(some 22), .call 124 [(xt 19), (xt 21)], (some (17, true)), []⟩,
 xo 23 (.pick (xt 17) (xt 22) (xb false)),
 xo 24 (.mv (xt 23)),
 ⟨(some 25), .fa (xt 2) 3, (some (24, true)), []⟩,
 ⟨(some 26), .ld (xt 25) 1 false, (some (24, true)), []⟩,
 ⟨(some 27), .fa (xt 3) 3, (some (24, true)), []⟩,
 ⟨(some 28), .ld (xt 27) 1 false, (some (24, true)), []⟩,
 ⟨(some 29), .call 124 [(xt 26), (xt 28)], (some (24, true)), []⟩,
 xo 30 (.pick (xt 24) (xt 29) (xb false)),
 xo 4 (.mv (xt 30))] [4]
def c81_3 : XC := fun _ => .seq c81_2 (fun _ => .ret)
def c81_4 : XC := fun _ => .seq c81_1 c81_3
def m_spec_EqualConfigs : MCode := c81_4 ()
def h_spec_EqualConfigs : Hints := [(0, [2,3], [], [], []), (1, [4], [], [], [])]
def r_spec_EqualConfigs : List RV := [.t 4]
abbrev n_spec_EqualConfigs : Nat := 81
theorem k_spec_EqualConfigs : Known Pr mu n_spec_EqualConfigs m_spec_EqualConfigs r_spec_EqualConfigs Go.Proofs.Try.f81.ntmps := .of h_spec_EqualConfigs hm Go.Proofs.Try.func81
def c82_1 : XC := fun _ => .region [] [xo 1 (.box (xt 0)),
 xo 2 (.alloc [.int .i64 0, .int .i64 0, .slice none 0 0, .slice none 0 0])] [1,2]
def c82_2 : XC := fun _ => .region [] [xo 3 (.fa (xt 1) 0),
 xo 4 (.ld (xt 3) 1 false),
 ⟨(some 5), .fa (xt 1) 1, none, [0, 1]⟩,
 ⟨(some 6), .ld (xt 5) 1 false, none, [0, 1]⟩,
 xo 7 (.bsl 1 0 [.int .i64 0] []),
 ⟨(some 8), .fa (xt 1) 2, none, [0, 1, 2, 3, 4]⟩,
 ⟨(some 9), .ld (xt 8) 1 false, none, [0, 1, 2, 3, 4]⟩,
 ⟨(some 10), .appn (xt 7) (xt 9) 1 8, none, [1000000, 0, 1, 2, 3]⟩,
 xo 11 (.bsl 1 0 [.int .i64 0] []),
 ⟨(some 12), .fa (xt 1) 3, none, [0, 1, 2, 3, 4, 5, 6, 7, 8]⟩,
 ⟨(some 13), .ld (xt 12) 1 false, none, [0, 1, 2, 3, 4, 5, 6, 7, 8]⟩,
 ⟨(some 14), .appn (xt 11) (xt 13) 1 8, none, [1000000, 0, 1, 2, 3]⟩,
 xo 15 (.bld [.int .i64 0, .int .i64 0, .slice none 0 0, .slice none 0 0] [(0, 1, (xt 4)), (1, 1, (xt 6)), (2, 1, (xt 10)), (3, 1, (xt 14))]),
 xn (.sto (xt 2) (xt 15) 4)] [2]
def c82_3 : XC := fun _ => .seq c82_2 (fun _ => .ret)
def c82_4 : XC := fun _ => .seq c82_1 c82_3
def m_spec_l8Copy : MCode := c82_4 ()
def h_spec_l8Copy : Hints := [(0, [1,2], [], [], []), (1, [2], [[],[],[0,1],[0,1],[],[0,1,2,3,4],[0,1,2,3,4],[1000000,0,1,2,3],[],[0,1,2,3,4,5,6,7,8],[0,1,2,3,4,5,6,7,8],[1000000,0,1,2,3]], [], [])]
def r_spec_l8Copy : List RV := [.c 2 4 true]
abbrev n_spec_l8Copy : Nat := 82
theorem k_spec_l8Copy : Known Pr mu n_spec_l8Copy m_spec_l8Copy r_spec_l8Copy Go.Proofs.Try.f82.ntmps := .of h_spec_l8Copy hm Go.Proofs.Try.func82
def c83_1 : XC := fun _ => .region [] [xo 1 (.box (xt 0)),
 xo 2 (.alloc [.int .i64 0, .int .i64 0, .int .i64 0, .int .i64 0, .slice none 0 0, .slice none 0 0])] [1,2]
def c83_2 : XC := fun _ => .region [] [xo 3 (.alloc [.int .i64 0, .int .i64 0, .int .i64 0, .int .i64 0, .slice none 0 0, .slice none 0 0])] [1,2,3]
def c83_3 : XC := fun _ => .region [] [xo 4 (.fa (xt 1) 0),
 xo 5 (.ld (xt 4) 1 false),
 xo 6 (.fa (xt 3) 0),
 xn (.sto (xt 6) (xt 5) 1)] [1,2,3]
def c83_4 : XC := fun _ => .region [] [xo 7 (.fa (xt 1) 1),
 xo 8 (.ld (xt 7) 1 false),
 xo 9 (.fa (xt 3) 1),
 xn (.sto (xt 9) (xt 8) 1)] [1,2,3]
def c83_5 : XC := fun _ => .region [] [xo 10 (.fa (xt 1) 2),
 xo 11 (.ld (xt 10) 4 true),
 xo 12 (.call 94 [(xt 11)]),
 xo 13 (.fa (xt 3) 2),
 xn (.sto (xt 13) (xt 12) 4)] [2,3]
def c83_6 : XC := fun _ => .region [] [xo 14 (.ld (xt 3) 6 true),
 xn (.sto (xt 2) (xt 14) 6)] [2]
def c83_7 : XC := fun _ => .seq c83_6 (fun _ => .ret)
def c83_8 : XC := fun _ => .seq c83_5 c83_7
def c83_9 : XC := fun _ => .seq c83_4 c83_8
def c83_10 : XC := fun _ => .seq c83_3 c83_9
def c83_11 : XC := fun _ => .seq c83_2 c83_10
def c83_12 : XC := fun _ => .seq c83_1 c83_11
def m_laws_toAcceptor : MCode := c83_12 ()
def h_laws_toAcceptor : Hints := [(0, [1,2], [], [], []), (1, [1,2,3], [], [], []), (2, [1,2,3], [], [], []), (3, [1,2,3], [], [], []), (4, [2,3], [], [], []), (5, [2], [], [], [])]
def r_laws_toAcceptor : List RV := [.c 2 6 true]
abbrev n_laws_toAcceptor : Nat := 83
theorem k_laws_toAcceptor : Known Pr mu n_laws_toAcceptor m_laws_toAcceptor r_laws_toAcceptor Go.Proofs.Try.f83.ntmps := .of h_laws_toAcceptor hm Go.Proofs.Try.func83
def c84_1 : XC := fun _ => .region [] [xo 2 (.mv (xb false))] [0]
def c84_2 : XC := fun _ => .region [] [xo 3 (.mv (xt 0)),
 xo 4 (.len false (xt 3)),
 xo 5 (.bin .eql (xt 4) (xi 3)),
 xo 6 (.mv (xt 5)),
 ⟨(some 7), .mv (xt 0), (some (6, true)), []⟩,
 ⟨(some 8), .call 125 [(xt 7), (.func 126)], (some (6, true)), []⟩,
 ⟨(some 9), .not (xt 8), (some (6, true)), []⟩,
 xo 10 (.pick (xt 6) (xt 9) (xb false)),
 xo 2 (.mv (xt 10))] [2]
def c84_3 : XC := fun _ => .seq c84_2 (fun _ => .ret)
def c84_4 : XC := fun _ => .seq c84_1 c84_3
def m_impl_AreAcceptors : MCode := c84_4 ()
def h_impl_AreAcceptors : Hints := [(0, [0], [], [], []), (1, [2], [], [], [])]
def r_impl_AreAcceptors : List RV := [.t 2]
abbrev n_impl_AreAcceptors : Nat := 84
theorem k_impl_AreAcceptors : Known Pr mu n_impl_AreAcceptors m_impl_AreAcceptors r_impl_AreAcceptors Go.Proofs.Try.f84.ntmps := .of h_impl_AreAcceptors hm Go.Proofs.Try.func84
def c85_1 : XC := fun _ => .region [] [xo 2 (.box (xt 0)),
 xo 3 (.box (xt 1)),
 xo 4 (.mv (xb false))] [2,3]
def c85_2 : XC := fun _ => .region [] [xo 5 (.fa (xt 2) 0),
 xo 6 (.ld (xt 5) 1 false),
 xo 7 (.fa (xt 3) 0),
 xo 8 (.ld (xt 7) 1 false),
 xo 9 (.bin .eql (xt 6) (xt 8)),
 xo 10 (.mv (xt 9)),
 ⟨(some 11), .fa (xt 2) 1, (some (10, true)), []⟩,
 ⟨(some 12), .ld (xt 11) 1 false, (some (10, true)), []⟩,
 ⟨(some 13), .fa (xt 3) 1, (some (10, true)), []⟩,
 ⟨(some 14), .ld (xt 13) 1 false, (some (10, true)), []⟩,
 ⟨(some 15), .bin .eql (xt 12) (xt 14), (some (10, true)), []⟩,
 xo 16 (.pick (xt 10) (xt 15) (xb false)),
 xo 17 (.mv (xt 16)),
 ⟨(some 18), .fa (xt 2) 2, (some (17, true)), []⟩,
 ⟨(some 19), .ld (xt 18) 1 false, (some (17, true)), []⟩,
 ⟨(some 20), .fa (xt 3) 2, (some (17, true)), []⟩,
 ⟨(some 21), .ld (xt 20) 1 false, (some (17, true)), []⟩,
 ⟨(some 22), .call 128 [(xt 19), (xt 21)], (some (17, true)), []⟩,
 xo 23 (.pick (xt 17) (xt 22) (xb false)),
 xo 24 (.mv (xt 23)),
 ⟨(some 25), .fa (xt 2) 3, (some (24, true)), []⟩,
 ⟨(some 26), .ld (xt 25) 1 false, (some (24, true)), []⟩,
 ⟨(some 27), .fa (xt 3) 3, (some (24, true)), []⟩,
 ⟨(some 28), .ld (xt 27) 1 false, (some (24, true)), []⟩,
 ⟨(some 29), .call 128 [(xt 26), (xt 28)], (some (24, true)), []⟩,
 xo 30 (.pick (xt 24) (xt 29) (xb false)),
 xo 4 (.mv (xt 30))] [4]
def c85_3 : XC := fun _ => .seq c85_2 (fun _ => .ret)
def c85_4 : XC := fun _ => .seq c85_1 c85_3
def m_impl_EqualConfigs : MCode := c85_4 ()
def h_impl_EqualConfigs : Hints := [(0, [2,3], [], [], []), (1, [4], [], [], [])]
def r_impl_EqualConfigs : List RV := [.t 4]
abbrev n_impl_EqualConfigs : Nat := 85
theorem k_impl_EqualConfigs : Known Pr mu n_impl_EqualConfigs m_impl_EqualConfigs r_impl_EqualConfigs Go.Proofs.Try.f85.ntmps := .of h_impl_EqualConfigs hm Go.Proofs.Try.func85
def c86_1 : XC := fun _ => .region [] [xo 1 (.box (xt 0)),
 xo 2 (.alloc [.int .i64 0, .int .i64 0, .slice none 0 0, .slice none 0 0])] [1,2]
def c86_2 : XC := fun _ => .region [] [xo 3 (.fa (xt 1) 0),
 xo 4 (.ld (xt 3) 1 false),
 ⟨(some 5), .fa (xt 1) 1, none, [0, 1]⟩,
 ⟨(some 6), .ld (xt 5) 1 false, none, [0, 1]⟩,
 xo 7 (.bsl 1 0 [.int .i64 0] []),
 ⟨(some 8), .fa (xt 1) 2, none, [0, 1, 2, 3, 4]⟩,
 ⟨(some 9), .ld (xt 8) 1 false, none, [0, 1, 2, 3, 4]⟩,
 ⟨(some 10), .appn (xt 7) (xt 9) 1 8, none, [1000000, 0, 1, 2, 3]⟩,
 xo 11 (.bsl 1 0 [.int .i64 0] []),
 ⟨(some 12), .fa (xt 1) 3, none, [0, 1, 2, 3, 4, 5, 6, 7, 8]⟩,
 ⟨(some 13), .ld (xt 12) 1 false, none, [0, 1, 2, 3, 4, 5, 6, 7, 8]⟩,
 ⟨(some 14), .appn (xt 11) (xt 13) 1 8, none, [1000000, 0, 1, 2, 3]⟩,
 xo 15 (.bld [.int .i64 0, .int .i64 0, .slice none 0 0, .slice none 0 0] [(0, 1, (xt 4)), (1, 1, (xt 6)), (2, 1, (xt 10)), (3, 1, (xt 14))]),
 xn (.sto (xt 2) (xt 15) 4)] [2]
def c86_3 : XC := fun _ => .seq c86_2 (fun _ => .ret)
def c86_4 : XC := fun _ => .seq c86_1 c86_3
def m_impl_configCopy : MCode := c86_4 ()
def h_impl_configCopy : Hints := [(0, [1,2], [], [], []), (1, [2], [[],[],[0,1],[0,1],[],[0,1,2,3,4],[0,1,2,3,4],[1000000,0,1,2,3],[],[0,1,2,3,4,5,6,7,8],[0,1,2,3,4,5,6,7,8],[1000000,0,1,2,3]], [], [])]
def r_impl_configCopy : List RV := [.c 2 4 true]
abbrev n_impl_configCopy : Nat := 86
theorem k_impl_configCopy : Known Pr mu n_impl_configCopy m_impl_configCopy r_impl_configCopy Go.Proofs.Try.f86.ntmps := .of h_impl_configCopy hm Go.Proofs.Try.func86
def c87_1 : XC := fun _ => .region [] [xo 2 (.box (xt 0)),
 xo 3 (.box (xt 1)),
 xo 4 (.mv (xb false))] [2,3]
def c87_2 : XC := fun _ => .region [] [xo 5 (.fa (xt 2) 0),
 xo 6 (.ld (xt 5) 1 false),
 xo 7 (.fa (xt 3) 0),
 xo 8 (.ld (xt 7) 1 false),
 xo 9 (.bin .neq (xt 6) (xt 8))] [2,3,9]
def c87_3 : XC := fun _ => .region [] [xo 4 (.mv (xb false))] [4]
def c87_4 : XC := fun _ => .seq c87_3 (fun _ => .ret)
def c87_5 : XC := fun _ => .cond (xt 9) c87_4 (fun _ => .skip)
def c87_6 : XC := fun _ => .seq c87_2 c87_5
def c87_7 : XC := fun _ => .region [] [xo 10 (.fa (xt 2) 1),
 xo 11 (.ld (xt 10) 1 false),
 xo 12 (.fa (xt 3) 1),
 xo 13 (.ld (xt 12) 1 false),
 xo 14 (.bin .neq (xt 11) (xt 13))] [2,3,14]
def c87_8 : XC := fun _ => .region [] [xo 4 (.mv (xb false))] [4]
def c87_9 : XC := fun _ => .seq c87_8 (fun _ => .ret)
def c87_10 : XC := fun _ => .cond (xt 14) c87_9 (fun _ => .skip)
def c87_11 : XC := fun _ => .seq c87_7 c87_10
def c87_12 : XC := fun _ => .region [] [xo 15 (.fa (xt 2) 2),
 xo 16 (.ld (xt 15) 4 true),
 xo 17 (.fa (xt 3) 2),
 xo 18 (.ld (xt 17) 4 true),
 xo 19 (.call 40 [(xt 16), (xt 18)]),
 xo 20 (.not (xt 19))] [20]
def c87_13 : XC := fun _ => .region [] [xo 4 (.mv (xb false))] [4]
def c87_14 : XC := fun _ => .seq c87_13 (fun _ => .ret)
def c87_15 : XC := fun _ => .cond (xt 20) c87_14 (fun _ => .skip)
def c87_16 : XC := fun _ => .seq c87_12 c87_15
def c87_17 : XC := fun _ => .region [] [xo 4 (.mv (xb true))] [4]
def c87_18 : XC := fun _ => .seq c87_17 (fun _ => .ret)
def c87_19 : XC := fun _ => .seq c87_16 c87_18
def c87_20 : XC := fun _ => .seq c87_11 c87_19
def c87_21 : XC := fun _ => .seq c87_6 c87_20
def c87_22 : XC := fun _ => .seq c87_1 c87_21
def m_laws_eqAcceptor : MCode := c87_22 ()
def h_laws_eqAcceptor : Hints := [(0, [2,3], [], [], []), (1, [2,3,9], [], [], []), (2, [4], [], [], []), (3, [2,3,14], [], [], []), (4, [4], [], [], []), (5, [20], [], [], []), (6, [4], [], [], []), (7, [4], [], [], [])]
def r_laws_eqAcceptor : List RV := [.t 4]
abbrev n_laws_eqAcceptor : Nat := 87
theorem k_laws_eqAcceptor : Known Pr mu n_laws_eqAcceptor m_laws_eqAcceptor r_laws_eqAcceptor Go.Proofs.Try.f87.ntmps := .of h_laws_eqAcceptor hm Go.Proofs.Try.func87
def c88_1 : XC := fun _ => .region [] [xo 2 (.box (xt 0)),
 xo 4 (.mv (xi 0))] [1,2]
def c88_2 : XC := fun _ => .region [] [xo 5 (.fa (xt 2) 2),
 xo 6 (.ld (xt 5) 1 false),
 xo 7 (.mv (xt 1)),
 xo 8 (.call 101 [(xt 6), (xt 7)]),
 xo 1 (.mv (xt 8))] [1,2]
def c88_3 : XC := fun _ => .region [] [xo 9 (.mv (xt 1)),
 xo 10 (.bin .lss (xt 9) (xi 0))] [1,2,10]
def c88_4 : XC := fun _ => .region [] [xo 4 (.mv (xi (-1)))] [4]
def c88_5 : XC := fun _ => .seq c88_4 (fun _ => .ret)
def c88_6 : XC := fun _ => .cond (xt 10) c88_5 (fun _ => .skip)
def c88_7 : XC := fun _ => .seq c88_3 c88_6
def c88_8 : XC := fun _ => .region [] [xo 11 (.fa (xt 2) 3),
 xo 12 (.ld (xt 11) 1 false),
 xo 13 (.mv (xt 1)),
 xo 14 (.call 101 [(xt 12), (xt 13)]),
 xo 1 (.mv (xt 14))] [1]
def c88_9 : XC := fun _ => .region [] [xo 15 (.mv (xt 1)),
 xo 16 (.bin .lss (xt 15) (xi 0))] [1,16]
def c88_10 : XC := fun _ => .region [] [xo 4 (.mv (xi (-1)))] [4]
def c88_11 : XC := fun _ => .seq c88_10 (fun _ => .ret)
def c88_12 : XC := fun _ => .cond (xt 16) c88_11 (fun _ => .skip)
def c88_13 : XC := fun _ => .seq c88_9 c88_12
def c88_14 : XC := fun _ => .region [] [xo 17 (.mv (xt 1)),
 xo 4 (.mv (xt 17))] [4]
def c88_15 : XC := fun _ => .seq c88_14 (fun _ => .ret)
def c88_16 : XC := fun _ => .seq c88_13 c88_15
def c88_17 : XC := fun _ => .seq c88_8 c88_16
def c88_18 : XC := fun _ => .seq c88_7 c88_17
def c88_19 : XC := fun _ => .seq c88_2 c88_18
def c88_20 : XC := fun _ => .seq c88_1 c88_19
def m_laws_szConfig : MCode := c88_20 ()
def h_laws_szConfig : Hints := [(0, [1,2], [], [], []), (1, [1,2], [], [], []), (2, [1,2,10], [], [], []), (3, [4], [], [], []), (4, [1], [], [], []), (5, [1,16], [], [], []), (6, [4], [], [], []), (7, [4], [], [], [])]
def r_laws_szConfig : List RV := [.t 4]
abbrev n_laws_szConfig : Nat := 88
theorem k_laws_szConfig : Known Pr mu n_laws_szConfig m_laws_szConfig r_laws_szConfig Go.Proofs.Try.f88.ntmps := .of h_laws_szConfig hm Go.Proofs.Try.func88
def c94_1 : XC := fun _ => .region [] [xo 1 (.box (xt 0)),
 xo 2 (.alloc [.int .i64 0, .int .i64 0, .slice none 0 0, .slice none 0 0])] [1,2]
def c94_2 : XC := fun _ => .region [] [xo 3 (.alloc [.int .i64 0, .int .i64 0, .slice none 0 0, .slice none 0 0])] [1,2,3]
def c94_3 : XC := fun _ => .region [] [xo 4 (.fa (xt 1) 0),
 xo 5 (.ld (xt 4) 1 false),
 xo 6 (.fa (xt 3) 0),
 xn (.sto (xt 6) (xt 5) 1)] [1,2,3]
def c94_4 : XC := fun _ => .region [] [xo 7 (.fa (xt 1) 1),
 xo 8 (.ld (xt 7) 1 false),
 xo 9 (.fa (xt 3) 1),
 xn (.sto (xt 9) (xt 8) 1)] [1,2,3]
def c94_5 : XC := fun _ => .region [] [xo 10 (.fa (xt 1) 2),
 xo 11 (.ld (xt 10) 1 false),
 xo 12 (.call 12 [(xt 11)]),
 xo 13 (.fa (xt 3) 2),
 xn (.sto (xt 13) (xt 12) 1)] [1,2,3]
def c94_6 : XC := fun _ => .region [] [xo 14 (.fa (xt 1) 3),
 xo 15 (.ld (xt 14) 1 false),
 xo 16 (.call 12 [(xt 15)]),
 xo 17 (.fa (xt 3) 3),
 xn (.sto (xt 17) (xt 16) 1)] [2,3]
def c94_7 : XC := fun _ => .region [] [xo 18 (.ld (xt 3) 4 true),
 xn (.sto (xt 2) (xt 18) 4)] [2]
def c94_8 : XC := fun _ => .seq c94_7 (fun _ => .ret)
def c94_9 : XC := fun _ => .seq c94_6 c94_8
def c94_10 : XC := fun _ => .seq c94_5 c94_9
def c94_11 : XC := fun _ => .seq c94_4 c94_10
def c94_12 : XC := fun _ => .seq c94_3 c94_11
def c94_13 : XC := fun _ => .seq c94_2 c94_12
def c94_14 : XC := fun _ => .seq c94_1 c94_13
def m_laws_toConfig : MCode := c94_14 ()
def h_laws_toConfig : Hints := [(0, [1,2], [], [], []), (1, [1,2,3], [], [], []), (2, [1,2,3], [], [], []), (3, [1,2,3], [], [], []), (4, [1,2,3], [], [], []), (5, [2,3], [], [], []), (6, [2], [], [], [])]
def r_laws_toConfig : List RV := [.c 2 4 true]
abbrev n_laws_toConfig : Nat := 94
theorem k_laws_toConfig : Known Pr mu n_laws_toConfig m_laws_toConfig r_laws_toConfig Go.Proofs.Try.f94.ntmps := .of h_laws_toConfig hm Go.Proofs.Try.func94
def c101_1 : XC := fun _ => .region [] [xo 4 (.mv (xi 0))] [0,1]
def c101_2 : XC := fun _ => .region [] [xo 5 (.mv (xt 1)),
 xo 6 (.mv (xt 0)),
 xo 7 (.len false (xt 6)),
 xo 8 (.bin .sub (xt 5) (xt 7)),
 xo 1 (.mv (xt 8))] [1]
def c101_3 : XC := fun _ => .region [] [xo 9 (.mv (xt 1)),
 xo 10 (.bin .lss (xt 9) (xi 0))] [1,10]
def c101_4 : XC := fun _ => .region [] [xo 4 (.mv (xi (-1)))] [4]
def c101_5 : XC := fun _ => .seq c101_4 (fun _ => .ret)
def c101_6 : XC := fun _ => .cond (xt 10) c101_5 (fun _ => .skip)
def c101_7 : XC := fun _ => .seq c101_3 c101_6
def c101_8 : XC := fun _ => .region [] [xo 11 (.mv (xt 1)),
 xo 4 (.mv (xt 11))] [4]
def c101_9 : XC := fun _ => .seq c101_8 (fun _ => .ret)
def c101_10 : XC := fun _ => .seq c101_7 c101_9
def c101_11 : XC := fun _ => .seq c101_2 c101_10
def c101_12 : XC := fun _ => .seq c101_1 c101_11
def m_laws_szIntS : MCode := c101_12 ()
def h_laws_szIntS : Hints := [(0, [0,1], [], [], []), (1, [1], [], [], []), (2, [1,10], [], [], []), (3, [4], [], [], []), (4, [4], [], [], [])]
def r_laws_szIntS : List RV := [.t 4]
abbrev n_laws_szIntS : Nat := 101
theorem k_laws_szIntS : Known Pr mu n_laws_szIntS m_laws_szIntS r_laws_szIntS Go.Proofs.Try.f101.ntmps := .of h_laws_szIntS hm Go.Proofs.Try.func101
def c102_1 : XC := fun _ => .region [] [xo 2 (.mv (.const (.slice none 0 0)))] [0]
def c102_2 : XC := fun _ => .region [] [xo 6 (.bsl 6 0 [.int .i64 0, .int .i64 0, .int .i64 0, .int .i64 0, .slice none 0 0, .slice none 0 0] []),
 xo 3 (.mv (xt 6))] [0,3]
def c102_3 : XC := fun _ => .region [] [xo 4 (.mv (xi 0))] [0,3,4]
def c102_4 : XC := fun _ => .region [] [xo 7 (.mv (xt 4)),
 xo 8 (.mv (xt 0)),
 xo 9 (.len false (xt 8)),
 xo 10 (.bin .lss (xt 7) (xt 9))] [0,3,4,10]
def c102_5 : XC := fun _ => .cond (xt 10) (fun _ => .skip) (fun _ => .exit 0)
def c102_6 : XC := fun _ => .seq c102_4 c102_5
def c102_7 : XC := fun _ => .region [] [xo 13 (.mv (xt 0)),
 xo 14 (.mv (xt 4)),
 xo 15 (.ia (xt 13) (xt 14) 6),
 xo 16 (.ld (xt 15) 6 true),
 xo 17 (.call 133 [(xt 16)]),
 xo 5 (.alloc [.int .i64 0, .int .i64 0, .int .i64 0, .int .i64 0, .slice none 0 0, .slice none 0 0]),
 xn (.sto (xt 5) (xt 17) 6)] [0,3,4,5]
def c102_8 : XC := fun _ => .region [] [xo 18 (.mv (xt 3)),
 xo 19 (.ld (xt 5) 6 true),
 xo 20 (.bsl 6 1 [.int .i64 0, .int .i64 0, .int .i64 0, .int .i64 0, .slice none 0 0, .slice none 0 0] [(0, (xt 19))]),
 xo 21 (.app (xt 18) (xt 20) 6 80),
 xo 3 (.mv (xt 21))] [0,3,4]
def c102_9 : XC := fun _ => .seq c102_7 c102_8
def c102_10 : XC := fun _ => .block 1 c102_9
def c102_11 : XC := fun _ => .region [] [xo 11 (.mv (xt 4)),
 xo 12 (.bin .add (xt 11) (xi 1)),
 xo 4 (.mv (xt 12))] [0,3,4]
def c102_12 : XC := fun _ => .seq c102_10 c102_11
def c102_13 : XC := fun _ => .seq c102_6 c102_12
def c102_14 : XC := fun _ => .loop c102_13
def c102_15 : XC := fun _ => .block 0 c102_14
def c102_16 : XC := fun _ => .seq c102_3 c102_15
def c102_17 : XC := fun _ => .region [] [xo 22 (.mv (xt 3)),
 xo 2 (.mv (xt 22))] [2]
def c102_18 : XC := fun _ => .seq c102_17 (fun _ => .ret)
def c102_19 : XC := fun _ => .seq c102_16 c102_18
def c102_20 : XC := fun _ => .seq c102_2 c102_19
def c102_21 : XC := fun _ => .seq c102_1 c102_20
def m_spec_l11Copy : MCode := c102_21 ()
def h_spec_l11Copy : Hints := [(0, [0], [], [], []), (1, [0,3], [], [], []), (2, [0,3,4], [], [], []), (3, [0,3,4,10], [], [], []), (5, [0,3,4,5], [], [], []), (6, [0,3,4], [], [], []), (4, [0,3,4], [], [], []), (7, [2], [], [], [])]
def r_spec_l11Copy : List RV := [.t 2]
abbrev n_spec_l11Copy : Nat := 102
theorem k_spec_l11Copy : Known Pr mu n_spec_l11Copy m_spec_l11Copy r_spec_l11Copy Go.Proofs.Try.f102.ntmps := .of h_spec_l11Copy hm Go.Proofs.Try.func102
def c103_1 : XC := fun _ => .region [] [xo 1 (.box (xt 0)),
 xo 2 (.mv (xb false))] [1]
def c103_2 : XC := fun _ => .region [] [xo 3 (.fa (xt 1) 0),
 xo 4 (.ld (xt 3) 1 false),
 xo 5 (.call 59 [(xt 4), (xi 1), (xi 20)]),
 xo 6 (.mv (xt 5)),
 ⟨(some 7), .fa (xt 1) 2, (some (6, true)), []⟩,
 ⟨(some 8), .ld (xt 7) 1 false, (some (6, true)), []⟩,
 ⟨(some 9), .call 23 [(xt 8)], (some (6, true)), []⟩,
 xo 10 (.pick (xt 6) (xt 9) (xb false)),
 xo 11 (.mv (xt 10)),
 ⟨(some 12), .fa (xt 1) 3, (some (11, true)), []⟩,
 ⟨(some 13), .ld (xt 12) 1 false, (some (11, true)), []⟩,
 ⟨(some 14), .call 23 [(xt 13)], (some (11, true)), []⟩,
 xo 15 (.pick (xt 11) (xt 14) (xb false)),
 xo 16 (.mv (xt 15)),
 ⟨(some 17), .fa (xt 1) 2, (some (16, true)), []⟩,
 ⟨(some 18), .ld (xt 17) 1 false, (some (16, true)), []⟩,
 ⟨(some 19), .fa (xt 1) 1, (some (16, true)), []⟩,
 ⟨(some 20), .ld (xt 19) 1 false, (some (16, true)), []⟩,
 ⟨(some 21), .call 28 [(xt 18), (xt 20)], (some (16, true)), []⟩,
 xo 22 (.pick (xt 16) (xt 21) (xb false)),
 xo 23 (.mv (xt 22)),
 ⟨(some 24), .fa (xt 1) 2, (some (23, true)), []⟩,
 ⟨(some 25), .ld (xt 24) 1 false, (some (23, true)), []⟩,
 ⟨(some 26), .fa (xt 1) 3, (some (23, true)), []⟩,
 ⟨(some 27), .ld (xt 26) 1 false, (some (23, true)), []⟩,
 ⟨(some 28), .call 24 [(xt 25), (xt 27)], (some (23, true)), []⟩,
 ⟨(some 29), .len false (xt 28), (some (23, true)), []⟩,
 ⟨(some 30), .bin .eql (xt 29) (xi 0), (some (23, true)), []⟩,
 xo 31 (.pick (xt 23) (xt 30) (xb false)),
 xo 2 (.mv (xt 31))] [2]
def c103_3 : XC := fun _ => .seq c103_2 (fun _ => .ret)
def c103_4 : XC := fun _ => .seq c103_1 c103_3
def m_spec_IsValidConfig : MCode := c103_4 ()
def h_spec_IsValidConfig : Hints := [(0, [1], [], [], []), (1, [2], [], [], [])]
def r_spec_IsValidConfig : List RV := [.t 2]
abbrev n_spec_IsValidConfig : Nat := 103
theorem k_spec_IsValidConfig : Known Pr mu n_spec_IsValidConfig m_spec_IsValidConfig r_spec_IsValidConfig Go.Proofs.Try.f103.ntmps := .of h_spec_IsValidConfig hm Go.Proofs.Try.func103
def c104_1 : XC := fun _ => .region [] [xo 2 (.box (xt 0)),
 xo 4 (.alloc [.int .i64 0, .int .i64 0, .int .i64 0, .int .i64 0, .slice none 0 0, .slice none 0 0]),
 xo 5 (.mv (xb false))] [1,2,4]
def c104_2 : XC := fun _ => .region [] [xo 7 (.ld (xt 2) 6 true),
 xo 8 (.call 133 [(xt 7)]),
 xo 6 (.alloc [.int .i64 0, .int .i64 0, .int .i64 0, .int .i64 0, .slice none 0 0, .slice none 0 0]),
 xn (.sto (xt 6) (xt 8) 6)] [1,2,4,6]
def c104_3 : XC := fun _ => .region [] [xo 9 (.ld (xt 2) 6 true),
 xo 10 (.call 123 [(xt 9)]),
 xo 11 (.not (xt 10)),
 xo 12 (.mv (xt 11)),
 ⟨(some 13), .mv (xt 1), (some (12, false)), []⟩,
 ⟨(some 14), .call 59 [(xt 13), (xi 1), (xi 99)], (some (12, false)), []⟩,
 ⟨(some 15), .not (xt 14), (some (12, false)), []⟩,
 xo 16 (.pick (xt 12) (xb true) (xt 15)),
 xo 17 (.mv (xt 16)),
 ⟨(some 18), .mv (xt 1), (some (17, false)), []⟩,
 ⟨(some 19), .fa (xt 2) 0, (some (17, false)), []⟩,
 ⟨(some 20), .ld (xt 19) 1 false, (some (17, false)), []⟩,
 ⟨(some 21), .bin .leq (xt 18) (xt 20), (some (17, false)), []⟩,
 xo 22 (.pick (xt 17) (xb true) (xt 21))] [1,4,6,22]
def c104_4 : XC := fun _ => .region [] [xo 23 (.ld (xt 6) 6 true),
 xn (.sto (xt 4) (xt 23) 6),
 xo 5 (.mv (xb false))] [4,5]
def c104_5 : XC := fun _ => .seq c104_4 (fun _ => .ret)
def c104_6 : XC := fun _ => .cond (xt 22) c104_5 (fun _ => .skip)
def c104_7 : XC := fun _ => .seq c104_3 c104_6
def c104_8 : XC := fun _ => .region [] [xo 24 (.mv (xt 1)),
 xo 25 (.fa (xt 6) 0),
 xn (.sto (xt 25) (xt 24) 1)] [4,6]
def c104_9 : XC := fun _ => .region [] [xo 26 (.ld (xt 6) 6 true),
 xn (.sto (xt 4) (xt 26) 6),
 xo 5 (.mv (xb true))] [4,5]
def c104_10 : XC := fun _ => .seq c104_9 (fun _ => .ret)
def c104_11 : XC := fun _ => .seq c104_8 c104_10
def c104_12 : XC := fun _ => .seq c104_7 c104_11
def c104_13 : XC := fun _ => .seq c104_2 c104_12
def c104_14 : XC := fun _ => .seq c104_1 c104_13
def m_spec_Prepare : MCode := c104_14 ()
def h_spec_Prepare : Hints := [(0, [1,2,4], [], [], []), (1, [1,2,4,6], [], [], []), (2, [1,4,6,22], [], [], []), (3, [4,5], [], [], []), (4, [4,6], [], [], []), (5, [4,5], [], [], [])]
def r_spec_Prepare : List RV := [.c 4 6 true, .t 5]
abbrev n_spec_Prepare : Nat := 104
theorem k_spec_Prepare : Known Pr mu n_spec_Prepare m_spec_Prepare r_spec_Prepare Go.Proofs.Try.f104.ntmps := .of h_spec_Prepare hm Go.Proofs.Try.func104
def c105_1 : XC := fun _ => .region [] [xo 3 (.box (xt 0)),
 xo 5 (.box (xt 2)),
 xo 6 (.alloc [.int .i64 0, .int .i64 0, .int .i64 0, .int .i64 0, .slice none 0 0, .slice none 0 0]),
 xo 7 (.mv (xb false))] [1,3,5,6]
def c105_2 : XC := fun _ => .region [] [xo 8 (.ld (xt 3) 6 true),
 xo 9 (.call 123 [(xt 8)]),
 xo 10 (.not (xt 9)),
 xo 11 (.mv (xt 10)),
 ⟨(some 12), .mv (xt 1), (some (11, false)), []⟩,
 ⟨(some 13), .call 59 [(xt 12), (xi 1), (xi 99)], (some (11, false)), []⟩,
 ⟨(some 14), .not (xt 13), (some (11, false)), []⟩,
 xo 15 (.pick (xt 11) (xb true) (xt 14)),
 xo 16 (.mv (xt 15)),
 ⟨(some 17), .ld (xt 5) 4 true, (some (16, false)), []⟩,
 ⟨(some 18), .call 103 [(xt 17)], (some (16, false)), []⟩,
 ⟨(some 19), .not (xt 18), (some (16, false)), []⟩,
 xo 20 (.pick (xt 16) (xb true) (xt 19)),
 xo 21 (.mv (xt 20)),
 ⟨(some 22), .mv (xt 1), (some (21, false)), []⟩,
 ⟨(some 23), .fa (xt 3) 0, (some (21, false)), []⟩,
 ⟨(some 24), .ld (xt 23) 1 false, (some (21, false)), []⟩,
 ⟨(some 25), .bin .lss (xt 22) (xt 24), (some (21, false)), []⟩,
 xo 26 (.pick (xt 21) (xb true) (xt 25))] [1,3,5,6,26]
def c105_3 : XC := fun _ => .region [] [xo 27 (.ld (xt 3) 6 true),
 xo 28 (.call 133 [(xt 27)]),
 xn (.sto (xt 6) (xt 28) 6),
 xo 7 (.mv (xb false))] [6,7]
def c105_4 : XC := fun _ => .seq c105_3 (fun _ => .ret)
def c105_5 : XC := fun _ => .cond (xt 26) c105_4 (fun _ => .skip)
def c105_6 : XC := fun _ => .seq c105_2 c105_5
def c105_7 : XC := fun _ => .region [] [xo 29 (.mv (xt 1)),
 xo 30 (.mv (xt 1)),
 xo 31 (.ld (xt 5) 4 true),
 xo 32 (.call 82 [(xt 31)]),
 xo 33 (.bld [.int .i64 0, .int .i64 0, .int .i64 0, .int .i64 0, .slice none 0 0, .slice none 0 0] [(0, 1, (xt 29)), (1, 1, (xt 30)), (2, 4, (xt 32))]),
 xn (.sto (xt 6) (xt 33) 6),
 xo 7 (.mv (xb true))] [6,7]
def c105_8 : XC := fun _ => .seq c105_7 (fun _ => .ret)
def c105_9 : XC := fun _ => .seq c105_6 c105_8
def c105_10 : XC := fun _ => .seq c105_1 c105_9
def m_spec_Accept : MCode := c105_10 ()
def h_spec_Accept : Hints := [(0, [1,3,5,6], [], [], []), (1, [1,3,5,6,26], [], [], []), (2, [6,7], [], [], []), (3, [6,7], [], [], [])]
def r_spec_Accept : List RV := [.c 6 6 true, .t 7]
abbrev n_spec_Accept : Nat := 105
theorem k_spec_Accept : Known Pr mu n_spec_Accept m_spec_Accept r_spec_Accept Go.Proofs.Try.f105.ntmps := .of h_spec_Accept hm Go.Proofs.Try.func105
def c106_1 : XC := fun _ => .region [] [xo 2 (.mv (.const (.slice none 0 0)))] [0]
def c106_2 : XC := fun _ => .region [] [xo 6 (.bsl 6 0 [.int .i64 0, .int .i64 0, .int .i64 0, .int .i64 0, .slice none 0 0, .slice none 0 0] []),
 xo 3 (.mv (xt 6))] [0,3]
def c106_3 : XC := fun _ => .region [] [xo 7 (.mv (xt 0)),
 xo 8 (.len false (xt 7)),
 xo 9 (.mv (xi 0))] [3,7,8,9]
def c106_4 : XC := fun _ => .region [] [xo 10 (.bin .lss (xt 9) (xt 8))] [3,7,8,9,10]
def c106_5 : XC := fun _ => .cond (xt 10) (fun _ => .skip) (fun _ => .exit 0)
def c106_6 : XC := fun _ => .region [] [xo 11 (.ia (xt 7) (xt 9) 6),
 xo 12 (.ld (xt 11) 6 true),
 xo 5 (.alloc [.int .i64 0, .int .i64 0, .int .i64 0, .int .i64 0, .slice none 0 0, .slice none 0 0]),
 xn (.sto (xt 5) (xt 12) 6)] [3,5,7,8,9]
def c106_7 : XC := fun _ => .region [] [xo 13 (.mv (xt 3)),
 xo 14 (.ld (xt 5) 6 true),
 xo 15 (.call 134 [(xt 14)]),
 xo 16 (.bsl 6 1 [.int .i64 0, .int .i64 0, .int .i64 0, .int .i64 0, .slice none 0 0, .slice none 0 0] [(0, (xt 15))]),
 xo 17 (.app (xt 13) (xt 16) 6 80),
 xo 3 (.mv (xt 17))] [3,7,8,9]
def c106_8 : XC := fun _ => .seq c106_6 c106_7
def c106_9 : XC := fun _ => .block 1 c106_8
def c106_10 : XC := fun _ => .region [] [xo 18 (.bin .add (xt 9) (xi 1)),
 xo 9 (.mv (xt 18))] [3,7,8,9]
def c106_11 : XC := fun _ => .seq c106_9 c106_10
def c106_12 : XC := fun _ => .seq c106_5 c106_11
def c106_13 : XC := fun _ => .seq c106_4 c106_12
def c106_14 : XC := fun _ => .loop c106_13
def c106_15 : XC := fun _ => .block 0 c106_14
def c106_16 : XC := fun _ => .seq c106_3 c106_15
def c106_17 : XC := fun _ => .region [] [xo 19 (.mv (xt 3)),
 xo 2 (.mv (xt 19))] [2]
def c106_18 : XC := fun _ => .seq c106_17 (fun _ => .ret)
def c106_19 : XC := fun _ => .seq c106_16 c106_18
def c106_20 : XC := fun _ => .seq c106_2 c106_19
def c106_21 : XC := fun _ => .seq c106_1 c106_20
def m_impl_acceptorsCopy : MCode := c106_21 ()
def h_impl_acceptorsCopy : Hints := [(0, [0], [], [], []), (1, [0,3], [], [], []), (2, [3,7,8,9], [], [], []), (3, [3,7,8,9,10], [], [], []), (4, [3,5,7,8,9], [], [], []), (5, [3,7,8,9], [], [], []), (6, [3,7,8,9], [], [], []), (7, [2], [], [], [])]
def r_impl_acceptorsCopy : List RV := [.t 2]
abbrev n_impl_acceptorsCopy : Nat := 106
theorem k_impl_acceptorsCopy : Known Pr mu n_impl_acceptorsCopy m_impl_acceptorsCopy r_impl_acceptorsCopy Go.Proofs.Try.f106.ntmps := .of h_impl_acceptorsCopy hm Go.Proofs.Try.func106
def c107_1 : XC := fun _ => .region [] [xo 1 (.box (xt 0)),
 xo 2 (.mv (xb false))] [1]
def c107_2 : XC := fun _ => .region [] [xo 3 (.fa (xt 1) 0),
 xo 4 (.ld (xt 3) 1 false),
 xo 5 (.call 64 [(xt 4), (xi 1), (xi 20)]),
 xo 6 (.mv (xt 5)),
 ⟨(some 7), .fa (xt 1) 2, (some (6, true)), []⟩,
 ⟨(some 8), .ld (xt 7) 1 false, (some (6, true)), []⟩,
 ⟨(some 9), .call 63 [(xt 8)], (some (6, true)), []⟩,
 xo 10 (.pick (xt 6) (xt 9) (xb false)),
 xo 11 (.mv (xt 10)),
 ⟨(some 12), .fa (xt 1) 3, (some (11, true)), []⟩,
 ⟨(some 13), .ld (xt 12) 1 false, (some (11, true)), []⟩,
 ⟨(some 14), .call 63 [(xt 13)], (some (11, true)), []⟩,
 xo 15 (.pick (xt 11) (xt 14) (xb false)),
 xo 16 (.mv (xt 15)),
 ⟨(some 17), .fa (xt 1) 2, (some (16, true)), []⟩,
 ⟨(some 18), .ld (xt 17) 1 false, (some (16, true)), []⟩,
 ⟨(some 19), .fa (xt 1) 1, (some (16, true)), []⟩,
 ⟨(some 20), .ld (xt 19) 1 false, (some (16, true)), []⟩,
 ⟨(some 21), .call 75 [(xt 18), (xt 20)], (some (16, true)), []⟩,
 xo 22 (.pick (xt 16) (xt 21) (xb false)),
 xo 23 (.mv (xt 22)),
 ⟨(some 24), .fa (xt 1) 2, (some (23, true)), []⟩,
 ⟨(some 25), .ld (xt 24) 1 false, (some (23, true)), []⟩,
 ⟨(some 26), .fa (xt 1) 3, (some (23, true)), []⟩,
 ⟨(some 27), .ld (xt 26) 1 false, (some (23, true)), []⟩,
 ⟨(some 28), .call 65 [(xt 25), (xt 27)], (some (23, true)), []⟩,
 ⟨(some 29), .len false (xt 28), (some (23, true)), []⟩,
 ⟨(some 30), .bin .eql (xt 29) (xi 0), (some (23, true)), []⟩,
 xo 31 (.pick (xt 23) (xt 30) (xb false)),
 xo 2 (.mv (xt 31))] [2]
def c107_3 : XC := fun _ => .seq c107_2 (fun _ => .ret)
def c107_4 : XC := fun _ => .seq c107_1 c107_3
def m_impl_IsValidConfig : MCode := c107_4 ()
def h_impl_IsValidConfig : Hints := [(0, [1], [], [], []), (1, [2], [], [], [])]
def r_impl_IsValidConfig : List RV := [.t 2]
abbrev n_impl_IsValidConfig : Nat := 107
theorem k_impl_IsValidConfig : Known Pr mu n_impl_IsValidConfig m_impl_IsValidConfig r_impl_IsValidConfig Go.Proofs.Try.f107.ntmps := .of h_impl_IsValidConfig hm Go.Proofs.Try.func107
def c108_1 : XC := fun _ => .region [] [xo 2 (.box (xt 0)),
 xo 4 (.alloc [.int .i64 0, .int .i64 0, .int .i64 0, .int .i64 0, .slice none 0 0, .slice none 0 0]),
 xo 5 (.mv (xb false))] [1,2,4]
def c108_2 : XC := fun _ => .region [] [xo 7 (.ld (xt 2) 6 true),
 xo 8 (.call 134 [(xt 7)]),
 xo 6 (.alloc [.int .i64 0, .int .i64 0, .int .i64 0, .int .i64 0, .slice none 0 0, .slice none 0 0]),
 xn (.sto (xt 6) (xt 8) 6)] [1,2,4,6]
def c108_3 : XC := fun _ => .region [] [xo 9 (.ld (xt 2) 6 true),
 xo 10 (.call 127 [(xt 9)]),
 xo 11 (.not (xt 10)),
 xo 12 (.mv (xt 11)),
 ⟨(some 13), .mv (xt 1), (some (12, false)), []⟩,
 ⟨(some 14), .call 64 [(xt 13), (xi 1), (xi 99)], (some (12, false)), []⟩,
 ⟨(some 15), .not (xt 14), (some (12, false)), []⟩,
 xo 16 (.pick (xt 12) (xb true) (xt 15)),
 xo 17 (.mv (xt 16)),
 ⟨(some 18), .mv (xt 1), (some (17, false)), []⟩,
 ⟨(some 19), .fa (xt 2) 0, (some (17, false)), []⟩,
 ⟨(some 20), .ld (xt 19) 1 false, (some (17, false)), []⟩,
 ⟨(some 21), .bin .leq (xt 18) (xt 20), (some (17, false)), []⟩,
 xo 22 (.pick (xt 17) (xb true) (xt 21))] [1,4,6,22]
def c108_4 : XC := fun _ => .region [] [xo 23 (.ld (xt 6) 6 true),
 xn (.sto (xt 4) (xt 23) 6),
 xo 5 (.mv (xb false))] [4,5]
def c108_5 : XC := fun _ => .seq c108_4 (fun _ => .ret)
def c108_6 : XC := fun _ => .cond (xt 22) c108_5 (fun _ => .skip)
def c108_7 : XC := fun _ => .seq c108_3 c108_6
def c108_8 : XC := fun _ => .region [] [xo 24 (.mv (xt 1)),
 xo 25 (.fa (xt 6) 0),
 xn (.sto (xt 25) (xt 24) 1)] [4,6]
def c108_9 : XC := fun _ => .region [] [xo 26 (.ld (xt 6) 6 true),
 xn (.sto (xt 4) (xt 26) 6),
 xo 5 (.mv (xb true))] [4,5]
def c108_10 : XC := fun _ => .seq c108_9 (fun _ => .ret)
def c108_11 : XC := fun _ => .seq c108_8 c108_10
def c108_12 : XC := fun _ => .seq c108_7 c108_11
def c108_13 : XC := fun _ => .seq c108_2 c108_12
def c108_14 : XC := fun _ => .seq c108_1 c108_13
def m_impl_Prepare : MCode := c108_14 ()
def h_impl_Prepare : Hints := [(0, [1,2,4], [], [], []), (1, [1,2,4,6], [], [], []), (2, [1,4,6,22], [], [], []), (3, [4,5], [], [], []), (4, [4,6], [], [], []), (5, [4,5], [], [], [])]
def r_impl_Prepare : List RV := [.c 4 6 true, .t 5]
abbrev n_impl_Prepare : Nat := 108
theorem k_impl_Prepare : Known Pr mu n_impl_Prepare m_impl_Prepare r_impl_Prepare Go.Proofs.Try.f108.ntmps := .of h_impl_Prepare hm Go.Proofs.Try.func108
def c109_1 : XC := fun _ => .region [] [xo 3 (.box (xt 0)),
 xo 5 (.box (xt 2)),
 xo 6 (.alloc [.int .i64 0, .int .i64 0, .int .i64 0, .int .i64 0, .slice none 0 0, .slice none 0 0]),
 xo 7 (.mv (xb false))] [1,3,5,6]
def c109_2 : XC := fun _ => .region [] [xo 8 (.ld (xt 3) 6 true),
 xo 9 (.call 127 [(xt 8)]),
 xo 10 (.not (xt 9)),
 xo 11 (.mv (xt 10)),
 ⟨(some 12), .ld (xt 5) 4 true, (some (11, false)), []⟩,
 ⟨(some 13), .call 107 [(xt 12)], (some (11, false)), []⟩,
 ⟨(some 14), .not (xt 13), (some (11, false)), []⟩,
 xo 15 (.pick (xt 11) (xb true) (xt 14)),
 xo 16 (.mv (xt 15)),
 ⟨(some 17), .mv (xt 1), (some (16, false)), []⟩,
 ⟨(some 18), .call 64 [(xt 17), (xi 1), (xi 99)], (some (16, false)), []⟩,
 ⟨(some 19), .not (xt 18), (some (16, false)), []⟩,
 xo 20 (.pick (xt 16) (xb true) (xt 19)),
 xo 21 (.mv (xt 20)),
 ⟨(some 22), .mv (xt 1), (some (21, false)), []⟩,
 ⟨(some 23), .fa (xt 3) 0, (some (21, false)), []⟩,
 ⟨(some 24), .ld (xt 23) 1 false, (some (21, false)), []⟩,
 ⟨(some 25), .bin .lss (xt 22) (xt 24), (some (21, false)), []⟩,
 xo 26 (.pick (xt 21) (xb true) (xt 25))] [1,3,5,6,26]
def c109_3 : XC := fun _ => .region [] [xo 27 (.ld (xt 3) 6 true),
 xo 28 (.call 134 [(xt 27)]),
 xn (.sto (xt 6) (xt 28) 6),
 xo 7 (.mv (xb false))] [6,7]
def c109_4 : XC := fun _ => .seq c109_3 (fun _ => .ret)
def c109_5 : XC := fun _ => .cond (xt 26) c109_4 (fun _ => .skip)
def c109_6 : XC := fun _ => .seq c109_2 c109_5
def c109_7 : XC := fun _ => .region [] [xo 29 (.mv (xt 1)),
 xo 30 (.mv (xt 1)),
 xo 31 (.ld (xt 5) 4 true),
 xo 32 (.call 86 [(xt 31)]),
 xo 33 (.bld [.int .i64 0, .int .i64 0, .int .i64 0, .int .i64 0, .slice none 0 0, .slice none 0 0] [(0, 1, (xt 29)), (1, 1, (xt 30)), (2, 4, (xt 32))]),
 xn (.sto (xt 6) (xt 33) 6),
 xo 7 (.mv (xb true))] [6,7]
def c109_8 : XC := fun _ => .seq c109_7 (fun _ => .ret)
def c109_9 : XC := fun _ => .seq c109_6 c109_8
def c109_10 : XC := fun _ => .seq c109_1 c109_9
def m_impl_Accept : MCode := c109_10 ()
def h_impl_Accept : Hints := [(0, [1,3,5,6], [], [], []), (1, [1,3,5,6,26], [], [], []), (2, [6,7], [], [], []), (3, [6,7], [], [], [])]
def r_impl_Accept : List RV := [.c 6 6 true, .t 7]
abbrev n_impl_Accept : Nat := 109
theorem k_impl_Accept : Known Pr mu n_impl_Accept m_impl_Accept r_impl_Accept Go.Proofs.Try.f109.ntmps := .of h_impl_Accept hm Go.Proofs.Try.func109
def c112_1 : XC := fun _ => .region [] [xo 4 (.mv (.const (.slice none 0 0)))] [0,1]
def c112_2 : XC := fun _ => .region [] [xo 8 (.mv (xt 0)),
 xo 9 (.mv (xt 1)),
 xo 10 (.call 136 [(xt 8), (xt 9)]),
 xo 5 (.mv (xt 10))] [0,1,5]
def c112_3 : XC := fun _ => .region [] [xo 11 (.mv (xt 5)),
 xo 12 (.bin .eql (xt 11) (xi (-1)))] [0,1,5,12]
def c112_4 : XC := fun _ => .region [] [xo 13 (.mv (xt 0)),
 xo 4 (.mv (xt 13))] [4]
def c112_5 : XC := fun _ => .seq c112_4 (fun _ => .ret)
def c112_6 : XC := fun _ => .cond (xt 12) c112_5 (fun _ => .skip)
def c112_7 : XC := fun _ => .seq c112_3 c112_6
def c112_8 : XC := fun _ => .region [] [xo 14 (.mv (xt 5)),
 xo 15 (.bin .add (xt 14) (xi 1)),
 xo 6 (.mv (xt 15))] [0,1,5,6]
def c112_9 : XC := fun _ => .region [] [xo 16 (.mv (xt 6)),
 xo 17 (.mv (xt 0)),
 xo 18 (.len false (xt 17)),
 xo 19 (.bin .lss (xt 16) (xt 18))] [0,1,5,6,19]
def c112_10 : XC := fun _ => .cond (xt 19) (fun _ => .skip) (fun _ => .exit 0)
def c112_11 : XC := fun _ => .seq c112_9 c112_10
def c112_12 : XC := fun _ => .region [] [xo 22 (.mv (xt 0)),
 xo 23 (.mv (xt 6)),
 xo 24 (.ia (xt 22) (xt 23) 1),
 xo 25 (.ld (xt 24) 1 false),
 xo 7 (.mv (xt 25))] [0,1,5,6,7]
def c112_13 : XC := fun _ => .region [] [xo 26 (.mv (xt 1)),
 xo 27 (.mv (xt 7)),
 xo 28 (.callv (xt 26) [(xt 27)]),
 xo 29 (.not (xt 28))] [0,1,5,6,7,29]
def c112_14 : XC := fun _ => .region [] [xo 30 (.mv (xt 0)),
 xo 31 (.mv (xt 5)),
 xo 32 (.mv (xt 7)),
 xo 33 (.ia (xt 30) (xt 31) 1),
 xn (.sto (xt 33) (xt 32) 1)] [0,1,5,6]
def c112_15 : XC := fun _ => .region [] [xo 34 (.mv (xt 5)),
 xo 35 (.bin .add (xt 34) (xi 1)),
 xo 5 (.mv (xt 35))] [0,1,5,6]
def c112_16 : XC := fun _ => .seq c112_14 c112_15
def c112_17 : XC := fun _ => .cond (xt 29) c112_16 (fun _ => .skip)
def c112_18 : XC := fun _ => .seq c112_13 c112_17
def c112_19 : XC := fun _ => .seq c112_12 c112_18
def c112_20 : XC := fun _ => .block 1 c112_19
def c112_21 : XC := fun _ => .region [] [xo 20 (.mv (xt 6)),
 xo 21 (.bin .add (xt 20) (xi 1)),
 xo 6 (.mv (xt 21))] [0,1,5,6]
def c112_22 : XC := fun _ => .seq c112_20 c112_21
def c112_23 : XC := fun _ => .seq c112_11 c112_22
def c112_24 : XC := fun _ => .loop c112_23
def c112_25 : XC := fun _ => .block 0 c112_24
def c112_26 : XC := fun _ => .seq c112_8 c112_25
def c112_27 : XC := fun _ => .region [] [xo 36 (.mv (xt 0)),
 xo 37 (.mv (xt 5)),
 xo 38 (.slc false (xt 36) (some (xt 37)) none none 1),
 xn (.clr (xt 38) 1 [.int .i64 0])] [0,5]
def c112_28 : XC := fun _ => .region [] [xo 39 (.mv (xt 0)),
 xo 40 (.mv (xt 5)),
 xo 41 (.slc false (xt 39) none (some (xt 40)) none 1),
 xo 4 (.mv (xt 41))] [4]
def c112_29 : XC := fun _ => .seq c112_28 (fun _ => .ret)
def c112_30 : XC := fun _ => .seq c112_27 c112_29
def c112_31 : XC := fun _ => .seq c112_26 c112_30
def c112_32 : XC := fun _ => .seq c112_7 c112_31
def c112_33 : XC := fun _ => .seq c112_2 c112_32
def c112_34 : XC := fun _ => .seq c112_1 c112_33
def m_slices_DeleteFunc_intint : MCode := c112_34 ()
def h_slices_DeleteFunc_intint : Hints := [(0, [0,1], [], [], []), (1, [0,1,5], [], [], []), (2, [0,1,5,12], [], [], []), (3, [4], [], [], []), (4, [0,1,5,6], [], [], []), (5, [0,1,5,6,19], [], [], []), (7, [0,1,5,6,7], [], [], []), (8, [0,1,5,6,7,29], [], [], []), (9, [0,1,5,6], [], [], []), (10, [0,1,5,6], [], [], []), (6, [0,1,5,6], [], [], []), (11, [0,5], [], [], []), (12, [4], [], [], [])]
def r_slices_DeleteFunc_intint : List RV := [.t 4]
abbrev n_slices_DeleteFunc_intint : Nat := 112
theorem k_slices_DeleteFunc_intint : Known Pr mu n_slices_DeleteFunc_intint m_slices_DeleteFunc_intint r_slices_DeleteFunc_intint Go.Proofs.Try.f112.ntmps := .of h_slices_DeleteFunc_intint hm Go.Proofs.Try.func112
def c113_1 : XC := fun _ => .region [] [xo 3 (.mv (xb false))] [0,1]
def c113_2 : XC := fun _ => .region [] [xo 4 (.ld (xt 1) 1 false),
 xo 5 (.mv (xt 0)),
 xo 6 (.call 75 [(xt 4), (xt 5)]),
 xo 3 (.mv (xt 6))] [3]
def c113_3 : XC := fun _ => .seq c113_2 (fun _ => .ret)
def c113_4 : XC := fun _ => .seq c113_1 c113_3
def m_impl_WithoutServers_c1 : MCode := c113_4 ()
def h_impl_WithoutServers_c1 : Hints := [(0, [0,1], [], [], []), (1, [3], [], [], [])]
def r_impl_WithoutServers_c1 : List RV := [.t 3]
abbrev n_impl_WithoutServers_c1 : Nat := 113
theorem k_impl_WithoutServers_c1 : Known Pr mu n_impl_WithoutServers_c1 m_impl_WithoutServers_c1 r_impl_WithoutServers_c1 Go.Proofs.Try.f113.ntmps := .of h_impl_WithoutServers_c1 hm Go.Proofs.Try.func113
def c119_1 : XC := fun _ => .region [] [xo 4 (.mv (xb false))] [0,1]
def c119_2 : XC := fun _ => .region [] [xo 5 (.mv (xt 0)),
 xo 6 (.mv (xt 1)),
 xo 7 (.call 138 [(xt 5), (xt 6)]),
 xo 8 (.bin .geq (xt 7) (xi 0)),
 xo 4 (.mv (xt 8))] [4]
def c119_3 : XC := fun _ => .seq c119_2 (fun _ => .ret)
def c119_4 : XC := fun _ => .seq c119_1 c119_3
def m_slices_Contains_intint : MCode := c119_4 ()
def h_slices_Contains_intint : Hints := [(0, [0,1], [], [], []), (1, [4], [], [], [])]
def r_slices_Contains_intint : List RV := [.t 4]
abbrev n_slices_Contains_intint : Nat := 119
theorem k_slices_Contains_intint : Known Pr mu n_slices_Contains_intint m_slices_Contains_intint r_slices_Contains_intint Go.Proofs.Try.f119.ntmps := .of h_slices_Contains_intint hm Go.Proofs.Try.func119
def c120_1 : XC := fun _ => .region [] [xo 2 (.mv (.const (.slice none 0 0)))] [0]
def c120_2 : XC := fun _ => .region [] [xo 3 (.mv (xt 0)),
 xo 4 (.nbin .eql (xt 3) (.const (.slice none 0 0)))] [0,4]
def c120_3 : XC := fun _ => .region [] [xo 2 (.mv (.const (.slice none 0 0)))] [2]
def c120_4 : XC := fun _ => .seq c120_3 (fun _ => .ret)
def c120_5 : XC := fun _ => .cond (xt 4) c120_4 (fun _ => .skip)
def c120_6 : XC := fun _ => .seq c120_2 c120_5
def c120_7 : XC := fun _ => .region [] [xo 5 (.bsl 1 0 [.int .i64 0] []),
 xo 6 (.mv (xt 0)),
 xo 7 (.app (xt 5) (xt 6) 1 8),
 xo 2 (.mv (xt 7))] [2]
def c120_8 : XC := fun _ => .seq c120_7 (fun _ => .ret)
def c120_9 : XC := fun _ => .seq c120_6 c120_8
def c120_10 : XC := fun _ => .seq c120_1 c120_9
def m_slices_Clone_intint : MCode := c120_10 ()
def h_slices_Clone_intint : Hints := [(0, [0], [], [], []), (1, [0,4], [], [], []), (2, [2], [], [], []), (3, [2], [], [], [])]
def r_slices_Clone_intint : List RV := [.t 2]
abbrev n_slices_Clone_intint : Nat := 120
theorem k_slices_Clone_intint : Known Pr mu n_slices_Clone_intint m_slices_Clone_intint r_slices_Clone_intint Go.Proofs.Try.f120.ntmps := .of h_slices_Clone_intint hm Go.Proofs.Try.func120
def c121_1 : XC := fun _ => .region [] [xo 3 (.mv (xt 0)),
 xo 4 (.len false (xt 3)),
 xo 2 (.mv (xt 4))] [0,2]
def c121_2 : XC := fun _ => .region [] [xo 5 (.mv (xt 0)),
 xo 6 (.mv (xt 2)),
 xo 7 (.mv (xt 2)),
 xo 8 (.conv .u64 (xt 7)),
 xo 9 (.call 140 [(xt 8)]),
 xo 10 (.callm 139 [(xt 5), (xi 0), (xt 6), (xt 9)])] []
def c121_3 : XC := fun _ => .seq c121_1 c121_2
def m_slices_Sort_intint : MCode := c121_3 ()
def h_slices_Sort_intint : Hints := [(0, [0,2], [], [], []), (1, [], [], [], [])]
def r_slices_Sort_intint : List RV := []
abbrev n_slices_Sort_intint : Nat := 121
theorem k_slices_Sort_intint : Known Pr mu n_slices_Sort_intint m_slices_Sort_intint r_slices_Sort_intint Go.Proofs.Try.f121.ntmps := .of h_slices_Sort_intint hm Go.Proofs.Try.func121
def c122_1 : XC := fun _ => .region [] [xo 2 (.mv (.const (.slice none 0 0)))] [0]
def c122_2 : XC := fun _ => .region [] [xo 6 (.mv (xt 0)),
 xo 7 (.len false (xt 6)),
 xo 8 (.bin .lss (xt 7) (xi 2))] [0,8]
def c122_3 : XC := fun _ => .region [] [xo 9 (.mv (xt 0)),
 xo 2 (.mv (xt 9))] [2]
def c122_4 : XC := fun _ => .seq c122_3 (fun _ => .ret)
def c122_5 : XC := fun _ => .cond (xt 8) c122_4 (fun _ => .skip)
def c122_6 : XC := fun _ => .seq c122_2 c122_5
def c122_7 : XC := fun _ => .region [] [xo 3 (.mv (xi 1))] [0,3]
def c122_8 : XC := fun _ => .region [] [xo 10 (.mv (xt 3)),
 xo 11 (.mv (xt 0)),
 xo 12 (.len false (xt 11)),
 xo 13 (.bin .lss (xt 10) (xt 12))] [0,3,13]
def c122_9 : XC := fun _ => .cond (xt 13) (fun _ => .skip) (fun _ => .exit 0)
def c122_10 : XC := fun _ => .seq c122_8 c122_9
def c122_11 : XC := fun _ => .region [] [xo 16 (.mv (xt 0)),
 xo 17 (.mv (xt 3)),
 xo 18 (.ia (xt 16) (xt 17) 1),
 xo 19 (.ld (xt 18) 1 false),
 xo 20 (.mv (xt 0)),
 xo 21 (.mv (xt 3)),
 xo 22 (.bin .sub (xt 21) (xi 1)),
 ⟨(some 23), .ia (xt 20) (xt 22) 1, none, [0, 1, 2, 3]⟩,
 ⟨(some 24), .ld (xt 23) 1 false, none, [0, 1, 2, 3]⟩,
 xo 25 (.bin .eql (xt 19) (xt 24))] [0,3,25]
def c122_12 : XC := fun _ => .region [] [xo 26 (.mv (xt 0)),
 xo 27 (.mv (xt 3)),
 xo 28 (.slc false (xt 26) (some (xt 27)) none none 1),
 xo 4 (.mv (xt 28))] [0,3,4]
def c122_13 : XC := fun _ => .region [] [xo 5 (.mv (xi 1))] [0,3,4,5]
def c122_14 : XC := fun _ => .region [] [xo 29 (.mv (xt 5)),
 xo 30 (.mv (xt 4)),
 xo 31 (.len false (xt 30)),
 xo 32 (.bin .lss (xt 29) (xt 31))] [0,3,4,5,32]
def c122_15 : XC := fun _ => .cond (xt 32) (fun _ => .skip) (fun _ => .exit 2)
def c122_16 : XC := fun _ => .seq c122_14 c122_15
def c122_17 : XC := fun _ => .region [] [xo 35 (.mv (xt 4)),
 xo 36 (.mv (xt 5)),
 xo 37 (.ia (xt 35) (xt 36) 1),
 xo 38 (.ld (xt 37) 1 false),
 xo 39 (.mv (xt 4)),
 xo 40 (.mv (xt 5)),
 xo 41 (.bin .sub (xt 40) (xi 1)),
 ⟨(some 42), .ia (xt 39) (xt 41) 1, none, [0, 1, 2, 3]⟩,
 ⟨(some 43), .ld (xt 42) 1 false, none, [0, 1, 2, 3]⟩,
 xo 44 (.bin .neq (xt 38) (xt 43))] [0,3,4,5,44]
def c122_18 : XC := fun _ => .region [] [xo 45 (.mv (xt 0)),
 xo 46 (.mv (xt 3)),
 xo 47 (.mv (xt 4)),
 xo 48 (.mv (xt 5)),
 xo 49 (.ia (xt 47) (xt 48) 1),
 xo 50 (.ld (xt 49) 1 false),
 xo 51 (.ia (xt 45) (xt 46) 1),
 xn (.sto (xt 51) (xt 50) 1)] [0,3,4,5]
def c122_19 : XC := fun _ => .region [] [xo 52 (.mv (xt 3)),
 xo 53 (.bin .add (xt 52) (xi 1)),
 xo 3 (.mv (xt 53))] [0,3,4,5]
def c122_20 : XC := fun _ => .seq c122_18 c122_19
def c122_21 : XC := fun _ => .cond (xt 44) c122_20 (fun _ => .skip)
def c122_22 : XC := fun _ => .seq c122_17 c122_21
def c122_23 : XC := fun _ => .block 3 c122_22
def c122_24 : XC := fun _ => .region [] [xo 33 (.mv (xt 5)),
 xo 34 (.bin .add (xt 33) (xi 1)),
 xo 5 (.mv (xt 34))] [0,3,4,5]
def c122_25 : XC := fun _ => .seq c122_23 c122_24
def c122_26 : XC := fun _ => .seq c122_16 c122_25
def c122_27 : XC := fun _ => .loop c122_26
def c122_28 : XC := fun _ => .block 2 c122_27
def c122_29 : XC := fun _ => .seq c122_13 c122_28
def c122_30 : XC := fun _ => .region [] [xo 54 (.mv (xt 0)),
 xo 55 (.mv (xt 3)),
 xo 56 (.slc false (xt 54) (some (xt 55)) none none 1),
 xn (.clr (xt 56) 1 [.int .i64 0])] [0,3]
def c122_31 : XC := fun _ => .region [] [xo 57 (.mv (xt 0)),
 xo 58 (.mv (xt 3)),
 xo 59 (.slc false (xt 57) none (some (xt 58)) none 1),
 xo 2 (.mv (xt 59))] [2]
def c122_32 : XC := fun _ => .seq c122_31 (fun _ => .ret)
def c122_33 : XC := fun _ => .seq c122_30 c122_32
def c122_34 : XC := fun _ => .seq c122_29 c122_33
def c122_35 : XC := fun _ => .seq c122_12 c122_34
def c122_36 : XC := fun _ => .cond (xt 25) c122_35 (fun _ => .skip)
def c122_37 : XC := fun _ => .seq c122_11 c122_36
def c122_38 : XC := fun _ => .block 1 c122_37
def c122_39 : XC := fun _ => .region [] [xo 14 (.mv (xt 3)),
 xo 15 (.bin .add (xt 14) (xi 1)),
 xo 3 (.mv (xt 15))] [0,3]
def c122_40 : XC := fun _ => .seq c122_38 c122_39
def c122_41 : XC := fun _ => .seq c122_10 c122_40
def c122_42 : XC := fun _ => .loop c122_41
def c122_43 : XC := fun _ => .block 0 c122_42
def c122_44 : XC := fun _ => .seq c122_7 c122_43
def c122_45 : XC := fun _ => .region [] [xo 60 (.mv (xt 0)),
 xo 2 (.mv (xt 60))] [2]
def c122_46 : XC := fun _ => .seq c122_45 (fun _ => .ret)
def c122_47 : XC := fun _ => .seq c122_44 c122_46
def c122_48 : XC := fun _ => .seq c122_6 c122_47
def c122_49 : XC := fun _ => .seq c122_1 c122_48
def m_slices_Compact_intint : MCode := c122_49 ()
def h_slices_Compact_intint : Hints := [(0, [0], [], [], []), (1, [0,8], [], [], []), (2, [2], [], [], []), (3, [0,3], [], [], []), (4, [0,3,13], [], [], []), (6, [0,3,25], [[],[],[],[],[],[],[],[0,1,2,3],[0,1,2,3]], [], []), (7, [0,3,4], [], [], []), (8, [0,3,4,5], [], [], []), (9, [0,3,4,5,32], [], [], []), (11, [0,3,4,5,44], [[],[],[],[],[],[],[],[0,1,2,3],[0,1,2,3]], [], []), (12, [0,3,4,5], [], [], []), (13, [0,3,4,5], [], [], []), (10, [0,3,4,5], [], [], []), (14, [0,3], [], [], []), (15, [2], [], [], []), (5, [0,3], [], [], []), (16, [2], [], [], [])]
def r_slices_Compact_intint : List RV := [.t 2]
abbrev n_slices_Compact_intint : Nat := 122
theorem k_slices_Compact_intint : Known Pr mu n_slices_Compact_intint m_slices_Compact_intint r_slices_Compact_intint Go.Proofs.Try.f122.ntmps := .of h_slices_Compact_intint hm Go.Proofs.Try.func122
def c123_1 : XC := fun _ => .region [] [xo 1 (.box (xt 0)),
 xo 2 (.mv (xb false))] [1]
def c123_2 : XC := fun _ => .region [] [xo 3 (.fa (xt 1) 0),
 xo 4 (.ld (xt 3) 1 false),
 xo 5 (.call 59 [(xt 4), (xi 0), (xi 99)]),
 xo 6 (.not (xt 5)),
 xo 7 (.mv (xt 6)),
 ⟨(some 8), .fa (xt 1) 1, (some (7, false)), []⟩,
 ⟨(some 9), .ld (xt 8) 1 false, (some (7, false)), []⟩,
 ⟨(some 10), .fa (xt 1) 0, (some (7, false)), []⟩,
 ⟨(some 11), .ld (xt 10) 1 false, (some (7, false)), []⟩,
 ⟨(some 12), .call 59 [(xt 9), (xi 0), (xt 11)], (some (7, false)), []⟩,
 ⟨(some 13), .not (xt 12), (some (7, false)), []⟩,
 xo 14 (.pick (xt 7) (xb true) (xt 13))] [1,14]
def c123_3 : XC := fun _ => .region [] [xo 2 (.mv (xb false))] [2]
def c123_4 : XC := fun _ => .seq c123_3 (fun _ => .ret)
def c123_5 : XC := fun _ => .cond (xt 14) c123_4 (fun _ => .skip)
def c123_6 : XC := fun _ => .seq c123_2 c123_5
def c123_7 : XC := fun _ => .region [] [xo 15 (.fa (xt 1) 1),
 xo 16 (.ld (xt 15) 1 false),
 xo 17 (.bin .eql (xt 16) (xi 0))] [1,17]
def c123_8 : XC := fun _ => .region [] [xo 18 (.fa (xt 1) 2),
 xo 19 (.ld (xt 18) 4 true),
 xo 20 (.bld [.int .i64 0, .int .i64 0, .slice none 0 0, .slice none 0 0] []),
 xo 21 (.call 81 [(xt 19), (xt 20)]),
 xo 2 (.mv (xt 21))] [2]
def c123_9 : XC := fun _ => .seq c123_8 (fun _ => .ret)
def c123_10 : XC := fun _ => .cond (xt 17) c123_9 (fun _ => .skip)
def c123_11 : XC := fun _ => .seq c123_7 c123_10
def c123_12 : XC := fun _ => .region [] [xo 22 (.fa (xt 1) 2),
 xo 23 (.ld (xt 22) 4 true),
 xo 24 (.call 103 [(xt 23)]),
 xo 2 (.mv (xt 24))] [2]
def c123_13 : XC := fun _ => .seq c123_12 (fun _ => .ret)
def c123_14 : XC := fun _ => .seq c123_11 c123_13
def c123_15 : XC := fun _ => .seq c123_6 c123_14
def c123_16 : XC := fun _ => .seq c123_1 c123_15
def m_spec_IsValidAcceptor : MCode := c123_16 ()
def h_spec_IsValidAcceptor : Hints := [(0, [1], [], [], []), (1, [1,14], [], [], []), (2, [2], [], [], []), (3, [1,17], [], [], []), (4, [2], [], [], []), (5, [2], [], [], [])]
def r_spec_IsValidAcceptor : List RV := [.t 2]
abbrev n_spec_IsValidAcceptor : Nat := 123
theorem k_spec_IsValidAcceptor : Known Pr mu n_spec_IsValidAcceptor m_spec_IsValidAcceptor r_spec_IsValidAcceptor Go.Proofs.Try.f123.ntmps := .of h_spec_IsValidAcceptor hm Go.Proofs.Try.func123
def c124_1 : XC := fun _ => .region [] [xo 4 (.mv (xb false))] [0,1]
def c124_2 : XC := fun _ => .region [] [xo 6 (.mv (xt 0)),
 xo 7 (.len false (xt 6)),
 xo 8 (.mv (xt 1)),
 xo 9 (.len false (xt 8)),
 xo 10 (.bin .neq (xt 7) (xt 9))] [0,1,10]
def c124_3 : XC := fun _ => .region [] [xo 4 (.mv (xb false))] [4]
def c124_4 : XC := fun _ => .seq c124_3 (fun _ => .ret)
def c124_5 : XC := fun _ => .cond (xt 10) c124_4 (fun _ => .skip)
def c124_6 : XC := fun _ => .seq c124_2 c124_5
def c124_7 : XC := fun _ => .region [] [xo 5 (.mv (xi 0))] [0,1,5]
def c124_8 : XC := fun _ => .region [] [xo 11 (.mv (xt 5)),
 xo 12 (.mv (xt 0)),
 xo 13 (.len false (xt 12)),
 xo 14 (.bin .lss (xt 11) (xt 13))] [0,1,5,14]
def c124_9 : XC := fun _ => .cond (xt 14) (fun _ => .skip) (fun _ => .exit 0)
def c124_10 : XC := fun _ => .seq c124_8 c124_9
def c124_11 : XC := fun _ => .region [] [xo 17 (.mv (xt 0)),
 xo 18 (.mv (xt 5)),
 xo 19 (.ia (xt 17) (xt 18) 1),
 xo 20 (.ld (xt 19) 1 false),
 xo 21 (.mv (xt 1)),
 xo 22 (.mv (xt 5)),
 ⟨(some 23), .ia (xt 21) (xt 22) 1, none, [0, 1, 2, 3]⟩,
 ⟨(some 24), .ld (xt 23) 1 false, none, [0, 1, 2, 3]⟩,
 xo 25 (.bin .neq (xt 20) (xt 24))] [0,1,5,25]
def c124_12 : XC := fun _ => .region [] [xo 4 (.mv (xb false))] [4]
def c124_13 : XC := fun _ => .seq c124_12 (fun _ => .ret)
def c124_14 : XC := fun _ => .cond (xt 25) c124_13 (fun _ => .skip)
def c124_15 : XC := fun _ => .seq c124_11 c124_14
def c124_16 : XC := fun _ => .block 1 c124_15
def c124_17 : XC := fun _ => .region [] [xo 15 (.mv (xt 5)),
 xo 16 (.bin .add (xt 15) (xi 1)),
 xo 5 (.mv (xt 16))] [0,1,5]
def c124_18 : XC := fun _ => .seq c124_16 c124_17
def c124_19 : XC := fun _ => .seq c124_10 c124_18
def c124_20 : XC := fun _ => .loop c124_19
def c124_21 : XC := fun _ => .block 0 c124_20
def c124_22 : XC := fun _ => .seq c124_7 c124_21
def c124_23 : XC := fun _ => .region [] [xo 4 (.mv (xb true))] [4]
def c124_24 : XC := fun _ => .seq c124_23 (fun _ => .ret)
def c124_25 : XC := fun _ => .seq c124_22 c124_24
def c124_26 : XC := fun _ => .seq c124_6 c124_25
def c124_27 : XC := fun _ => .seq c124_1 c124_26
def m_spec_EqualServers : MCode := c124_27 ()
def h_spec_EqualServers : Hints := [(0, [0,1], [], [], []), (1, [0,1,10], [], [], []), (2, [4], [], [], []), (3, [0,1,5], [], [], []), (4, [0,1,5,14], [], [], []), (6, [0,1,5,25], [[],[],[],[],[],[],[0,1,2,3],[0,1,2,3]], [], []), (7, [4], [], [], []), (5, [0,1,5], [], [], []), (8, [4], [], [], [])]
def r_spec_EqualServers : List RV := [.t 4]
abbrev n_spec_EqualServers : Nat := 124
theorem k_spec_EqualServers : Known Pr mu n_spec_EqualServers m_spec_EqualServers r_spec_EqualServers Go.Proofs.Try.f124.ntmps := .of h_spec_EqualServers hm Go.Proofs.Try.func124
def c125_1 : XC := fun _ => .region [] [xo 4 (.mv (xb false))] [0,1]
def c125_2 : XC := fun _ => .region [] [xo 5 (.mv (xt 0)),
 xo 6 (.mv (xt 1)),
 xo 7 (.call 141 [(xt 5), (xt 6)]),
 xo 8 (.bin .geq (xt 7) (xi 0)),
 xo 4 (.mv (xt 8))] [4]
def c125_3 : XC := fun _ => .seq c125_2 (fun _ => .ret)
def c125_4 : XC := fun _ => .seq c125_1 c125_3
def m_slices_ContainsFunc_implAcceptorimplAcceptor : MCode := c125_4 ()
def h_slices_ContainsFunc_implAcceptorimplAcceptor : Hints := [(0, [0,1], [], [], []), (1, [4], [], [], [])]
def r_slices_ContainsFunc_implAcceptorimplAcceptor : List RV := [.t 4]
abbrev n_slices_ContainsFunc_implAcceptorimplAcceptor : Nat := 125
theorem k_slices_ContainsFunc_implAcceptorimplAcceptor : Known Pr mu n_slices_ContainsFunc_implAcceptorimplAcceptor m_slices_ContainsFunc_implAcceptorimplAcceptor r_slices_ContainsFunc_implAcceptorimplAcceptor Go.Proofs.Try.f125.ntmps := .of h_slices_ContainsFunc_implAcceptorimplAcceptor hm Go.Proofs.Try.func125
def c126_1 : XC := fun _ => .region [] [xo 1 (.box (xt 0)),
 xo 2 (.mv (xb false))] [1]
def c126_2 : XC := fun _ => .region [] [xo 3 (.ld (xt 1) 6 true),
 xo 4 (.call 127 [(xt 3)]),
 xo 5 (.not (xt 4)),
 xo 2 (.mv (xt 5))] [2]
def c126_3 : XC := fun _ => .seq c126_2 (fun _ => .ret)
def c126_4 : XC := fun _ => .seq c126_1 c126_3
def m_impl_AreAcceptors_c1 : MCode := c126_4 ()
def h_impl_AreAcceptors_c1 : Hints := [(0, [1], [], [], []), (1, [2], [], [], [])]
def r_impl_AreAcceptors_c1 : List RV := [.t 2]
abbrev n_impl_AreAcceptors_c1 : Nat := 126
theorem k_impl_AreAcceptors_c1 : Known Pr mu n_impl_AreAcceptors_c1 m_impl_AreAcceptors_c1 r_impl_AreAcceptors_c1 Go.Proofs.Try.f126.ntmps := .of h_impl_AreAcceptors_c1 hm Go.Proofs.Try.func126
def c127_1 : XC := fun _ => .region [] [xo 1 (.box (xt 0)),
 xo 2 (.mv (xb false))] [1]
def c127_2 : XC := fun _ => .region [] [xo 3 (.fa (xt 1) 0),
 xo 4 (.ld (xt 3) 1 false),
 xo 5 (.call 64 [(xt 4), (xi 0), (xi 99)]),
 xo 6 (.mv (xt 5)),
 ⟨(some 7), .fa (xt 1) 1, (some (6, true)), []⟩,
 ⟨(some 8), .ld (xt 7) 1 false, (some (6, true)), []⟩,
 ⟨(some 9), .fa (xt 1) 0, (some (6, true)), []⟩,
 ⟨(some 10), .ld (xt 9) 1 false, (some (6, true)), []⟩,
 ⟨(some 11), .call 64 [(xt 8), (xi 0), (xt 10)], (some (6, true)), []⟩,
 xo 12 (.pick (xt 6) (xt 11) (xb false)),
 xo 13 (.mv (xt 12)),
 ⟨(some 14), .fa (xt 1) 1, (some (13, true)), []⟩,
 ⟨(some 15), .ld (xt 14) 1 false, (some (13, true)), []⟩,
 ⟨(some 16), .bin .eql (xt 15) (xi 0), (some (13, true)), []⟩,
 ⟨(some 17), .mv (xt 16), (some (13, true)), []⟩,
 ⟨(some 18), .fa (xt 1) 2, (some (17, true)), []⟩,
 ⟨(some 19), .ld (xt 18) 4 true, (some (17, true)), []⟩,
 ⟨(some 20), .bld [.int .i64 0, .int .i64 0, .slice none 0 0, .slice none 0 0] [], (some (17, true)), []⟩,
 ⟨(some 21), .call 85 [(xt 19), (xt 20)], (some (17, true)), []⟩,
 ⟨(some 22), .pick (xt 17) (xt 21) (xb false), (some (13, true)), []⟩,
 ⟨(some 23), .mv (xt 22), (some (13, true)), []⟩,
 ⟨(some 24), .fa (xt 1) 1, (some (23, false)), []⟩,
 ⟨(some 25), .ld (xt 24) 1 false, (some (23, false)), []⟩,
 ⟨(some 26), .bin .gtr (xt 25) (xi 0), (some (23, false)), []⟩,
 ⟨(some 27), .mv (xt 26), (some (23, false)), []⟩,
 ⟨(some 28), .fa (xt 1) 2, (some (27, true)), []⟩,
 ⟨(some 29), .ld (xt 28) 4 true, (some (27, true)), []⟩,
 ⟨(some 30), .call 107 [(xt 29)], (some (27, true)), []⟩,
 ⟨(some 31), .pick (xt 27) (xt 30) (xb false), (some (23, false)), []⟩,
 ⟨(some 32), .pick (xt 23) (xb true) (xt 31), (some (13, true)), []⟩,
 xo 33 (.pick (xt 13) (xt 32) (xb false)),
 xo 2 (.mv (xt 33))] [2]
def c127_3 : XC := fun _ => .seq c127_2 (fun _ => .ret)
def c127_4 : XC := fun _ => .seq c127_1 c127_3
def m_impl_IsValidAcceptor : MCode := c127_4 ()
def h_impl_IsValidAcceptor : Hints := [(0, [1], [], [], []), (1, [2], [], [], [])]
def r_impl_IsValidAcceptor : List RV := [.t 2]
abbrev n_impl_IsValidAcceptor : Nat := 127
theorem k_impl_IsValidAcceptor : Known Pr mu n_impl_IsValidAcceptor m_impl_IsValidAcceptor r_impl_IsValidAcceptor Go.Proofs.Try.f127.ntmps := .of h_impl_IsValidAcceptor hm Go.Proofs.Try.func127
def c128_1 : XC := fun _ => .region [] [xo 4 (.mv (xb false))] [0,1]
def c128_2 : XC := fun _ => .region [] [xo 5 (.mv (xt 0)),
 xo 6 (.mv (xt 1)),
 xo 7 (.call 142 [(xt 5), (xt 6)]),
 xo 4 (.mv (xt 7))] [4]
def c128_3 : XC := fun _ => .seq c128_2 (fun _ => .ret)
def c128_4 : XC := fun _ => .seq c128_1 c128_3
def m_impl_EqualServers : MCode := c128_4 ()
def h_impl_EqualServers : Hints := [(0, [0,1], [], [], []), (1, [4], [], [], [])]
def r_impl_EqualServers : List RV := [.t 4]
abbrev n_impl_EqualServers : Nat := 128
theorem k_impl_EqualServers : Known Pr mu n_impl_EqualServers m_impl_EqualServers r_impl_EqualServers Go.Proofs.Try.f128.ntmps := .of h_impl_EqualServers hm Go.Proofs.Try.func128
def c133_1 : XC := fun _ => .region [] [xo 1 (.box (xt 0)),
 xo 2 (.alloc [.int .i64 0, .int .i64 0, .int .i64 0, .int .i64 0, .slice none 0 0, .slice none 0 0])] [1,2]
def c133_2 : XC := fun _ => .region [] [xo 3 (.fa (xt 1) 0),
 xo 4 (.ld (xt 3) 1 false),
 ⟨(some 5), .fa (xt 1) 1, none, [0, 1]⟩,
 ⟨(some 6), .ld (xt 5) 1 false, none, [0, 1]⟩,
 ⟨(some 7), .fa (xt 1) 2, none, [0, 1, 2, 3]⟩,
 ⟨(some 8), .ld (xt 7) 4 true, none, [0, 1, 2, 3]⟩,
 ⟨(some 9), .call 82 [(xt 8)], none, [0, 1, 2, 3]⟩,
 xo 10 (.bld [.int .i64 0, .int .i64 0, .int .i64 0, .int .i64 0, .slice none 0 0, .slice none 0 0] [(0, 1, (xt 4)), (1, 1, (xt 6)), (2, 4, (xt 9))]),
 xn (.sto (xt 2) (xt 10) 6)] [2]
def c133_3 : XC := fun _ => .seq c133_2 (fun _ => .ret)
def c133_4 : XC := fun _ => .seq c133_1 c133_3
def m_spec_l10Copy : MCode := c133_4 ()
def h_spec_l10Copy : Hints := [(0, [1,2], [], [], []), (1, [2], [[],[],[0,1],[0,1],[0,1,2,3],[0,1,2,3],[0,1,2,3]], [], [])]
def r_spec_l10Copy : List RV := [.c 2 6 true]
abbrev n_spec_l10Copy : Nat := 133
theorem k_spec_l10Copy : Known Pr mu n_spec_l10Copy m_spec_l10Copy r_spec_l10Copy Go.Proofs.Try.f133.ntmps := .of h_spec_l10Copy hm Go.Proofs.Try.func133
def c134_1 : XC := fun _ => .region [] [xo 1 (.box (xt 0)),
 xo 2 (.alloc [.int .i64 0, .int .i64 0, .int .i64 0, .int .i64 0, .slice none 0 0, .slice none 0 0])] [1,2]
def c134_2 : XC := fun _ => .region [] [xo 3 (.fa (xt 1) 0),
 xo 4 (.ld (xt 3) 1 false),
 ⟨(some 5), .fa (xt 1) 1, none, [0, 1]⟩,
 ⟨(some 6), .ld (xt 5) 1 false, none, [0, 1]⟩,
 ⟨(some 7), .fa (xt 1) 2, none, [0, 1, 2, 3]⟩,
 ⟨(some 8), .ld (xt 7) 4 true, none, [0, 1, 2, 3]⟩,
 ⟨(some 9), .call 86 [(xt 8)], none, [0, 1, 2, 3]⟩,
 xo 10 (.bld [.int .i64 0, .int .i64 0, .int .i64 0, .int .i64 0, .slice none 0 0, .slice none 0 0] [(0, 1, (xt 4)), (1, 1, (xt 6)), (2, 4, (xt 9))]),
 xn (.sto (xt 2) (xt 10) 6)] [2]
def c134_3 : XC := fun _ => .seq c134_2 (fun _ => .ret)
def c134_4 : XC := fun _ => .seq c134_1 c134_3
def m_impl_acceptorCopy : MCode := c134_4 ()
def h_impl_acceptorCopy : Hints := [(0, [1,2], [], [], []), (1, [2], [[],[],[0,1],[0,1],[0,1,2,3],[0,1,2,3],[0,1,2,3]], [], [])]
def r_impl_acceptorCopy : List RV := [.c 2 6 true]
abbrev n_impl_acceptorCopy : Nat := 134
theorem k_impl_acceptorCopy : Known Pr mu n_impl_acceptorCopy m_impl_acceptorCopy r_impl_acceptorCopy Go.Proofs.Try.f134.ntmps := .of h_impl_acceptorCopy hm Go.Proofs.Try.func134
def c136_1 : XC := fun _ => .region [] [xo 4 (.mv (xi 0))] [0,1]
def c136_2 : XC := fun _ => .region [] [xo 6 (.mv (xt 0)),
 xo 7 (.len false (xt 6)),
 xo 8 (.mv (xi 0))] [0,1,7,8]
def c136_3 : XC := fun _ => .region [] [xo 9 (.bin .lss (xt 8) (xt 7))] [0,1,7,8,9]
def c136_4 : XC := fun _ => .cond (xt 9) (fun _ => .skip) (fun _ => .exit 0)
def c136_5 : XC := fun _ => .region [] [xo 10 (.mv (xt 8)),
 xo 5 (.mv (xt 10))] [0,1,5,7,8]
def c136_6 : XC := fun _ => .region [] [xo 11 (.mv (xt 1)),
 xo 12 (.mv (xt 0)),
 xo 13 (.mv (xt 5)),
 xo 14 (.ia (xt 12) (xt 13) 1),
 xo 15 (.ld (xt 14) 1 false),
 xo 16 (.callv (xt 11) [(xt 15)])] [0,1,5,7,8,16]
def c136_7 : XC := fun _ => .region [] [xo 17 (.mv (xt 5)),
 xo 4 (.mv (xt 17))] [4]
def c136_8 : XC := fun _ => .seq c136_7 (fun _ => .ret)
def c136_9 : XC := fun _ => .cond (xt 16) c136_8 (fun _ => .skip)
def c136_10 : XC := fun _ => .seq c136_6 c136_9
def c136_11 : XC := fun _ => .seq c136_5 c136_10
def c136_12 : XC := fun _ => .block 1 c136_11
def c136_13 : XC := fun _ => .region [] [xo 18 (.bin .add (xt 8) (xi 1)),
 xo 8 (.mv (xt 18))] [0,1,7,8]
def c136_14 : XC := fun _ => .seq c136_12 c136_13
def c136_15 : XC := fun _ => .seq c136_4 c136_14
def c136_16 : XC := fun _ => .seq c136_3 c136_15
def c136_17 : XC := fun _ => .loop c136_16
def c136_18 : XC := fun _ => .block 0 c136_17
def c136_19 : XC := fun _ => .seq c136_2 c136_18
def c136_20 : XC := fun _ => .region [] [xo 4 (.mv (xi (-1)))] [4]
def c136_21 : XC := fun _ => .seq c136_20 (fun _ => .ret)
def c136_22 : XC := fun _ => .seq c136_19 c136_21
def c136_23 : XC := fun _ => .seq c136_1 c136_22
def m_slices_IndexFunc_intint : MCode := c136_23 ()
def h_slices_IndexFunc_intint : Hints := [(0, [0,1], [], [], []), (1, [0,1,7,8], [], [], []), (2, [0,1,7,8,9], [], [], []), (3, [0,1,5,7,8], [], [], []), (4, [0,1,5,7,8,16], [], [], []), (5, [4], [], [], []), (6, [0,1,7,8], [], [], []), (7, [4], [], [], [])]
def r_slices_IndexFunc_intint : List RV := [.t 4]
abbrev n_slices_IndexFunc_intint : Nat := 136
theorem k_slices_IndexFunc_intint : Known Pr mu n_slices_IndexFunc_intint m_slices_IndexFunc_intint r_slices_IndexFunc_intint Go.Proofs.Try.f136.ntmps := .of h_slices_IndexFunc_intint hm Go.Proofs.Try.func136
def c138_1 : XC := fun _ => .region [] [xo 4 (.mv (xi 0))] [0,1]
def c138_2 : XC := fun _ => .region [] [xo 6 (.mv (xt 0)),
 xo 7 (.len false (xt 6)),
 xo 8 (.mv (xi 0))] [0,1,7,8]
def c138_3 : XC := fun _ => .region [] [xo 9 (.bin .lss (xt 8) (xt 7))] [0,1,7,8,9]
def c138_4 : XC := fun _ => .cond (xt 9) (fun _ => .skip) (fun _ => .exit 0)
def c138_5 : XC := fun _ => .region [] [xo 10 (.mv (xt 8)),
 xo 5 (.mv (xt 10))] [0,1,5,7,8]
def c138_6 : XC := fun _ => .region [] [xo 11 (.mv (xt 1)),
 xo 12 (.mv (xt 0)),
 xo 13 (.mv (xt 5)),
 xo 14 (.ia (xt 12) (xt 13) 1),
 xo 15 (.ld (xt 14) 1 false),
 xo 16 (.bin .eql (xt 11) (xt 15))] [0,1,5,7,8,16]
def c138_7 : XC := fun _ => .region [] [xo 17 (.mv (xt 5)),
 xo 4 (.mv (xt 17))] [4]
def c138_8 : XC := fun _ => .seq c138_7 (fun _ => .ret)
def c138_9 : XC := fun _ => .cond (xt 16) c138_8 (fun _ => .skip)
def c138_10 : XC := fun _ => .seq c138_6 c138_9
def c138_11 : XC := fun _ => .seq c138_5 c138_10
def c138_12 : XC := fun _ => .block 1 c138_11
def c138_13 : XC := fun _ => .region [] [xo 18 (.bin .add (xt 8) (xi 1)),
 xo 8 (.mv (xt 18))] [0,1,7,8]
def c138_14 : XC := fun _ => .seq c138_12 c138_13
def c138_15 : XC := fun _ => .seq c138_4 c138_14
def c138_16 : XC := fun _ => .seq c138_3 c138_15
def c138_17 : XC := fun _ => .loop c138_16
def c138_18 : XC := fun _ => .block 0 c138_17
def c138_19 : XC := fun _ => .seq c138_2 c138_18
def c138_20 : XC := fun _ => .region [] [xo 4 (.mv (xi (-1)))] [4]
def c138_21 : XC := fun _ => .seq c138_20 (fun _ => .ret)
def c138_22 : XC := fun _ => .seq c138_19 c138_21
def c138_23 : XC := fun _ => .seq c138_1 c138_22
def m_slices_Index_intint : MCode := c138_23 ()
def h_slices_Index_intint : Hints := [(0, [0,1], [], [], []), (1, [0,1,7,8], [], [], []), (2, [0,1,7,8,9], [], [], []), (3, [0,1,5,7,8], [], [], []), (4, [0,1,5,7,8,16], [], [], []), (5, [4], [], [], []), (6, [0,1,7,8], [], [], []), (7, [4], [], [], [])]
def r_slices_Index_intint : List RV := [.t 4]
abbrev n_slices_Index_intint : Nat := 138
theorem k_slices_Index_intint : Known Pr mu n_slices_Index_intint m_slices_Index_intint r_slices_Index_intint Go.Proofs.Try.f138.ntmps := .of h_slices_Index_intint hm Go.Proofs.Try.func138
def c139_1 : XC := fun _ => .region [] [xo 8 (.mv (xb true))] [0,1,2,3,8]
def c139_2 : XC := fun _ => .region [] [xo 9 (.mv (xb true))] [0,1,2,3,8,9]
def c139_3 : XC := fun _ => .region [] [xo 19 (.mv (xt 2)),
 xo 20 (.mv (xt 1)),
 xo 21 (.bin .sub (xt 19) (xt 20)),
 xo 10 (.mv (xt 21))] [0,1,2,3,8,9,10]
def c139_4 : XC := fun _ => .region [] [xo 22 (.mv (xt 10)),
 xo 23 (.bin .leq (xt 22) (xi 12))] [0,1,2,3,8,9,10,23]
def c139_5 : XC := fun _ => .region [] [xo 24 (.mv (xt 0)),
 xo 25 (.mv (xt 1)),
 xo 26 (.mv (xt 2)),
 xo 27 (.callm 145 [(xt 24), (xt 25), (xt 26)])] []
def c139_6 : XC := fun _ => .seq c139_5 (fun _ => .ret)
def c139_7 : XC := fun _ => .cond (xt 23) c139_6 (fun _ => .skip)
def c139_8 : XC := fun _ => .seq c139_4 c139_7
def c139_9 : XC := fun _ => .region [] [xo 28 (.mv (xt 3)),
 xo 29 (.bin .eql (xt 28) (xi 0))] [0,1,2,3,8,9,10,29]
def c139_10 : XC := fun _ => .region [] [xo 30 (.mv (xt 0)),
 xo 31 (.mv (xt 1)),
 xo 32 (.mv (xt 2)),
 xo 33 (.callm 146 [(xt 30), (xt 31), (xt 32)])] []
def c139_11 : XC := fun _ => .seq c139_10 (fun _ => .ret)
def c139_12 : XC := fun _ => .cond (xt 29) c139_11 (fun _ => .skip)
def c139_13 : XC := fun _ => .seq c139_9 c139_12
def c139_14 : XC := fun _ => .region [] [xo 34 (.mv (xt 8)),
 xo 35 (.not (xt 34))] [0,1,2,3,8,9,10,35]
def c139_15 : XC := fun _ => .region [] [xo 36 (.mv (xt 0)),
 xo 37 (.mv (xt 1)),
 xo 38 (.mv (xt 2)),
 xo 39 (.callm 147 [(xt 36), (xt 37), (xt 38)])] [0,1,2,3,8,9,10]
def c139_16 : XC := fun _ => .region [] [xo 40 (.mv (xt 3)),
 xo 41 (.bin .sub (xt 40) (xi 1)),
 xo 3 (.mv (xt 41))] [0,1,2,3,8,9,10]
def c139_17 : XC := fun _ => .seq c139_15 c139_16
def c139_18 : XC := fun _ => .cond (xt 35) c139_17 (fun _ => .skip)
def c139_19 : XC := fun _ => .seq c139_14 c139_18
def c139_20 : XC := fun _ => .region [] [xo 43 (.mv (xt 0)),
 xo 44 (.mv (xt 1)),
 xo 45 (.mv (xt 2)),
 xo 46 (.call 148 [(xt 43), (xt 44), (xt 45)]),
 xo 42 (.mv (xt 46)),
 xo 47 (.ext (xt 42) 0),
 xo 48 (.ext (xt 42) 1),
 xo 11 (.mv (xt 47)),
 xo 12 (.mv (xt 48))] [0,1,2,3,8,9,10,11,12]
def c139_21 : XC := fun _ => .region [] [xo 49 (.mv (xt 12)),
 xo 50 (.bin .eql (xt 49) (xi 2))] [0,1,2,3,8,9,10,11,12,50]
def c139_22 : XC := fun _ => .region [] [xo 51 (.mv (xt 0)),
 xo 52 (.mv (xt 1)),
 xo 53 (.mv (xt 2)),
 xo 54 (.callm 149 [(xt 51), (xt 52), (xt 53)])] [0,1,2,3,8,9,10,11]
def c139_23 : XC := fun _ => .region [] [xo 55 (.mv (xt 2)),
 xo 56 (.bin .sub (xt 55) (xi 1)),
 xo 57 (.mv (xt 11)),
 xo 58 (.mv (xt 1)),
 xo 59 (.bin .sub (xt 57) (xt 58)),
 xo 60 (.bin .sub (xt 56) (xt 59)),
 xo 11 (.mv (xt 60))] [0,1,2,3,8,9,10,11]
def c139_24 : XC := fun _ => .region [] [xo 12 (.mv (xi 1))] [0,1,2,3,8,9,10,11,12]
def c139_25 : XC := fun _ => .seq c139_23 c139_24
def c139_26 : XC := fun _ => .seq c139_22 c139_25
def c139_27 : XC := fun _ => .cond (xt 50) c139_26 (fun _ => .skip)
def c139_28 : XC := fun _ => .seq c139_21 c139_27
def c139_29 : XC := fun _ => .region [] [xo 61 (.mv (xt 8)),
 xo 62 (.mv (xt 61)),
 ⟨(some 63), .mv (xt 9), (some (62, true)), []⟩,
 xo 64 (.pick (xt 62) (xt 63) (xb false)),
 xo 65 (.mv (xt 64)),
 ⟨(some 66), .mv (xt 12), (some (65, true)), []⟩,
 ⟨(some 67), .bin .eql (xt 66) (xi 1), (some (65, true)), []⟩,
 xo 68 (.pick (xt 65) (xt 67) (xb false))] [0,1,2,3,8,9,10,11,68]
def c139_30 : XC := fun _ => .region [] [xo 69 (.mv (xt 0)),
 xo 70 (.mv (xt 1)),
 xo 71 (.mv (xt 2)),
 xo 72 (.callm 150 [(xt 69), (xt 70), (xt 71)])] [0,1,2,3,8,9,10,11,72]
def c139_31 : XC := fun _ => .cond (xt 72) (fun _ => .ret) (fun _ => .skip)
def c139_32 : XC := fun _ => .seq c139_30 c139_31
def c139_33 : XC := fun _ => .cond (xt 68) c139_32 (fun _ => .skip)
def c139_34 : XC := fun _ => .seq c139_29 c139_33
def c139_35 : XC := fun _ => .region [] [xo 73 (.mv (xt 1)),
 xo 74 (.bin .gtr (xt 73) (xi 0)),
 xo 75 (.mv (xt 74)),
 ⟨(some 76), .mv (xt 0), (some (75, true)), []⟩,
 ⟨(some 77), .mv (xt 1), (some (75, true)), []⟩,
 ⟨(some 78), .bin .sub (xt 77) (xi 1), (some (75, true)), []⟩,
 ⟨(some 79), .ia (xt 76) (xt 78) 1, (some (75, true)), []⟩,
 ⟨(some 80), .ld (xt 79) 1 false, (some (75, true)), []⟩,
 ⟨(some 81), .mv (xt 0), (some (75, true)), []⟩,
 ⟨(some 82), .mv (xt 11), (some (75, true)), []⟩,
 ⟨(some 83), .ia (xt 81) (xt 82) 1, (some (75, true)), [3, 4, 5, 6, 7]⟩,
 ⟨(some 84), .ld (xt 83) 1 false, (some (75, true)), [3, 4, 5, 6, 7]⟩,
 ⟨(some 85), .call 151 [(xt 80), (xt 84)], (some (75, true)), []⟩,
 ⟨(some 86), .not (xt 85), (some (75, true)), []⟩,
 xo 87 (.pick (xt 75) (xt 86) (xb false))] [0,1,2,3,8,9,10,11,87]
def c139_36 : XC := fun _ => .region [] [xo 88 (.mv (xt 0)),
 xo 89 (.mv (xt 1)),
 xo 90 (.mv (xt 2)),
 xo 91 (.mv (xt 11)),
 xo 92 (.callm 152 [(xt 88), (xt 89), (xt 90), (xt 91)]),
 xo 13 (.mv (xt 92))] [0,2,3,8,9,13]
def c139_37 : XC := fun _ => .region [] [xo 93 (.mv (xt 13)),
 xo 1 (.mv (xt 93))] [0,1,2,3,8,9]
def c139_38 : XC := fun _ => .seq c139_37 (fun _ => .exit 1)
def c139_39 : XC := fun _ => .seq c139_36 c139_38
def c139_40 : XC := fun _ => .cond (xt 87) c139_39 (fun _ => .skip)
def c139_41 : XC := fun _ => .seq c139_35 c139_40
def c139_42 : XC := fun _ => .region [] [xo 95 (.mv (xt 0)),
 xo 96 (.mv (xt 1)),
 xo 97 (.mv (xt 2)),
 xo 98 (.mv (xt 11)),
 xo 99 (.callm 153 [(xt 95), (xt 96), (xt 97), (xt 98)]),
 xo 94 (.mv (xt 99)),
 xo 100 (.ext (xt 94) 0),
 xo 101 (.ext (xt 94) 1),
 xo 14 (.mv (xt 100)),
 xo 15 (.mv (xt 101))] [0,1,2,3,10,14,15]
def c139_43 : XC := fun _ => .region [] [xo 102 (.mv (xt 15)),
 xo 9 (.mv (xt 102))] [0,1,2,3,9,10,14]
def c139_44 : XC := fun _ => .region [] [xo 103 (.mv (xt 14)),
 xo 104 (.mv (xt 1)),
 xo 105 (.bin .sub (xt 103) (xt 104)),
 xo 106 (.mv (xt 2)),
 xo 107 (.mv (xt 14)),
 xo 108 (.bin .sub (xt 106) (xt 107)),
 xo 16 (.mv (xt 105)),
 xo 17 (.mv (xt 108))] [0,1,2,3,9,10,14,16,17]
def c139_45 : XC := fun _ => .region [] [xo 109 (.mv (xt 10)),
 xo 110 (.bin .quo (xt 109) (xi 8)),
 xo 18 (.mv (xt 110))] [0,1,2,3,9,14,16,17,18]
def c139_46 : XC := fun _ => .region [] [xo 111 (.mv (xt 16)),
 xo 112 (.mv (xt 17)),
 xo 113 (.bin .lss (xt 111) (xt 112))] [0,1,2,3,9,14,16,17,18,113]
def c139_47 : XC := fun _ => .region [] [xo 114 (.mv (xt 16)),
 xo 115 (.mv (xt 18)),
 xo 116 (.bin .geq (xt 114) (xt 115)),
 xo 8 (.mv (xt 116))] [0,1,2,3,8,9,14]
def c139_48 : XC := fun _ => .region [] [xo 117 (.mv (xt 0)),
 xo 118 (.mv (xt 1)),
 xo 119 (.mv (xt 14)),
 xo 120 (.mv (xt 3)),
 xo 121 (.callm 139 [(xt 117), (xt 118), (xt 119), (xt 120)])] [0,2,3,8,9,14]
def c139_49 : XC := fun _ => .region [] [xo 122 (.mv (xt 14)),
 xo 123 (.bin .add (xt 122) (xi 1)),
 xo 1 (.mv (xt 123))] [0,1,2,3,8,9]
def c139_50 : XC := fun _ => .seq c139_48 c139_49
def c139_51 : XC := fun _ => .seq c139_47 c139_50
def c139_52 : XC := fun _ => .region [] [xo 124 (.mv (xt 17)),
 xo 125 (.mv (xt 18)),
 xo 126 (.bin .geq (xt 124) (xt 125)),
 xo 8 (.mv (xt 126))] [0,1,2,3,8,9,14]
def c139_53 : XC := fun _ => .region [] [xo 127 (.mv (xt 0)),
 xo 128 (.mv (xt 14)),
 xo 129 (.bin .add (xt 128) (xi 1)),
 xo 130 (.mv (xt 2)),
 xo 131 (.mv (xt 3)),
 xo 132 (.callm 139 [(xt 127), (xt 129), (xt 130), (xt 131)])] [0,1,3,8,9,14]
def c139_54 : XC := fun _ => .region [] [xo 133 (.mv (xt 14)),
 xo 2 (.mv (xt 133))] [0,1,2,3,8,9]
def c139_55 : XC := fun _ => .seq c139_53 c139_54
def c139_56 : XC := fun _ => .seq c139_52 c139_55
def c139_57 : XC := fun _ => .cond (xt 113) c139_51 c139_56
def c139_58 : XC := fun _ => .seq c139_46 c139_57
def c139_59 : XC := fun _ => .seq c139_45 c139_58
def c139_60 : XC := fun _ => .seq c139_44 c139_59
def c139_61 : XC := fun _ => .seq c139_43 c139_60
def c139_62 : XC := fun _ => .seq c139_42 c139_61
def c139_63 : XC := fun _ => .seq c139_41 c139_62
def c139_64 : XC := fun _ => .seq c139_34 c139_63
def c139_65 : XC := fun _ => .seq c139_28 c139_64
def c139_66 : XC := fun _ => .seq c139_20 c139_65
def c139_67 : XC := fun _ => .seq c139_19 c139_66
def c139_68 : XC := fun _ => .seq c139_13 c139_67
def c139_69 : XC := fun _ => .seq c139_8 c139_68
def c139_70 : XC := fun _ => .seq c139_3 c139_69
def c139_71 : XC := fun _ => .block 1 c139_70
def c139_72 : XC := fun _ => .loop c139_71
def c139_73 : XC := fun _ => .block 0 c139_72
def c139_74 : XC := fun _ => .seq c139_2 c139_73
def c139_75 : XC := fun _ => .seq c139_1 c139_74
def m_slices_pdqsortOrdered_int : MCode := c139_75 ()
def h_slices_pdqsortOrdered_int : Hints := [(0, [0,1,2,3,8], [], [], []), (1, [0,1,2,3,8,9], [], [], []), (2, [0,1,2,3,8,9,10], [], [], []), (3, [0,1,2,3,8,9,10,23], [], [], []), (4, [], [], [], []), (5, [0,1,2,3,8,9,10,29], [], [], []), (6, [], [], [], []), (7, [0,1,2,3,8,9,10,35], [], [], []), (8, [0,1,2,3,8,9,10], [], [], []), (9, [0,1,2,3,8,9,10], [], [], []), (10, [0,1,2,3,8,9,10,11,12], [], [], []), (11, [0,1,2,3,8,9,10,11,12,50], [], [], []), (12, [0,1,2,3,8,9,10,11], [], [], []), (13, [0,1,2,3,8,9,10,11], [], [], []), (14, [0,1,2,3,8,9,10,11,12], [], [], []), (15, [0,1,2,3,8,9,10,11,68], [], [], []), (16, [0,1,2,3,8,9,10,11,72], [], [], []), (17, [0,1,2,3,8,9,10,11,87], [[],[],[],[],[],[],[],[],[],[],[3,4,5,6,7],[3,4,5,6,7]], [], []), (18, [0,2,3,8,9,13], [], [], []), (19, [0,1,2,3,8,9], [], [], []), (20, [0,1,2,3,10,14,15], [], [], []), (21, [0,1,2,3,9,10,14], [], [], []), (22, [0,1,2,3,9,10,14,16,17], [], [], []), (23, [0,1,2,3,9,14,16,17,18], [], [], []), (24, [0,1,2,3,9,14,16,17,18,113], [], [], []), (25, [0,1,2,3,8,9,14], [], [], []), (26, [0,2,3,8,9,14], [], [], []), (27, [0,1,2,3,8,9], [], [], []), (28, [0,1,2,3,8,9,14], [], [], []), (29, [0,1,3,8,9,14], [], [], []), (30, [0,1,2,3,8,9], [], [], [])]
def r_slices_pdqsortOrdered_int : List RV := []
abbrev n_slices_pdqsortOrdered_int : Nat := 139
theorem k_slices_pdqsortOrdered_int : Known Pr mu n_slices_pdqsortOrdered_int m_slices_pdqsortOrdered_int r_slices_pdqsortOrdered_int Go.Proofs.Try.f139.ntmps := .of h_slices_pdqsortOrdered_int hm Go.Proofs.Try.func139
def c140_1 : XC := fun _ => .region [] [xo 2 (.mv (xi 0))] [0]
def c140_2 : XC := fun _ => .region [] [xo 3 (.mv (xt 0)),
 xo 4 (.conv .u32 (xt 3)),
 xo 5 (.call 154 [(xt 4)]),
 xo 2 (.mv (xt 5))] [2]
def c140_3 : XC := fun _ => .seq c140_2 (fun _ => .ret)
def c140_4 : XC := fun _ => .cond (xb false) c140_3 (fun _ => .skip)
def c140_5 : XC := fun _ => .region [] [xo 6 (.mv (xt 0)),
 xo 7 (.call 155 [(xt 6)]),
 xo 2 (.mv (xt 7))] [2]
def c140_6 : XC := fun _ => .seq c140_5 (fun _ => .ret)
def c140_7 : XC := fun _ => .seq c140_4 c140_6
def c140_8 : XC := fun _ => .seq c140_1 c140_7
def m_math_bits_Len : MCode := c140_8 ()
def h_math_bits_Len : Hints := [(0, [0], [], [], []), (1, [2], [], [], []), (2, [2], [], [], [])]
def r_math_bits_Len : List RV := [.t 2]
abbrev n_math_bits_Len : Nat := 140
theorem k_math_bits_Len : Known Pr mu n_math_bits_Len m_math_bits_Len r_math_bits_Len Go.Proofs.Try.f140.ntmps := .of h_math_bits_Len hm Go.Proofs.Try.func140
def c141_1 : XC := fun _ => .region [] [xo 4 (.mv (xi 0))] [0,1]
def c141_2 : XC := fun _ => .region [] [xo 6 (.mv (xt 0)),
 xo 7 (.len false (xt 6)),
 xo 8 (.mv (xi 0))] [0,1,7,8]
def c141_3 : XC := fun _ => .region [] [xo 9 (.bin .lss (xt 8) (xt 7))] [0,1,7,8,9]
def c141_4 : XC := fun _ => .cond (xt 9) (fun _ => .skip) (fun _ => .exit 0)
def c141_5 : XC := fun _ => .region [] [xo 10 (.mv (xt 8)),
 xo 5 (.mv (xt 10))] [0,1,5,7,8]
def c141_6 : XC := fun _ => .region [] [xo 11 (.mv (xt 1)),
 xo 12 (.mv (xt 0)),
 xo 13 (.mv (xt 5)),
 xo 14 (.ia (xt 12) (xt 13) 6),
 xo 15 (.ld (xt 14) 6 true),
 xo 16 (.callv (xt 11) [(xt 15)])] [0,1,5,7,8,16]
def c141_7 : XC := fun _ => .region [] [xo 17 (.mv (xt 5)),
 xo 4 (.mv (xt 17))] [4]
def c141_8 : XC := fun _ => .seq c141_7 (fun _ => .ret)
def c141_9 : XC := fun _ => .cond (xt 16) c141_8 (fun _ => .skip)
def c141_10 : XC := fun _ => .seq c141_6 c141_9
def c141_11 : XC := fun _ => .seq c141_5 c141_10
def c141_12 : XC := fun _ => .block 1 c141_11
def c141_13 : XC := fun _ => .region [] [xo 18 (.bin .add (xt 8) (xi 1)),
 xo 8 (.mv (xt 18))] [0,1,7,8]
def c141_14 : XC := fun _ => .seq c141_12 c141_13
def c141_15 : XC := fun _ => .seq c141_4 c141_14
def c141_16 : XC := fun _ => .seq c141_3 c141_15
def c141_17 : XC := fun _ => .loop c141_16
def c141_18 : XC := fun _ => .block 0 c141_17
def c141_19 : XC := fun _ => .seq c141_2 c141_18
def c141_20 : XC := fun _ => .region [] [xo 4 (.mv (xi (-1)))] [4]
def c141_21 : XC := fun _ => .seq c141_20 (fun _ => .ret)
def c141_22 : XC := fun _ => .seq c141_19 c141_21
def c141_23 : XC := fun _ => .seq c141_1 c141_22
def m_slices_IndexFunc_implAcceptorimplAcceptor : MCode := c141_23 ()
def h_slices_IndexFunc_implAcceptorimplAcceptor : Hints := [(0, [0,1], [], [], []), (1, [0,1,7,8], [], [], []), (2, [0,1,7,8,9], [], [], []), (3, [0,1,5,7,8], [], [], []), (4, [0,1,5,7,8,16], [], [], []), (5, [4], [], [], []), (6, [0,1,7,8], [], [], []), (7, [4], [], [], [])]
def r_slices_IndexFunc_implAcceptorimplAcceptor : List RV := [.t 4]
abbrev n_slices_IndexFunc_implAcceptorimplAcceptor : Nat := 141
theorem k_slices_IndexFunc_implAcceptorimplAcceptor : Known Pr mu n_slices_IndexFunc_implAcceptorimplAcceptor m_slices_IndexFunc_implAcceptorimplAcceptor r_slices_IndexFunc_implAcceptorimplAcceptor Go.Proofs.Try.f141.ntmps := .of h_slices_IndexFunc_implAcceptorimplAcceptor hm Go.Proofs.Try.func141
def c142_1 : XC := fun _ => .region [] [xo 4 (.mv (xb false))] [0,1]
def c142_2 : XC := fun _ => .region [] [xo 6 (.mv (xt 0)),
 xo 7 (.len false (xt 6)),
 xo 8 (.mv (xt 1)),
 xo 9 (.len false (xt 8)),
 xo 10 (.bin .neq (xt 7) (xt 9))] [0,1,10]
def c142_3 : XC := fun _ => .region [] [xo 4 (.mv (xb false))] [4]
def c142_4 : XC := fun _ => .seq c142_3 (fun _ => .ret)
def c142_5 : XC := fun _ => .cond (xt 10) c142_4 (fun _ => .skip)
def c142_6 : XC := fun _ => .seq c142_2 c142_5
def c142_7 : XC := fun _ => .region [] [xo 11 (.mv (xt 0)),
 xo 12 (.len false (xt 11)),
 xo 13 (.mv (xi 0))] [0,1,12,13]
def c142_8 : XC := fun _ => .region [] [xo 14 (.bin .lss (xt 13) (xt 12))] [0,1,12,13,14]
def c142_9 : XC := fun _ => .cond (xt 14) (fun _ => .skip) (fun _ => .exit 0)
def c142_10 : XC := fun _ => .region [] [xo 15 (.mv (xt 13)),
 xo 5 (.mv (xt 15))] [0,1,5,12,13]
def c142_11 : XC := fun _ => .region [] [xo 16 (.mv (xt 0)),
 xo 17 (.mv (xt 5)),
 xo 18 (.ia (xt 16) (xt 17) 1),
 xo 19 (.ld (xt 18) 1 false),
 xo 20 (.mv (xt 1)),
 xo 21 (.mv (xt 5)),
 ⟨(some 22), .ia (xt 20) (xt 21) 1, none, [0, 1, 2, 3]⟩,
 ⟨(some 23), .ld (xt 22) 1 false, none, [0, 1, 2, 3]⟩,
 xo 24 (.bin .neq (xt 19) (xt 23))] [0,1,12,13,24]
def c142_12 : XC := fun _ => .region [] [xo 4 (.mv (xb false))] [4]
def c142_13 : XC := fun _ => .seq c142_12 (fun _ => .ret)
def c142_14 : XC := fun _ => .cond (xt 24) c142_13 (fun _ => .skip)
def c142_15 : XC := fun _ => .seq c142_11 c142_14
def c142_16 : XC := fun _ => .seq c142_10 c142_15
def c142_17 : XC := fun _ => .block 1 c142_16
def c142_18 : XC := fun _ => .region [] [xo 25 (.bin .add (xt 13) (xi 1)),
 xo 13 (.mv (xt 25))] [0,1,12,13]
def c142_19 : XC := fun _ => .seq c142_17 c142_18
def c142_20 : XC := fun _ => .seq c142_9 c142_19
def c142_21 : XC := fun _ => .seq c142_8 c142_20
def c142_22 : XC := fun _ => .loop c142_21
def c142_23 : XC := fun _ => .block 0 c142_22
def c142_24 : XC := fun _ => .seq c142_7 c142_23
def c142_25 : XC := fun _ => .region [] [xo 4 (.mv (xb true))] [4]
def c142_26 : XC := fun _ => .seq c142_25 (fun _ => .ret)
def c142_27 : XC := fun _ => .seq c142_24 c142_26
def c142_28 : XC := fun _ => .seq c142_6 c142_27
def c142_29 : XC := fun _ => .seq c142_1 c142_28
def m_slices_Equal_intint : MCode := c142_29 ()
def h_slices_Equal_intint : Hints := [(0, [0,1], [], [], []), (1, [0,1,10], [], [], []), (2, [4], [], [], []), (3, [0,1,12,13], [], [], []), (4, [0,1,12,13,14], [], [], []), (5, [0,1,5,12,13], [], [], []), (6, [0,1,12,13,24], [[],[],[],[],[],[],[0,1,2,3],[0,1,2,3]], [], []), (7, [4], [], [], []), (8, [0,1,12,13], [], [], []), (9, [4], [], [], [])]
def r_slices_Equal_intint : List RV := [.t 4]
abbrev n_slices_Equal_intint : Nat := 142
theorem k_slices_Equal_intint : Known Pr mu n_slices_Equal_intint m_slices_Equal_intint r_slices_Equal_intint Go.Proofs.Try.f142.ntmps := .of h_slices_Equal_intint hm Go.Proofs.Try.func142
def c145_1 : XC := fun _ => .region [] [xo 8 (.mv (xt 1)),
 xo 9 (.bin .add (xt 8) (xi 1)),
 xo 6 (.mv (xt 9))] [0,1,2,6]
def c145_2 : XC := fun _ => .region [] [xo 10 (.mv (xt 6)),
 xo 11 (.mv (xt 2)),
 xo 12 (.bin .lss (xt 10) (xt 11))] [0,1,2,6,12]
def c145_3 : XC := fun _ => .cond (xt 12) (fun _ => .skip) (fun _ => .exit 0)
def c145_4 : XC := fun _ => .seq c145_2 c145_3
def c145_5 : XC := fun _ => .region [] [xo 15 (.mv (xt 6)),
 xo 7 (.mv (xt 15))] [0,1,2,6,7]
def c145_6 : XC := fun _ => .region [] [xo 16 (.mv (xt 7)),
 xo 17 (.mv (xt 1)),
 xo 18 (.bin .gtr (xt 16) (xt 17)),
 xo 19 (.mv (xt 18)),
 ⟨(some 20), .mv (xt 0), (some (19, true)), []⟩,
 ⟨(some 21), .mv (xt 7), (some (19, true)), []⟩,
 ⟨(some 22), .ia (xt 20) (xt 21) 1, (some (19, true)), []⟩,
 ⟨(some 23), .ld (xt 22) 1 false, (some (19, true)), []⟩,
 ⟨(some 24), .mv (xt 0), (some (19, true)), []⟩,
 ⟨(some 25), .mv (xt 7), (some (19, true)), []⟩,
 ⟨(some 26), .bin .sub (xt 25) (xi 1), (some (19, true)), []⟩,
 ⟨(some 27), .ia (xt 24) (xt 26) 1, (some (19, true)), [4, 5, 6, 7]⟩,
 ⟨(some 28), .ld (xt 27) 1 false, (some (19, true)), [4, 5, 6, 7]⟩,
 ⟨(some 29), .call 151 [(xt 23), (xt 28)], (some (19, true)), []⟩,
 xo 30 (.pick (xt 19) (xt 29) (xb false))] [0,1,2,6,7,30]
def c145_7 : XC := fun _ => .cond (xt 30) (fun _ => .skip) (fun _ => .exit 2)
def c145_8 : XC := fun _ => .seq c145_6 c145_7
def c145_9 : XC := fun _ => .region [] [xo 33 (.mv (xt 0)),
 xo 34 (.mv (xt 7)),
 xo 35 (.mv (xt 0)),
 xo 36 (.mv (xt 7)),
 xo 37 (.bin .sub (xt 36) (xi 1)),
 xo 38 (.mv (xt 0)),
 xo 39 (.mv (xt 7)),
 xo 40 (.bin .sub (xt 39) (xi 1)),
 ⟨(some 41), .ia (xt 38) (xt 40) 1, none, [0, 1, 2, 3, 4]⟩,
 ⟨(some 42), .ld (xt 41) 1 false, none, [0, 1, 2, 3, 4]⟩,
 xo 43 (.mv (xt 0)),
 xo 44 (.mv (xt 7)),
 ⟨(some 45), .ia (xt 43) (xt 44) 1, none, [0, 1, 2, 3, 4, 5, 6, 7, 8, 9]⟩,
 ⟨(some 46), .ld (xt 45) 1 false, none, [0, 1, 2, 3, 4, 5, 6, 7, 8, 9]⟩,
 ⟨(some 47), .ia (xt 33) (xt 34) 1, none, [2, 3, 4]⟩,
 xn (.sto (xt 47) (xt 42) 1),
 xo 48 (.ia (xt 35) (xt 37) 1),
 xn (.sto (xt 48) (xt 46) 1)] [0,1,2,6,7]
def c145_10 : XC := fun _ => .block 3 c145_9
def c145_11 : XC := fun _ => .region [] [xo 31 (.mv (xt 7)),
 xo 32 (.bin .sub (xt 31) (xi 1)),
 xo 7 (.mv (xt 32))] [0,1,2,6,7]
def c145_12 : XC := fun _ => .seq c145_10 c145_11
def c145_13 : XC := fun _ => .seq c145_8 c145_12
def c145_14 : XC := fun _ => .loop c145_13
def c145_15 : XC := fun _ => .block 2 c145_14
def c145_16 : XC := fun _ => .seq c145_5 c145_15
def c145_17 : XC := fun _ => .block 1 c145_16
def c145_18 : XC := fun _ => .region [] [xo 13 (.mv (xt 6)),
 xo 14 (.bin .add (xt 13) (xi 1)),
 xo 6 (.mv (xt 14))] [0,1,2,6]
def c145_19 : XC := fun _ => .seq c145_17 c145_18
def c145_20 : XC := fun _ => .seq c145_4 c145_19
def c145_21 : XC := fun _ => .loop c145_20
def c145_22 : XC := fun _ => .block 0 c145_21
def c145_23 : XC := fun _ => .seq c145_1 c145_22
def m_slices_insertionSortOrdered_int : MCode := c145_23 ()
def h_slices_insertionSortOrdered_int : Hints := [(0, [0,1,2,6], [], [], []), (1, [0,1,2,6,12], [], [], []), (3, [0,1,2,6,7], [], [], []), (4, [0,1,2,6,7,30], [[],[],[],[],[],[],[],[],[],[],[],[4,5,6,7],[4,5,6,7]], [], []), (6, [0,1,2,6,7], [[],[],[],[],[],[],[],[],[0,1,2,3,4],[0,1,2,3,4],[],[],[0,1,2,3,4,5,6,7,8,9],[0,1,2,3,4,5,6,7,8,9],[2,3,4]], [], [2,3,4]), (5, [0,1,2,6,7], [], [], []), (2, [0,1,2,6], [], [], [])]
def r_slices_insertionSortOrdered_int : List RV := []
abbrev n_slices_insertionSortOrdered_int : Nat := 145
theorem k_slices_insertionSortOrdered_int : Known Pr mu n_slices_insertionSortOrdered_int m_slices_insertionSortOrdered_int r_slices_insertionSortOrdered_int Go.Proofs.Try.f145.ntmps := .of h_slices_insertionSortOrdered_int hm Go.Proofs.Try.func145
def c151_1 : XC := fun _ => .region [] [xo 4 (.mv (xb false))] [0,1]
def c151_2 : XC := fun _ => .region [] [xo 5 (.mv (xt 0)),
 xo 6 (.call 161 [(xt 5)]),
 xo 7 (.mv (xt 6)),
 ⟨(some 8), .mv (xt 1), (some (7, true)), []⟩,
 ⟨(some 9), .call 161 [(xt 8)], (some (7, true)), []⟩,
 ⟨(some 10), .not (xt 9), (some (7, true)), []⟩,
 xo 11 (.pick (xt 7) (xt 10) (xb false)),
 xo 12 (.mv (xt 11)),
 ⟨(some 13), .mv (xt 0), (some (12, false)), []⟩,
 ⟨(some 14), .mv (xt 1), (some (12, false)), []⟩,
 ⟨(some 15), .bin .lss (xt 13) (xt 14), (some (12, false)), []⟩,
 xo 16 (.pick (xt 12) (xb true) (xt 15)),
 xo 4 (.mv (xt 16))] [4]
def c151_3 : XC := fun _ => .seq c151_2 (fun _ => .ret)
def c151_4 : XC := fun _ => .seq c151_1 c151_3
def m_cmp_Less_int : MCode := c151_4 ()
def h_cmp_Less_int : Hints := [(0, [0,1], [], [], []), (1, [4], [], [], [])]
def r_cmp_Less_int : List RV := [.t 4]
abbrev n_cmp_Less_int : Nat := 151
theorem k_cmp_Less_int : Known Pr mu n_cmp_Less_int m_cmp_Less_int r_cmp_Less_int Go.Proofs.Try.f151.ntmps := .of h_cmp_Less_int hm Go.Proofs.Try.func151
def c155_1 : XC := fun _ => .region [] [xo 2 (.mv (xi 0))] [0,2]
def c155_2 : XC := fun _ => .region [] [xo 3 (.mv (xt 0)),
 xo 4 (.bin .geq (xt 3) (.const (.int .u64 4294967296)))] [0,2,4]
def c155_3 : XC := fun _ => .region [] [xo 5 (.mv (xt 0)),
 xo 6 (.bit .shr (xt 5) (.const (.int .u64 32))),
 xo 0 (.mv (xt 6))] [0]
def c155_4 : XC := fun _ => .region [] [xo 2 (.mv (xi 32))] [0,2]
def c155_5 : XC := fun _ => .seq c155_3 c155_4
def c155_6 : XC := fun _ => .cond (xt 4) c155_5 (fun _ => .skip)
def c155_7 : XC := fun _ => .seq c155_2 c155_6
def c155_8 : XC := fun _ => .region [] [xo 7 (.mv (xt 0)),
 xo 8 (.bin .geq (xt 7) (.const (.int .u64 65536)))] [0,2,8]
def c155_9 : XC := fun _ => .region [] [xo 9 (.mv (xt 0)),
 xo 10 (.bit .shr (xt 9) (.const (.int .u64 16))),
 xo 0 (.mv (xt 10))] [0,2]
def c155_10 : XC := fun _ => .region [] [xo 11 (.mv (xt 2)),
 xo 12 (.bin .add (xt 11) (xi 16)),
 xo 2 (.mv (xt 12))] [0,2]
def c155_11 : XC := fun _ => .seq c155_9 c155_10
def c155_12 : XC := fun _ => .cond (xt 8) c155_11 (fun _ => .skip)
def c155_13 : XC := fun _ => .seq c155_8 c155_12
def c155_14 : XC := fun _ => .region [] [xo 13 (.mv (xt 0)),
 xo 14 (.bin .geq (xt 13) (.const (.int .u64 256)))] [0,2,14]
def c155_15 : XC := fun _ => .region [] [xo 15 (.mv (xt 0)),
 xo 16 (.bit .shr (xt 15) (.const (.int .u64 8))),
 xo 0 (.mv (xt 16))] [0,2]
def c155_16 : XC := fun _ => .region [] [xo 17 (.mv (xt 2)),
 xo 18 (.bin .add (xt 17) (xi 8)),
 xo 2 (.mv (xt 18))] [0,2]
def c155_17 : XC := fun _ => .seq c155_15 c155_16
def c155_18 : XC := fun _ => .cond (xt 14) c155_17 (fun _ => .skip)
def c155_19 : XC := fun _ => .seq c155_14 c155_18
def c155_20 : XC := fun _ => .region [] [xo 19 (.mv (xt 2)),
 xo 20 (.mv (xt 0)),
 xo 21 (.conv .u8 (xt 20)),
 xo 22 (.sidx (.const (.string ⟨#[0, 1, 2, 2, 3, 3, 3, 3, 4, 4, 4, 4, 4, 4, 4, 4, 5, 5, 5, 5, 5, 5, 5, 5, 5, 5, 5, 5, 5, 5, 5, 5, 6, 6, 6, 6, 6, 6, 6, 6, 6, 6, 6, 6, 6, 6, 6, 6, 6, 6, 6, 6, 6, 6, 6, 6, 6, 6, 6, 6, 6, 6, 6, 6, 7, 7, 7, 7, 7, 7, 7, 7, 7, 7, 7, 7, 7, 7, 7, 7, 7, 7, 7, 7, 7, 7, 7, 7, 7, 7, 7, 7, 7, 7, 7, 7, 7, 7, 7, 7, 7, 7, 7, 7, 7, 7, 7, 7, 7, 7, 7, 7, 7, 7, 7, 7, 7, 7, 7, 7, 7, 7, 7, 7, 7, 7, 7, 7, 8, 8, 8, 8, 8, 8, 8, 8, 8, 8, 8, 8, 8, 8, 8, 8, 8, 8, 8, 8, 8, 8, 8, 8, 8, 8, 8, 8, 8, 8, 8, 8, 8, 8, 8, 8, 8, 8, 8, 8, 8, 8, 8, 8, 8, 8, 8, 8, 8, 8, 8, 8, 8, 8, 8, 8, 8, 8, 8, 8, 8, 8, 8, 8, 8, 8, 8, 8, 8, 8, 8, 8, 8, 8, 8, 8, 8, 8, 8, 8, 8, 8, 8, 8, 8, 8, 8, 8, 8, 8, 8, 8, 8, 8, 8, 8, 8, 8, 8, 8, 8, 8, 8, 8, 8, 8, 8, 8, 8, 8, 8, 8, 8, 8, 8, 8, 8, 8, 8, 8, 8, 8, 8, 8, 8, 8, 8, 8]⟩)) (xt 21)),
 xo 23 (.conv .i64 (xt 22)),
 xo 24 (.bin .add (xt 19) (xt 23)),
 xo 2 (.mv (xt 24))] [2]
def c155_21 : XC := fun _ => .seq c155_20 (fun _ => .ret)
def c155_22 : XC := fun _ => .seq c155_19 c155_21
def c155_23 : XC := fun _ => .seq c155_13 c155_22
def c155_24 : XC := fun _ => .seq c155_7 c155_23
def c155_25 : XC := fun _ => .seq c155_1 c155_24
def m_math_bits_Len64 : MCode := c155_25 ()
def h_math_bits_Len64 : Hints := [(0, [0,2], [], [], []), (1, [0,2,4], [], [], []), (2, [0], [], [], []), (3, [0,2], [], [], []), (4, [0,2,8], [], [], []), (5, [0,2], [], [], []), (6, [0,2], [], [], []), (7, [0,2,14], [], [], []), (8, [0,2], [], [], []), (9, [0,2], [], [], []), (10, [2], [], [], [])]
def r_math_bits_Len64 : List RV := [.t 2]
abbrev n_math_bits_Len64 : Nat := 155
theorem k_math_bits_Len64 : Known Pr mu n_math_bits_Len64 m_math_bits_Len64 r_math_bits_Len64 Go.Proofs.Try.f155.ntmps := .of h_math_bits_Len64 hm Go.Proofs.Try.func155
def c161_1 : XC := fun _ => .region [] [xo 2 (.mv (xb false))] [0]
def c161_2 : XC := fun _ => .region [] [xo 3 (.mv (xt 0)),
 xo 4 (.mv (xt 0)),
 xo 5 (.bin .neq (xt 3) (xt 4)),
 xo 2 (.mv (xt 5))] [2]
def c161_3 : XC := fun _ => .seq c161_2 (fun _ => .ret)
def c161_4 : XC := fun _ => .seq c161_1 c161_3
def m_cmp_isNaN_int : MCode := c161_4 ()
def h_cmp_isNaN_int : Hints := [(0, [0], [], [], []), (1, [2], [], [], [])]
def r_cmp_isNaN_int : List RV := [.t 2]
abbrev n_cmp_isNaN_int : Nat := 161
theorem k_cmp_isNaN_int : Known Pr mu n_cmp_isNaN_int m_cmp_isNaN_int r_cmp_isNaN_int Go.Proofs.Try.f161.ntmps := .of h_cmp_isNaN_int hm Go.Proofs.Try.func161
end Go.V.T
