/- The short code of the functions that FnSynod reaches, held against the program. Conditions: none. -/
import Derived.Test.YtmimpgleknffgaaV6
import Derived.Test.YtmimpgleknffgaaProg
namespace Go.V.T
open Go Go.V
noncomputable abbrev Pr := Go.Proofs.Try.prog
def mu : Nat → Bool := fun n => Nat.beq n 100 || Nat.beq n 101 || Nat.beq n 103 || Nat.beq n 105 || Nat.beq n 108 || Nat.beq n 109 || Nat.beq n 110 || Nat.beq n 112 || Nat.beq n 113 || Nat.beq n 115 || Nat.beq n 116 || Nat.beq n 119 || Nat.beq n 1000008 || Nat.beq n 1000017 || Nat.beq n 1000020 || Nat.beq n 1000025 || Nat.beq n 1000036 || Nat.beq n 1000043 || Nat.beq n 1000050 || Nat.beq n 1000051 || Nat.beq n 1000061 || Nat.beq n 1000062 || Nat.beq n 1000066 || Nat.beq n 1000076 || Nat.beq n 1000077 || Nat.beq n 1000081 || Nat.beq n 1000082 || Nat.beq n 1000083 || Nat.beq n 1000089 || Nat.beq n 1000095 || Nat.beq n 1000096 || Nat.beq n 2000049
def muc : Nat → Bool := fun n => Nat.beq n 3000000 || mu n
abbrev XC := Unit → MCode
def xt (n : Nat) : Operand := .tmp n
def xi (n : Int) : Operand := .const (.int .i64 n)
def xb (b : Bool) : Operand := .const (.bool b)
def xo (d : Nat) (m : MOp) : MOper := ⟨some d, m, none, []⟩
def xn (m : MOp) : MOper := ⟨none, m, none, []⟩
theorem hm : Pr.follows .mixedOrders = true := by kernel_rfl
def c3_1 : XC := fun _ => .region [] [xo 2 (.mv (xb false))] [0,9998]
def c3_2 : XC := fun _ => .region [] [xo 18 (.mv (xt 0)),
 xo 19 (.call 7 [(xt 18)])] [0,19,9998]
def c3_3 : XC := fun _ => .region [] [xo 2 (.mv (xb true))] [2,9998]
def c3_4 : XC := fun _ => .seq c3_3 (fun _ => .ret)
def c3_5 : XC := fun _ => .cond (xt 19) c3_4 (fun _ => .skip)
def c3_6 : XC := fun _ => .seq c3_2 c3_5
def c3_7 : XC := fun _ => .region [] [xo 20 (.mv (xt 0)),
 xo 21 (.callp 8 [(xt 20)]),
 xo 3 (.mv (xt 21))] [3,9998]
def c3_8 : XC := fun _ => .region [] [xo 23 (.mv (xt 3)),
 xo 24 (.call 9 [(xt 23)]),
 xo 22 (.mv (xt 24)),
 xo 25 (.ext (xt 22) 0),
 xo 26 (.ext (xt 22) 1),
 xo 4 (.mv (xt 25)),
 xo 5 (.mv (xt 26))] [3,4,5,9998]
def c3_9 : XC := fun _ => .region [] [xo 28 (.mv (xt 3)),
 xo 29 (.call 10 [(xt 28)]),
 xo 27 (.mv (xt 29)),
 xo 30 (.ext (xt 27) 0),
 xo 31 (.ext (xt 27) 1),
 xo 6 (.mv (xt 30)),
 xo 7 (.mv (xt 31))] [3,4,5,6,7,9998]
def c3_10 : XC := fun _ => .region [] [xo 32 (.mv (xt 4)),
 xo 33 (.len false (xt 32)),
 xo 34 (.mv (xt 6)),
 xo 35 (.len false (xt 34)),
 xo 36 (.bin .neq (xt 33) (xt 35)),
 xo 37 (.mv (xt 36)),
 ⟨(some 38), .mv (xt 5), (some (37, false)), []⟩,
 ⟨(some 39), .len false (xt 38), (some (37, false)), []⟩,
 ⟨(some 40), .mv (xt 7), (some (37, false)), []⟩,
 ⟨(some 41), .len false (xt 40), (some (37, false)), []⟩,
 ⟨(some 42), .bin .neq (xt 39) (xt 41), (some (37, false)), []⟩,
 xo 43 (.pick (xt 37) (xb true) (xt 42))] [3,4,5,6,43,9998]
def c3_11 : XC := fun _ => .region [] [xo 2 (.mv (xb false))] [2,9998]
def c3_12 : XC := fun _ => .seq c3_11 (fun _ => .ret)
def c3_13 : XC := fun _ => .cond (xt 43) c3_12 (fun _ => .skip)
def c3_14 : XC := fun _ => .seq c3_10 c3_13
def c3_15 : XC := fun _ => .region [] [xo 8 (.mv (xi 0))] [3,4,5,6,8,9998]
def c3_16 : XC := fun _ => .region [] [xo 44 (.mv (xt 8)),
 xo 45 (.mv (xt 4)),
 xo 46 (.len false (xt 45)),
 xo 47 (.bin .lss (xt 44) (xt 46))] [3,4,5,6,8,47,9998]
def c3_17 : XC := fun _ => .cond (xt 47) (fun _ => .skip) (fun _ => .exit 0)
def c3_18 : XC := fun _ => .seq c3_16 c3_17
def c3_19 : XC := fun _ => .region [] [xo 50 (.mv (xt 4)),
 xo 51 (.mv (xt 8)),
 xo 52 (.ia (xt 50) (xt 51) 6),
 ⟨(some 53), .ldc (xt 52) 6 true, none, [2000000]⟩,
 xo 54 (.mv (xt 6)),
 xo 55 (.mv (xt 8)),
 ⟨(some 56), .ia (xt 54) (xt 55) 6, none, [0, 1, 2, 3]⟩,
 ⟨(some 57), .ldc (xt 56) 6 true, none, [2000000, 0, 1, 2, 3]⟩,
 xo 58 (.call 11 [(xt 53), (xt 57)]),
 xo 59 (.not (xt 58))] [3,4,5,6,8,59,9998]
def c3_20 : XC := fun _ => .region [] [xo 2 (.mv (xb false))] [2,9998]
def c3_21 : XC := fun _ => .seq c3_20 (fun _ => .ret)
def c3_22 : XC := fun _ => .cond (xt 59) c3_21 (fun _ => .skip)
def c3_23 : XC := fun _ => .seq c3_19 c3_22
def c3_24 : XC := fun _ => .block 1 c3_23
def c3_25 : XC := fun _ => .region [] [xo 48 (.mv (xt 8)),
 xo 49 (.bin .add (xt 48) (xi 1)),
 xo 8 (.mv (xt 49))] [3,4,5,6,8,9998]
def c3_26 : XC := fun _ => .seq c3_24 c3_25
def c3_27 : XC := fun _ => .seq c3_18 c3_26
def c3_28 : XC := fun _ => .loop c3_27
def c3_29 : XC := fun _ => .block 0 c3_28
def c3_30 : XC := fun _ => .seq c3_15 c3_29
def c3_31 : XC := fun _ => .region [] [xo 60 (.call 12 []),
 xo 9 (.mv (xt 60))] [3,5,9,9998]
def c3_32 : XC := fun _ => .region [] [xo 61 (.bld [.int .i64 0, .int .i64 0, .slice none 0 0, .slice none 0 0] []),
 xo 10 (.alloc [.int .i64 0, .int .i64 0, .slice none 0 0, .slice none 0 0]),
 xn (.stoc (xt 10) (xt 61) 4)] [3,5,9,10,9998]
def c3_33 : XC := fun _ => .region [] [xo 11 (.mv (xb false))] [3,5,9,10,11,9998]
def c3_34 : XC := fun _ => .region [] [xo 12 (.mv (xi 0))] [3,5,9,10,11,12,9998]
def c3_35 : XC := fun _ => .region [] [xo 62 (.mv (xt 12)),
 xo 63 (.mv (xt 3)),
 xo 64 (.len false (xt 63)),
 xo 65 (.bin .lss (xt 62) (xt 64))] [3,5,9,10,11,12,65,9998]
def c3_36 : XC := fun _ => .cond (xt 65) (fun _ => .skip) (fun _ => .exit 2)
def c3_37 : XC := fun _ => .seq c3_35 c3_36
def c3_38 : XC := fun _ => .region [] [xo 69 (.mv (xt 9)),
 xo 70 (.mv (xt 3)),
 xo 71 (.mv (xt 12)),
 xo 72 (.ia (xt 70) (xt 71) 7),
 ⟨(some 73), .ldc (xt 72) 7 true, none, [2000000]⟩,
 xo 74 (.call 13 [(xt 69), (xt 73)]),
 xo 68 (.mv (xt 74)),
 xo 75 (.ext (xt 68) 0),
 xo 76 (.ext (xt 68) 1),
 xo 77 (.ext (xt 68) 2),
 xo 14 (.alloc [.int .i64 0, .int .i64 0, .slice none 0 0, .slice none 0 0]),
 xo 13 (.mv (xt 75)),
 xn (.stoc (xt 14) (xt 76) 4),
 xo 15 (.mv (xt 77))] [3,5,10,11,12,13,14,15,9998]
def c3_39 : XC := fun _ => .region [] [xo 78 (.mv (xt 13)),
 xo 9 (.mv (xt 78))] [3,5,9,10,11,12,14,15,9998]
def c3_40 : XC := fun _ => .region [] [xo 79 (.mv (xt 15)),
 xo 80 (.mv (xt 5)),
 xo 81 (.mv (xt 12)),
 xo 82 (.ia (xt 80) (xt 81) 1),
 xo 83 (.ld (xt 82) 1 false),
 xo 84 (.bbin .neq (xt 79) (xt 83)),
 xo 85 (.mv (xt 84)),
 ⟨(some 86), .mv (xt 15), (some (85, false)), []⟩,
 ⟨(some 87), .mv (xt 86), (some (85, false)), []⟩,
 ⟨(some 88), .mv (xt 11), (some (87, true)), []⟩,
 ⟨(some 89), .pick (xt 87) (xt 88) (xb false), (some (85, false)), []⟩,
 ⟨(some 90), .mv (xt 89), (some (85, false)), []⟩,
 ⟨(some 91), .ld (xt 14) 4 true, (some (90, true)), []⟩,
 ⟨(some 92), .ld (xt 10) 4 true, (some (90, true)), []⟩,
 ⟨(some 93), .call 14 [(xt 91), (xt 92)], (some (90, true)), []⟩,
 ⟨(some 94), .not (xt 93), (some (90, true)), []⟩,
 ⟨(some 95), .pick (xt 90) (xt 94) (xb false), (some (85, false)), []⟩,
 xo 96 (.pick (xt 85) (xb true) (xt 95))] [3,5,9,10,11,12,15,96,9998]
def c3_41 : XC := fun _ => .region [] [xo 2 (.mv (xb false))] [2,9998]
def c3_42 : XC := fun _ => .seq c3_41 (fun _ => .ret)
def c3_43 : XC := fun _ => .cond (xt 96) c3_42 (fun _ => .skip)
def c3_44 : XC := fun _ => .seq c3_40 c3_43
def c3_45 : XC := fun _ => .region [] [xo 98 (.mv (xt 9)),
 xo 99 (.call 15 [(xt 98)]),
 xo 97 (.mv (xt 99)),
 xo 100 (.ext (xt 97) 0),
 xo 101 (.ext (xt 97) 1),
 xo 16 (.alloc [.int .i64 0, .int .i64 0, .slice none 0 0, .slice none 0 0]),
 xn (.stoc (xt 16) (xt 100) 4),
 xo 17 (.mv (xt 101))] [3,5,9,10,11,12,15,16,17,9998]
def c3_46 : XC := fun _ => .region [] [xo 102 (.mv (xt 11)),
 xo 103 (.mv (xt 102)),
 ⟨(some 104), .mv (xt 17), (some (103, true)), []⟩,
 xo 105 (.pick (xt 103) (xt 104) (xb false)),
 xo 106 (.mv (xt 105)),
 ⟨(some 107), .ld (xt 16) 4 true, (some (106, true)), []⟩,
 ⟨(some 108), .ld (xt 10) 4 true, (some (106, true)), []⟩,
 ⟨(some 109), .call 14 [(xt 107), (xt 108)], (some (106, true)), []⟩,
 ⟨(some 110), .not (xt 109), (some (106, true)), []⟩,
 xo 111 (.pick (xt 106) (xt 110) (xb false)),
 xo 112 (.mv (xt 111)),
 ⟨(some 113), .mv (xt 15), (some (112, false)), []⟩,
 ⟨(some 114), .mv (xt 113), (some (112, false)), []⟩,
 ⟨(some 115), .mv (xt 17), (some (114, true)), []⟩,
 ⟨(some 116), .not (xt 115), (some (114, true)), []⟩,
 ⟨(some 117), .pick (xt 114) (xt 116) (xb false), (some (112, false)), []⟩,
 xo 118 (.pick (xt 112) (xb true) (xt 117))] [3,5,9,10,11,12,16,17,118,9998]
def c3_47 : XC := fun _ => .region [] [xo 2 (.mv (xb false))] [2,9998]
def c3_48 : XC := fun _ => .seq c3_47 (fun _ => .ret)
def c3_49 : XC := fun _ => .cond (xt 118) c3_48 (fun _ => .skip)
def c3_50 : XC := fun _ => .seq c3_46 c3_49
def c3_51 : XC := fun _ => .region [] [xo 119 (.mv (xt 17))] [3,5,9,10,11,12,16,119,9998]
def c3_52 : XC := fun _ => .region [] [xo 120 (.ld (xt 16) 4 true),
 xn (.stoc (xt 10) (xt 120) 4)] [3,5,9,10,12,9998]
def c3_53 : XC := fun _ => .region [] [xo 11 (.mv (xb true))] [3,5,9,10,11,12,9998]
def c3_54 : XC := fun _ => .seq c3_52 c3_53
def c3_55 : XC := fun _ => .cond (xt 119) c3_54 (fun _ => .skip)
def c3_56 : XC := fun _ => .seq c3_51 c3_55
def c3_57 : XC := fun _ => .seq c3_50 c3_56
def c3_58 : XC := fun _ => .seq c3_45 c3_57
def c3_59 : XC := fun _ => .seq c3_44 c3_58
def c3_60 : XC := fun _ => .seq c3_39 c3_59
def c3_61 : XC := fun _ => .seq c3_38 c3_60
def c3_62 : XC := fun _ => .block 3 c3_61
def c3_63 : XC := fun _ => .region [] [xo 66 (.mv (xt 12)),
 xo 67 (.bin .add (xt 66) (xi 1)),
 xo 12 (.mv (xt 67))] [3,5,9,10,11,12,9998]
def c3_64 : XC := fun _ => .seq c3_62 c3_63
def c3_65 : XC := fun _ => .seq c3_37 c3_64
def c3_66 : XC := fun _ => .loop c3_65
def c3_67 : XC := fun _ => .block 2 c3_66
def c3_68 : XC := fun _ => .seq c3_34 c3_67
def c3_69 : XC := fun _ => .region [] [xo 121 (.mv (xt 9)),
 xo 122 (.call 16 [(xt 121)]),
 xo 2 (.mv (xt 122))] [2,9998]
def c3_70 : XC := fun _ => .seq c3_69 (fun _ => .ret)
def c3_71 : XC := fun _ => .seq c3_68 c3_70
def c3_72 : XC := fun _ => .seq c3_33 c3_71
def c3_73 : XC := fun _ => .seq c3_32 c3_72
def c3_74 : XC := fun _ => .seq c3_31 c3_73
def c3_75 : XC := fun _ => .seq c3_30 c3_74
def c3_76 : XC := fun _ => .seq c3_14 c3_75
def c3_77 : XC := fun _ => .seq c3_9 c3_76
def c3_78 : XC := fun _ => .seq c3_8 c3_77
def c3_79 : XC := fun _ => .seq c3_7 c3_78
def c3_80 : XC := fun _ => .seq c3_6 c3_79
def c3_81 : XC := fun _ => .seq c3_1 c3_80
def m_laws_FnSynod : MCode := c3_81 ()
def h_laws_FnSynod : Hints := [(0, [0,9998], [], [], []), (1, [0,19,9998], [], [], []), (2, [2,9998], [], [], []), (3, [3,9998], [], [], []), (4, [3,4,5,9998], [], [], []), (5, [3,4,5,6,7,9998], [], [], []), (6, [3,4,5,6,43,9998], [], [], []), (7, [2,9998], [], [], []), (8, [3,4,5,6,8,9998], [], [], []), (9, [3,4,5,6,8,47,9998], [], [], []), (11, [3,4,5,6,8,59,9998], [[],[],[],[2000000],[],[],[0,1,2,3],[2000000,0,1,2,3]], [], []), (12, [2,9998], [], [], []), (10, [3,4,5,6,8,9998], [], [], []), (13, [3,5,9,9998], [], [], []), (14, [3,5,9,10,9998], [], [], []), (15, [3,5,9,10,11,9998], [], [], []), (16, [3,5,9,10,11,12,9998], [], [], []), (17, [3,5,9,10,11,12,65,9998], [], [], []), (19, [3,5,10,11,12,13,14,15,9998], [[],[],[],[],[2000000]], [], []), (20, [3,5,9,10,11,12,14,15,9998], [], [], []), (21, [3,5,9,10,11,12,15,96,9998], [], [], []), (22, [2,9998], [], [], []), (23, [3,5,9,10,11,12,15,16,17,9998], [], [], []), (24, [3,5,9,10,11,12,16,17,118,9998], [], [], []), (25, [2,9998], [], [], []), (26, [3,5,9,10,11,12,16,119,9998], [], [], []), (27, [3,5,9,10,12,9998], [], [], []), (28, [3,5,9,10,11,12,9998], [], [], []), (18, [3,5,9,10,11,12,9998], [], [], []), (29, [2,9998], [], [], [])]
def r_laws_FnSynod : List RV := [.t 2]
abbrev n_laws_FnSynod : Nat := 3
theorem k_laws_FnSynod : Known Pr muc n_laws_FnSynod m_laws_FnSynod r_laws_FnSynod Go.Proofs.Try.f3.ntmps := .of h_laws_FnSynod hm Go.Proofs.Try.func3
def c7_1 : XC := fun _ => .region [] [xo 2 (.mv (xb false))] [0]
def c7_2 : XC := fun _ => .region [] [xo 3 (.mv (xt 0)),
 xo 4 (.len false (xt 3)),
 xo 5 (.bin .gtr (xt 4) (xi 1048576)),
 xo 2 (.mv (xt 5))] [2]
def c7_3 : XC := fun _ => .seq c7_2 (fun _ => .ret)
def c7_4 : XC := fun _ => .seq c7_1 c7_3
def m_laws_big : MCode := c7_4 ()
def h_laws_big : Hints := [(0, [0], [], [], []), (1, [2], [], [], [])]
def r_laws_big : List RV := [.t 2]
abbrev n_laws_big : Nat := 7
theorem k_laws_big : Known Pr mu n_laws_big m_laws_big r_laws_big Go.Proofs.Try.f7.ntmps := .of h_laws_big hm Go.Proofs.Try.func7
def c8_1 : XC := fun _ => .region [] [xo 2 (.mv (.const (.slice none 0 0)))] [0]
def c8_2 : XC := fun _ => .region [] [xo 4 (.mv (xt 0)),
 xo 5 (.calln 49 [(xt 4)]),
 xo 3 (.mv (xt 5))] [3]
def c8_3 : XC := fun _ => .region [] [xo 6 (.mv (xt 3)),
 xo 7 (.mv (xt 3)),
 xo 8 (.callp 51 [(xt 7), (xi 3)]),
 xo 9 (.bin .add (xi 1) (xt 8)),
 xo 10 (.callp 50 [(xt 6), (xt 9)]),
 xo 2 (.mv (xt 10))] [2]
def c8_4 : XC := fun _ => .seq c8_3 (fun _ => .ret)
def c8_5 : XC := fun _ => .seq c8_2 c8_4
def c8_6 : XC := fun _ => .seq c8_1 c8_5
def m_spec_DrawRunProposals : MCode := c8_6 ()
def h_spec_DrawRunProposals : Hints := [(0, [0], [], [], []), (1, [3], [], [], []), (2, [2], [], [], [])]
def r_spec_DrawRunProposals : List RV := [.t 2]
abbrev n_spec_DrawRunProposals : Nat := 8
theorem k_spec_DrawRunProposals : Known Pr muc n_spec_DrawRunProposals m_spec_DrawRunProposals r_spec_DrawRunProposals Go.Proofs.Try.f8.ntmps := .of h_spec_DrawRunProposals hm Go.Proofs.Try.func8
def c9_1 : XC := fun _ => .region [] [xo 2 (.mv (.const (.slice none 0 0))),
 xo 3 (.mv (.const (.slice none 0 0)))] [0]
def c9_2 : XC := fun _ => .region [] [xo 9 (.call 12 []),
 xo 10 (.bsl 1 0 [.bool false] []),
 xo 4 (.mv (xt 9)),
 xo 5 (.mv (xt 10))] [0,4,5]
def c9_3 : XC := fun _ => .region [] [xo 11 (.mv (xt 0)),
 xo 12 (.mv (xt 0)),
 xo 13 (.len false (xt 12)),
 xo 14 (.mx false (xt 13) (xi 20)),
 xo 15 (.slc false (xt 11) none (some (xt 14)) none 7),
 xo 16 (.len false (xt 15)),
 xo 17 (.mv (xi 0))] [4,5,15,16,17]
def c9_4 : XC := fun _ => .region [] [xo 18 (.bin .lss (xt 17) (xt 16))] [4,5,15,16,17,18]
def c9_5 : XC := fun _ => .cond (xt 18) (fun _ => .skip) (fun _ => .exit 0)
def c9_6 : XC := fun _ => .region [] [xo 19 (.ia (xt 15) (xt 17) 7),
 xo 20 (.ld (xt 19) 7 true),
 xo 7 (.alloc [.int .i64 0, .slice none 0 0, .slice none 0 0, .int .i64 0, .int .i64 0, .slice none 0 0, .slice none 0 0]),
 xn (.sto (xt 7) (xt 20) 7)] [4,5,7,15,16,17]
def c9_7 : XC := fun _ => .region [] [xo 8 (.mv (xb false))] [4,5,7,15,16,17]
def c9_8 : XC := fun _ => .region [] [xo 22 (.mv (xt 4)),
 xo 23 (.ld (xt 7) 7 true),
 xo 24 (.call 13 [(xt 22), (xt 23)]),
 xo 21 (.mv (xt 24)),
 xo 25 (.ext (xt 21) 0),
 xo 26 (.ext (xt 21) 1),
 xo 27 (.ext (xt 21) 2),
 xo 4 (.mv (xt 25)),
 xo 8 (.mv (xt 27))] [4,5,8,15,16,17]
def c9_9 : XC := fun _ => .region [] [xo 28 (.mv (xt 5)),
 xo 29 (.mv (xt 8)),
 xo 30 (.bsl 1 1 [.bool false] [(0, (xt 29))]),
 xo 31 (.app (xt 28) (xt 30) 1 1),
 xo 5 (.mv (xt 31))] [4,5,15,16,17]
def c9_10 : XC := fun _ => .seq c9_8 c9_9
def c9_11 : XC := fun _ => .seq c9_7 c9_10
def c9_12 : XC := fun _ => .seq c9_6 c9_11
def c9_13 : XC := fun _ => .block 1 c9_12
def c9_14 : XC := fun _ => .region [] [xo 32 (.bin .add (xt 17) (xi 1)),
 xo 17 (.mv (xt 32))] [4,5,15,16,17]
def c9_15 : XC := fun _ => .seq c9_13 c9_14
def c9_16 : XC := fun _ => .seq c9_5 c9_15
def c9_17 : XC := fun _ => .seq c9_4 c9_16
def c9_18 : XC := fun _ => .loop c9_17
def c9_19 : XC := fun _ => .block 0 c9_18
def c9_20 : XC := fun _ => .seq c9_3 c9_19
def c9_21 : XC := fun _ => .region [] [xo 33 (.mv (xt 4)),
 xo 34 (.mv (xt 5)),
 xo 2 (.mv (xt 33)),
 xo 3 (.mv (xt 34))] [2,3]
def c9_22 : XC := fun _ => .seq c9_21 (fun _ => .ret)
def c9_23 : XC := fun _ => .seq c9_20 c9_22
def c9_24 : XC := fun _ => .seq c9_2 c9_23
def c9_25 : XC := fun _ => .seq c9_1 c9_24
def m_impl_RunProposals : MCode := c9_25 ()
def h_impl_RunProposals : Hints := [(0, [0], [], [], []), (1, [0,4,5], [], [], []), (2, [4,5,15,16,17], [], [], []), (3, [4,5,15,16,17,18], [], [], []), (4, [4,5,7,15,16,17], [], [], []), (5, [4,5,7,15,16,17], [], [], []), (6, [4,5,8,15,16,17], [], [], []), (7, [4,5,15,16,17], [], [], []), (8, [4,5,15,16,17], [], [], []), (9, [2,3], [], [], [])]
def r_impl_RunProposals : List RV := [.t 2, .t 3]
abbrev n_impl_RunProposals : Nat := 9
theorem k_impl_RunProposals : Known Pr mu n_impl_RunProposals m_impl_RunProposals r_impl_RunProposals Go.Proofs.Try.f9.ntmps := .of h_impl_RunProposals hm Go.Proofs.Try.func9
def c10_1 : XC := fun _ => .region [] [xo 2 (.mv (.const (.slice none 0 0))),
 xo 3 (.mv (.const (.slice none 0 0)))] [0]
def c10_2 : XC := fun _ => .region [] [xo 10 (.call 52 []),
 xo 4 (.mv (xt 10))] [0,4]
def c10_3 : XC := fun _ => .region [] [xo 11 (.bsl 1 0 [.bool false] []),
 xo 5 (.mv (xt 11))] [0,4,5]
def c10_4 : XC := fun _ => .region [] [xo 6 (.mv (xi 0))] [0,4,5,6]
def c10_5 : XC := fun _ => .region [] [xo 12 (.mv (xt 6)),
 xo 13 (.mv (xt 0)),
 xo 14 (.len false (xt 13)),
 xo 15 (.bin .lss (xt 12) (xt 14)),
 xo 16 (.mv (xt 15)),
 ⟨(some 17), .mv (xt 6), (some (16, true)), []⟩,
 ⟨(some 18), .bin .lss (xt 17) (xi 20), (some (16, true)), []⟩,
 xo 19 (.pick (xt 16) (xt 18) (xb false))] [0,4,5,6,19]
def c10_6 : XC := fun _ => .cond (xt 19) (fun _ => .skip) (fun _ => .exit 0)
def c10_7 : XC := fun _ => .seq c10_5 c10_6
def c10_8 : XC := fun _ => .region [] [xo 23 (.mv (xt 4)),
 xo 24 (.mv (xt 0)),
 xo 25 (.mv (xt 6)),
 xo 26 (.ia (xt 24) (xt 25) 7),
 xo 27 (.ld (xt 26) 7 true),
 xo 28 (.call 53 [(xt 23), (xt 27)]),
 xo 22 (.mv (xt 28)),
 xo 29 (.ext (xt 22) 0),
 xo 30 (.ext (xt 22) 1),
 xo 31 (.ext (xt 22) 2),
 xo 8 (.alloc [.int .i64 0, .int .i64 0, .slice none 0 0, .slice none 0 0]),
 xo 7 (.mv (xt 29)),
 xn (.sto (xt 8) (xt 30) 4),
 xo 9 (.mv (xt 31))] [0,5,6,7,9]
def c10_9 : XC := fun _ => .region [] [xo 32 (.mv (xt 7)),
 xo 4 (.mv (xt 32))] [0,4,5,6,9]
def c10_10 : XC := fun _ => .region [] [xo 33 (.mv (xt 5)),
 xo 34 (.mv (xt 9)),
 xo 35 (.bsl 1 1 [.bool false] [(0, (xt 34))]),
 xo 36 (.app (xt 33) (xt 35) 1 1),
 xo 5 (.mv (xt 36))] [0,4,5,6]
def c10_11 : XC := fun _ => .seq c10_9 c10_10
def c10_12 : XC := fun _ => .seq c10_8 c10_11
def c10_13 : XC := fun _ => .block 1 c10_12
def c10_14 : XC := fun _ => .region [] [xo 20 (.mv (xt 6)),
 xo 21 (.bin .add (xt 20) (xi 1)),
 xo 6 (.mv (xt 21))] [0,4,5,6]
def c10_15 : XC := fun _ => .seq c10_13 c10_14
def c10_16 : XC := fun _ => .seq c10_7 c10_15
def c10_17 : XC := fun _ => .loop c10_16
def c10_18 : XC := fun _ => .block 0 c10_17
def c10_19 : XC := fun _ => .seq c10_4 c10_18
def c10_20 : XC := fun _ => .region [] [xo 37 (.mv (xt 4)),
 xo 38 (.mv (xt 5)),
 xo 2 (.mv (xt 37)),
 xo 3 (.mv (xt 38))] [2,3]
def c10_21 : XC := fun _ => .seq c10_20 (fun _ => .ret)
def c10_22 : XC := fun _ => .seq c10_19 c10_21
def c10_23 : XC := fun _ => .seq c10_3 c10_22
def c10_24 : XC := fun _ => .seq c10_2 c10_23
def c10_25 : XC := fun _ => .seq c10_1 c10_24
def m_spec_RunProposals : MCode := c10_25 ()
def h_spec_RunProposals : Hints := [(0, [0], [], [], []), (1, [0,4], [], [], []), (2, [0,4,5], [], [], []), (3, [0,4,5,6], [], [], []), (4, [0,4,5,6,19], [], [], []), (6, [0,5,6,7,9], [], [], []), (7, [0,4,5,6,9], [], [], []), (8, [0,4,5,6], [], [], []), (5, [0,4,5,6], [], [], []), (9, [2,3], [], [], [])]
def r_spec_RunProposals : List RV := [.t 2, .t 3]
abbrev n_spec_RunProposals : Nat := 10
theorem k_spec_RunProposals : Known Pr mu n_spec_RunProposals m_spec_RunProposals r_spec_RunProposals Go.Proofs.Try.f10.ntmps := .of h_spec_RunProposals hm Go.Proofs.Try.func10
def c11_1 : XC := fun _ => .region [] [xo 2 (.box (xt 0)),
 xo 3 (.box (xt 1)),
 xo 4 (.mv (xb false))] [2,3]
def c11_2 : XC := fun _ => .region [] [xo 5 (.fa (xt 2) 0),
 xo 6 (.ld (xt 5) 1 false),
 xo 7 (.fa (xt 3) 0),
 xo 8 (.ld (xt 7) 1 false),
 xo 9 (.bin .eql (xt 6) (xt 8)),
 xo 10 (.mv (xt 9)),
 ⟨(some 11), .fa (xt 2) 1, (some (10, true)), []⟩,
 ⟨(some 12), .ld (xt 11) 1 false, (some (10, true)), []⟩,
 ⟨(some 13), .fa (xt 3) 1, (some (10, true)), []⟩,
 ⟨(some 14), .ld (xt 13) 1 false, (some (10, true)), []⟩,
 ⟨(some 15), .bin .eql (xt 12) (xt 14), (some (10, true)), []⟩,
 xo 16 (.pick (xt 10) (xt 15) (xb false)),
 xo 17 (.mv (xt 16)),
 ⟨(some 18), .fa (xt 2) 2, (some (17, true)), []⟩,
 ⟨(some 19), .ld (xt 18) 4 true, (some (17, true)), []⟩,
 ⟨(some 20), .fa (xt 3) 2, (some (17, true)), []⟩,
 ⟨(some 21), .ld (xt 20) 4 true, (some (17, true)), []⟩,
 ⟨(some 22), .call 14 [(xt 19), (xt 21)], (some (17, true)), []⟩,
 xo 23 (.pick (xt 17) (xt 22) (xb false)),
 xo 4 (.mv (xt 23))] [4]
def c11_3 : XC := fun _ => .seq c11_2 (fun _ => .ret)
def c11_4 : XC := fun _ => .seq c11_1 c11_3
def m_impl_EqualAcceptors : MCode := c11_4 ()
def h_impl_EqualAcceptors : Hints := [(0, [2,3], [], [], []), (1, [4], [], [], [])]
def r_impl_EqualAcceptors : List RV := [.t 4]
abbrev n_impl_EqualAcceptors : Nat := 11
theorem k_impl_EqualAcceptors : Known Pr mu n_impl_EqualAcceptors m_impl_EqualAcceptors r_impl_EqualAcceptors Go.Proofs.Try.f11.ntmps := .of h_impl_EqualAcceptors hm Go.Proofs.Try.func11
def c12_1 : XC := fun _ => .region [] [xo 0 (.mv (.const (.slice none 0 0)))] []
def c12_2 : XC := fun _ => .region [] [xo 1 (.mks 6 80 [.int .i64 0, .int .i64 0, .int .i64 0, .int .i64 0, .slice none 0 0, .slice none 0 0] (xi 3) (xi 3)),
 xo 0 (.mv (xt 1))] [0]
def c12_3 : XC := fun _ => .seq c12_2 (fun _ => .ret)
def c12_4 : XC := fun _ => .seq c12_1 c12_3
def m_impl_NewAcceptors : MCode := c12_4 ()
def h_impl_NewAcceptors : Hints := [(0, [], [], [], []), (1, [0], [], [], [])]
def r_impl_NewAcceptors : List RV := [.t 0]
abbrev n_impl_NewAcceptors : Nat := 12
theorem k_impl_NewAcceptors : Known Pr mu n_impl_NewAcceptors m_impl_NewAcceptors r_impl_NewAcceptors Go.Proofs.Try.f12.ntmps := .of h_impl_NewAcceptors hm Go.Proofs.Try.func12
def c13_1 : XC := fun _ => .region [] [xo 3 (.box (xt 1)),
 xo 4 (.mv (.const (.slice none 0 0))),
 xo 5 (.alloc [.int .i64 0, .int .i64 0, .slice none 0 0, .slice none 0 0]),
 xo 6 (.mv (xb false))] [0,3,5]
def c13_2 : XC := fun _ => .region [] [xo 20 (.mv (xt 0)),
 xo 21 (.call 54 [(xt 20)]),
 xo 7 (.mv (xt 21))] [0,3,5,7]
def c13_3 : XC := fun _ => .region [] [xo 22 (.mv (xt 0)),
 xo 23 (.call 16 [(xt 22)]),
 xo 24 (.not (xt 23)),
 xo 25 (.mv (xt 24)),
 ⟨(some 26), .fa (xt 3) 3, (some (25, false)), []⟩,
 ⟨(some 27), .ld (xt 26) 4 true, (some (25, false)), []⟩,
 ⟨(some 28), .call 31 [(xt 27)], (some (25, false)), []⟩,
 ⟨(some 29), .not (xt 28), (some (25, false)), []⟩,
 xo 30 (.pick (xt 25) (xb true) (xt 29)),
 xo 31 (.mv (xt 30)),
 ⟨(some 32), .fa (xt 3) 0, (some (31, false)), []⟩,
 ⟨(some 33), .ld (xt 32) 1 false, (some (31, false)), []⟩,
 ⟨(some 34), .call 55 [(xt 33), (xi 1), (xi 99)], (some (31, false)), []⟩,
 ⟨(some 35), .not (xt 34), (some (31, false)), []⟩,
 xo 36 (.pick (xt 31) (xb true) (xt 35))] [0,3,5,7,36]
def c13_4 : XC := fun _ => .region [] [xo 37 (.mv (xt 7)),
 xo 38 (.bld [.int .i64 0, .int .i64 0, .slice none 0 0, .slice none 0 0] []),
 xo 4 (.mv (xt 37)),
 xn (.stoc (xt 5) (xt 38) 4),
 xo 6 (.mv (xb false))] [4,5,6]
def c13_5 : XC := fun _ => .seq c13_4 (fun _ => .ret)
def c13_6 : XC := fun _ => .cond (xt 36) c13_5 (fun _ => .skip)
def c13_7 : XC := fun _ => .seq c13_3 c13_6
def c13_8 : XC := fun _ => .region [] [xo 8 (.mv (xi 0)),
 xo 9 (.mv (xi 0))] [0,3,5,7,8,9]
def c13_9 : XC := fun _ => .region [] [xo 39 (.fa (xt 3) 3),
 xo 40 (.ld (xt 39) 4 true),
 xo 11 (.alloc [.int .i64 0, .int .i64 0, .slice none 0 0, .slice none 0 0]),
 xo 10 (.mv (xi 0)),
 xn (.stoc (xt 11) (xt 40) 4)] [0,3,5,7,8,9,10,11]
def c13_10 : XC := fun _ => .region [] [xo 41 (.mv (xt 0)),
 xo 42 (.len false (xt 41)),
 xo 43 (.mv (xi 0))] [3,5,7,8,9,10,11,41,42,43]
def c13_11 : XC := fun _ => .region [] [xo 44 (.bin .lss (xt 43) (xt 42))] [3,5,7,8,9,10,11,41,42,43,44]
def c13_12 : XC := fun _ => .cond (xt 44) (fun _ => .skip) (fun _ => .exit 0)
def c13_13 : XC := fun _ => .region [] [xo 45 (.mv (xt 43)),
 xo 46 (.ia (xt 41) (xt 43) 6),
 xo 47 (.ld (xt 46) 6 true),
 xo 13 (.alloc [.int .i64 0, .int .i64 0, .int .i64 0, .int .i64 0, .slice none 0 0, .slice none 0 0]),
 xo 12 (.mv (xt 45)),
 xn (.stoc (xt 13) (xt 47) 6)] [3,5,7,8,9,10,11,12,13,41,42,43]
def c13_14 : XC := fun _ => .region [] [xo 49 (.ld (xt 13) 6 true),
 xo 50 (.fa (xt 3) 0),
 xo 51 (.ld (xt 50) 1 false),
 xo 52 (.call 18 [(xt 49), (xt 51)]),
 xo 48 (.mv (xt 52)),
 xo 53 (.ext (xt 48) 0),
 xo 54 (.ext (xt 48) 1),
 xo 14 (.alloc [.int .i64 0, .int .i64 0, .int .i64 0, .int .i64 0, .slice none 0 0, .slice none 0 0]),
 xn (.stoc (xt 14) (xt 53) 6),
 xo 15 (.mv (xt 54))] [3,5,7,8,9,10,11,12,13,14,15,41,42,43]
def c13_15 : XC := fun _ => .region [] [xo 55 (.mv (xt 15)),
 xo 56 (.mv (xt 55)),
 ⟨(some 57), .fa (xt 3) 1, (some (56, true)), []⟩,
 ⟨(some 58), .ld (xt 57) 1 false, (some (56, true)), []⟩,
 ⟨(some 59), .mv (xt 12), (some (56, true)), []⟩,
 ⟨(some 60), .call 56 [(xt 58), (xt 59)], (some (56, true)), []⟩,
 xo 61 (.pick (xt 56) (xt 60) (xb false))] [3,5,7,8,9,10,11,12,13,14,41,42,43,61]
def c13_16 : XC := fun _ => .region [] [xo 62 (.mv (xt 7)),
 xo 63 (.mv (xt 12)),
 xo 64 (.ld (xt 14) 6 true),
 xo 65 (.ia (xt 62) (xt 63) 6),
 xn (.stoc (xt 65) (xt 64) 6)] [3,5,7,8,9,10,11,13,41,42,43]
def c13_17 : XC := fun _ => .region [] [xo 66 (.mv (xt 8)),
 xo 67 (.bin .add (xt 66) (xi 1)),
 xo 8 (.mv (xt 67))] [3,5,7,8,9,10,11,13,41,42,43]
def c13_18 : XC := fun _ => .region [] [xo 68 (.fa (xt 13) 1),
 xo 69 (.ld (xt 68) 1 false),
 xo 70 (.mv (xt 10)),
 xo 71 (.bin .gtr (xt 69) (xt 70))] [3,5,7,8,9,10,11,13,41,42,43,71]
def c13_19 : XC := fun _ => .region [] [xo 72 (.fa (xt 13) 1),
 xo 73 (.ld (xt 72) 1 false),
 ⟨(some 74), .fa (xt 13) 2, none, [0, 1]⟩,
 ⟨(some 75), .ld (xt 74) 4 true, none, [0, 1]⟩,
 xo 10 (.mv (xt 73)),
 xn (.stoc (xt 11) (xt 75) 4)] [3,5,7,8,9,10,11,41,42,43]
def c13_20 : XC := fun _ => .cond (xt 71) c13_19 (fun _ => .skip)
def c13_21 : XC := fun _ => .seq c13_18 c13_20
def c13_22 : XC := fun _ => .seq c13_17 c13_21
def c13_23 : XC := fun _ => .seq c13_16 c13_22
def c13_24 : XC := fun _ => .cond (xt 61) c13_23 (fun _ => .skip)
def c13_25 : XC := fun _ => .seq c13_15 c13_24
def c13_26 : XC := fun _ => .seq c13_14 c13_25
def c13_27 : XC := fun _ => .seq c13_13 c13_26
def c13_28 : XC := fun _ => .block 1 c13_27
def c13_29 : XC := fun _ => .region [] [xo 76 (.bin .add (xt 43) (xi 1)),
 xo 43 (.mv (xt 76))] [3,5,7,8,9,10,11,41,42,43]
def c13_30 : XC := fun _ => .seq c13_28 c13_29
def c13_31 : XC := fun _ => .seq c13_12 c13_30
def c13_32 : XC := fun _ => .seq c13_11 c13_31
def c13_33 : XC := fun _ => .loop c13_32
def c13_34 : XC := fun _ => .block 0 c13_33
def c13_35 : XC := fun _ => .seq c13_10 c13_34
def c13_36 : XC := fun _ => .region [] [xo 77 (.mv (xt 8)),
 xo 78 (.bin .mul (xi 2) (xt 77)),
 xo 79 (.bin .leq (xt 78) (xi 3))] [3,5,7,9,11,79]
def c13_37 : XC := fun _ => .region [] [xo 80 (.mv (xt 7)),
 xo 81 (.bld [.int .i64 0, .int .i64 0, .slice none 0 0, .slice none 0 0] []),
 xo 4 (.mv (xt 80)),
 xn (.stoc (xt 5) (xt 81) 4),
 xo 6 (.mv (xb false))] [4,5,6]
def c13_38 : XC := fun _ => .seq c13_37 (fun _ => .ret)
def c13_39 : XC := fun _ => .cond (xt 79) c13_38 (fun _ => .skip)
def c13_40 : XC := fun _ => .seq c13_36 c13_39
def c13_41 : XC := fun _ => .region [] [xo 82 (.mv (xt 7)),
 xo 83 (.len false (xt 82)),
 xo 84 (.mv (xi 0))] [3,5,7,9,11,82,83,84]
def c13_42 : XC := fun _ => .region [] [xo 85 (.bin .lss (xt 84) (xt 83))] [3,5,7,9,11,82,83,84,85]
def c13_43 : XC := fun _ => .cond (xt 85) (fun _ => .skip) (fun _ => .exit 2)
def c13_44 : XC := fun _ => .region [] [xo 86 (.mv (xt 84)),
 xo 87 (.ia (xt 82) (xt 84) 6),
 ⟨(some 88), .ldc (xt 87) 6 true, none, [2000000]⟩,
 xo 17 (.alloc [.int .i64 0, .int .i64 0, .int .i64 0, .int .i64 0, .slice none 0 0, .slice none 0 0]),
 xo 16 (.mv (xt 86)),
 xn (.stoc (xt 17) (xt 88) 6)] [3,5,7,9,11,16,17,82,83,84]
def c13_45 : XC := fun _ => .region [] [xo 90 (.ld (xt 17) 6 true),
 xo 91 (.fa (xt 3) 0),
 xo 92 (.ld (xt 91) 1 false),
 xo 93 (.ld (xt 11) 4 true),
 xo 94 (.call 21 [(xt 90), (xt 92), (xt 93)]),
 xo 89 (.mv (xt 94)),
 xo 95 (.ext (xt 89) 0),
 xo 96 (.ext (xt 89) 1),
 xo 18 (.alloc [.int .i64 0, .int .i64 0, .int .i64 0, .int .i64 0, .slice none 0 0, .slice none 0 0]),
 xn (.stoc (xt 18) (xt 95) 6),
 xo 19 (.mv (xt 96))] [3,5,7,9,11,16,18,19,82,83,84]
def c13_46 : XC := fun _ => .region [] [xo 97 (.mv (xt 19)),
 xo 98 (.mv (xt 97)),
 ⟨(some 99), .fa (xt 3) 2, (some (98, true)), []⟩,
 ⟨(some 100), .ld (xt 99) 1 false, (some (98, true)), []⟩,
 ⟨(some 101), .mv (xt 16), (some (98, true)), []⟩,
 ⟨(some 102), .call 56 [(xt 100), (xt 101)], (some (98, true)), []⟩,
 xo 103 (.pick (xt 98) (xt 102) (xb false))] [3,5,7,9,11,16,18,82,83,84,103]
def c13_47 : XC := fun _ => .region [] [xo 104 (.mv (xt 7)),
 xo 105 (.mv (xt 16)),
 xo 106 (.ld (xt 18) 6 true),
 xo 107 (.ia (xt 104) (xt 105) 6),
 xn (.stoc (xt 107) (xt 106) 6)] [3,5,7,9,11,82,83,84]
def c13_48 : XC := fun _ => .region [] [xo 108 (.mv (xt 9)),
 xo 109 (.bin .add (xt 108) (xi 1)),
 xo 9 (.mv (xt 109))] [3,5,7,9,11,82,83,84]
def c13_49 : XC := fun _ => .seq c13_47 c13_48
def c13_50 : XC := fun _ => .cond (xt 103) c13_49 (fun _ => .skip)
def c13_51 : XC := fun _ => .seq c13_46 c13_50
def c13_52 : XC := fun _ => .seq c13_45 c13_51
def c13_53 : XC := fun _ => .seq c13_44 c13_52
def c13_54 : XC := fun _ => .block 3 c13_53
def c13_55 : XC := fun _ => .region [] [xo 110 (.bin .add (xt 84) (xi 1)),
 xo 84 (.mv (xt 110))] [3,5,7,9,11,82,83,84]
def c13_56 : XC := fun _ => .seq c13_54 c13_55
def c13_57 : XC := fun _ => .seq c13_43 c13_56
def c13_58 : XC := fun _ => .seq c13_42 c13_57
def c13_59 : XC := fun _ => .loop c13_58
def c13_60 : XC := fun _ => .block 2 c13_59
def c13_61 : XC := fun _ => .seq c13_41 c13_60
def c13_62 : XC := fun _ => .region [] [xo 111 (.mv (xt 9)),
 xo 112 (.bin .mul (xi 2) (xt 111)),
 xo 113 (.bin .leq (xt 112) (xi 3))] [5,7,11,113]
def c13_63 : XC := fun _ => .region [] [xo 114 (.mv (xt 7)),
 xo 115 (.bld [.int .i64 0, .int .i64 0, .slice none 0 0, .slice none 0 0] []),
 xo 4 (.mv (xt 114)),
 xn (.stoc (xt 5) (xt 115) 4),
 xo 6 (.mv (xb false))] [4,5,6]
def c13_64 : XC := fun _ => .seq c13_63 (fun _ => .ret)
def c13_65 : XC := fun _ => .cond (xt 113) c13_64 (fun _ => .skip)
def c13_66 : XC := fun _ => .seq c13_62 c13_65
def c13_67 : XC := fun _ => .region [] [xo 116 (.mv (xt 7)),
 xo 117 (.ld (xt 11) 4 true),
 xo 118 (.call 57 [(xt 117)]),
 xo 4 (.mv (xt 116)),
 xn (.stoc (xt 5) (xt 118) 4),
 xo 6 (.mv (xb true))] [4,5,6]
def c13_68 : XC := fun _ => .seq c13_67 (fun _ => .ret)
def c13_69 : XC := fun _ => .seq c13_66 c13_68
def c13_70 : XC := fun _ => .seq c13_61 c13_69
def c13_71 : XC := fun _ => .seq c13_40 c13_70
def c13_72 : XC := fun _ => .seq c13_35 c13_71
def c13_73 : XC := fun _ => .seq c13_9 c13_72
def c13_74 : XC := fun _ => .seq c13_8 c13_73
def c13_75 : XC := fun _ => .seq c13_7 c13_74
def c13_76 : XC := fun _ => .seq c13_2 c13_75
def c13_77 : XC := fun _ => .seq c13_1 c13_76
def m_impl_RunProposal : MCode := c13_77 ()
def h_impl_RunProposal : Hints := [(0, [0,3,5], [], [], []), (1, [0,3,5,7], [], [], []), (2, [0,3,5,7,36], [], [], []), (3, [4,5,6], [], [], []), (4, [0,3,5,7,8,9], [], [], []), (5, [0,3,5,7,8,9,10,11], [], [], []), (6, [3,5,7,8,9,10,11,41,42,43], [], [], []), (7, [3,5,7,8,9,10,11,41,42,43,44], [], [], []), (8, [3,5,7,8,9,10,11,12,13,41,42,43], [], [], []), (9, [3,5,7,8,9,10,11,12,13,14,15,41,42,43], [], [], []), (10, [3,5,7,8,9,10,11,12,13,14,41,42,43,61], [], [], []), (11, [3,5,7,8,9,10,11,13,41,42,43], [], [], []), (12, [3,5,7,8,9,10,11,13,41,42,43], [], [], []), (13, [3,5,7,8,9,10,11,13,41,42,43,71], [], [], []), (14, [3,5,7,8,9,10,11,41,42,43], [[],[],[0,1],[0,1]], [], []), (15, [3,5,7,8,9,10,11,41,42,43], [], [], []), (16, [3,5,7,9,11,79], [], [], []), (17, [4,5,6], [], [], []), (18, [3,5,7,9,11,82,83,84], [], [], []), (19, [3,5,7,9,11,82,83,84,85], [], [], []), (20, [3,5,7,9,11,16,17,82,83,84], [[],[],[2000000]], [], []), (21, [3,5,7,9,11,16,18,19,82,83,84], [], [], []), (22, [3,5,7,9,11,16,18,82,83,84,103], [], [], []), (23, [3,5,7,9,11,82,83,84], [], [], []), (24, [3,5,7,9,11,82,83,84], [], [], []), (25, [3,5,7,9,11,82,83,84], [], [], []), (26, [5,7,11,113], [], [], []), (27, [4,5,6], [], [], []), (28, [4,5,6], [], [], [])]
def r_impl_RunProposal : List RV := [.t 4, .c 5 4 true, .t 6]
abbrev n_impl_RunProposal : Nat := 13
theorem k_impl_RunProposal : Known Pr muc n_impl_RunProposal m_impl_RunProposal r_impl_RunProposal Go.Proofs.Try.f13.ntmps := .of h_impl_RunProposal hm Go.Proofs.Try.func13
def c14_1 : XC := fun _ => .region [] [xo 2 (.box (xt 0)),
 xo 3 (.box (xt 1)),
 xo 4 (.mv (xb false))] [2,3]
def c14_2 : XC := fun _ => .region [] [xo 5 (.fa (xt 2) 0),
 xo 6 (.ld (xt 5) 1 false),
 xo 7 (.fa (xt 3) 0),
 xo 8 (.ld (xt 7) 1 false),
 xo 9 (.bin .eql (xt 6) (xt 8)),
 xo 10 (.mv (xt 9)),
 ⟨(some 11), .fa (xt 2) 1, (some (10, true)), []⟩,
 ⟨(some 12), .ld (xt 11) 1 false, (some (10, true)), []⟩,
 ⟨(some 13), .fa (xt 3) 1, (some (10, true)), []⟩,
 ⟨(some 14), .ld (xt 13) 1 false, (some (10, true)), []⟩,
 ⟨(some 15), .bin .eql (xt 12) (xt 14), (some (10, true)), []⟩,
 xo 16 (.pick (xt 10) (xt 15) (xb false)),
 xo 17 (.mv (xt 16)),
 ⟨(some 18), .fa (xt 2) 2, (some (17, true)), []⟩,
 ⟨(some 19), .ld (xt 18) 1 false, (some (17, true)), []⟩,
 ⟨(some 20), .fa (xt 3) 2, (some (17, true)), []⟩,
 ⟨(some 21), .ld (xt 20) 1 false, (some (17, true)), []⟩,
 ⟨(some 22), .call 58 [(xt 19), (xt 21)], (some (17, true)), []⟩,
 xo 23 (.pick (xt 17) (xt 22) (xb false)),
 xo 24 (.mv (xt 23)),
 ⟨(some 25), .fa (xt 2) 3, (some (24, true)), []⟩,
 ⟨(some 26), .ld (xt 25) 1 false, (some (24, true)), []⟩,
 ⟨(some 27), .fa (xt 3) 3, (some (24, true)), []⟩,
 ⟨(some 28), .ld (xt 27) 1 false, (some (24, true)), []⟩,
 ⟨(some 29), .call 58 [(xt 26), (xt 28)], (some (24, true)), []⟩,
 xo 30 (.pick (xt 24) (xt 29) (xb false)),
 xo 4 (.mv (xt 30))] [4]
def c14_3 : XC := fun _ => .seq c14_2 (fun _ => .ret)
def c14_4 : XC := fun _ => .seq c14_1 c14_3
def m_impl_EqualConfigs : MCode := c14_4 ()
def h_impl_EqualConfigs : Hints := [(0, [2,3], [], [], []), (1, [4], [], [], [])]
def r_impl_EqualConfigs : List RV := [.t 4]
abbrev n_impl_EqualConfigs : Nat := 14
theorem k_impl_EqualConfigs : Known Pr mu n_impl_EqualConfigs m_impl_EqualConfigs r_impl_EqualConfigs Go.Proofs.Try.f14.ntmps := .of h_impl_EqualConfigs hm Go.Proofs.Try.func14
def c15_1 : XC := fun _ => .region [] [xo 2 (.alloc [.int .i64 0, .int .i64 0, .slice none 0 0, .slice none 0 0]),
 xo 3 (.mv (xb false))] [0,2]
def c15_2 : XC := fun _ => .region [] [xo 9 (.mv (xt 0)),
 xo 10 (.call 16 [(xt 9)]),
 xo 11 (.not (xt 10))] [0,2,11]
def c15_3 : XC := fun _ => .region [] [xo 12 (.bld [.int .i64 0, .int .i64 0, .slice none 0 0, .slice none 0 0] []),
 xn (.sto (xt 2) (xt 12) 4),
 xo 3 (.mv (xb false))] [2,3]
def c15_4 : XC := fun _ => .seq c15_3 (fun _ => .ret)
def c15_5 : XC := fun _ => .cond (xt 11) c15_4 (fun _ => .skip)
def c15_6 : XC := fun _ => .seq c15_2 c15_5
def c15_7 : XC := fun _ => .region [] [xo 13 (.mv (xt 0)),
 xo 14 (.len false (xt 13)),
 xo 15 (.mv (xi 0))] [0,2,13,14,15]
def c15_8 : XC := fun _ => .region [] [xo 16 (.bin .lss (xt 15) (xt 14))] [0,2,13,14,15,16]
def c15_9 : XC := fun _ => .cond (xt 16) (fun _ => .skip) (fun _ => .exit 0)
def c15_10 : XC := fun _ => .region [] [xo 17 (.ia (xt 13) (xt 15) 6),
 xo 18 (.ld (xt 17) 6 true),
 xo 5 (.alloc [.int .i64 0, .int .i64 0, .int .i64 0, .int .i64 0, .slice none 0 0, .slice none 0 0]),
 xn (.sto (xt 5) (xt 18) 6)] [0,2,5,13,14,15]
def c15_11 : XC := fun _ => .region [] [xo 6 (.mv (xi 0))] [0,2,5,6,13,14,15]
def c15_12 : XC := fun _ => .region [] [xo 19 (.mv (xt 0)),
 xo 20 (.len false (xt 19)),
 xo 21 (.mv (xi 0))] [0,2,5,6,13,14,15,19,20,21]
def c15_13 : XC := fun _ => .region [] [xo 22 (.bin .lss (xt 21) (xt 20))] [0,2,5,6,13,14,15,19,20,21,22]
def c15_14 : XC := fun _ => .cond (xt 22) (fun _ => .skip) (fun _ => .exit 2)
def c15_15 : XC := fun _ => .region [] [xo 23 (.ia (xt 19) (xt 21) 6),
 xo 24 (.ld (xt 23) 6 true),
 xo 8 (.alloc [.int .i64 0, .int .i64 0, .int .i64 0, .int .i64 0, .slice none 0 0, .slice none 0 0]),
 xn (.sto (xt 8) (xt 24) 6)] [0,2,5,6,8,13,14,15,19,20,21]
def c15_16 : XC := fun _ => .region [] [xo 25 (.fa (xt 5) 1),
 xo 26 (.ld (xt 25) 1 false),
 xo 27 (.bin .gtr (xt 26) (xi 0)),
 xo 28 (.mv (xt 27)),
 ⟨(some 29), .fa (xt 5) 1, (some (28, true)), []⟩,
 ⟨(some 30), .ld (xt 29) 1 false, (some (28, true)), []⟩,
 ⟨(some 31), .fa (xt 8) 1, (some (28, true)), []⟩,
 ⟨(some 32), .ld (xt 31) 1 false, (some (28, true)), []⟩,
 ⟨(some 33), .bin .eql (xt 30) (xt 32), (some (28, true)), []⟩,
 xo 34 (.pick (xt 28) (xt 33) (xb false)),
 xo 35 (.mv (xt 34)),
 ⟨(some 36), .fa (xt 5) 2, (some (35, true)), []⟩,
 ⟨(some 37), .ld (xt 36) 4 true, (some (35, true)), []⟩,
 ⟨(some 38), .fa (xt 8) 2, (some (35, true)), []⟩,
 ⟨(some 39), .ld (xt 38) 4 true, (some (35, true)), []⟩,
 ⟨(some 40), .call 14 [(xt 37), (xt 39)], (some (35, true)), []⟩,
 xo 41 (.pick (xt 35) (xt 40) (xb false))] [0,2,5,6,13,14,15,19,20,21,41]
def c15_17 : XC := fun _ => .region [] [xo 42 (.mv (xt 6)),
 xo 43 (.bin .add (xt 42) (xi 1)),
 xo 6 (.mv (xt 43))] [0,2,5,6,13,14,15,19,20,21]
def c15_18 : XC := fun _ => .cond (xt 41) c15_17 (fun _ => .skip)
def c15_19 : XC := fun _ => .seq c15_16 c15_18
def c15_20 : XC := fun _ => .seq c15_15 c15_19
def c15_21 : XC := fun _ => .block 3 c15_20
def c15_22 : XC := fun _ => .region [] [xo 44 (.bin .add (xt 21) (xi 1)),
 xo 21 (.mv (xt 44))] [0,2,5,6,13,14,15,19,20,21]
def c15_23 : XC := fun _ => .seq c15_21 c15_22
def c15_24 : XC := fun _ => .seq c15_14 c15_23
def c15_25 : XC := fun _ => .seq c15_13 c15_24
def c15_26 : XC := fun _ => .loop c15_25
def c15_27 : XC := fun _ => .block 2 c15_26
def c15_28 : XC := fun _ => .seq c15_12 c15_27
def c15_29 : XC := fun _ => .region [] [xo 45 (.mv (xt 6)),
 xo 46 (.bin .mul (xi 2) (xt 45)),
 xo 47 (.bin .gtr (xt 46) (xi 3))] [0,2,5,13,14,15,47]
def c15_30 : XC := fun _ => .region [] [xo 48 (.fa (xt 5) 2),
 xo 49 (.ld (xt 48) 4 true),
 xo 50 (.call 57 [(xt 49)]),
 xn (.sto (xt 2) (xt 50) 4),
 xo 3 (.mv (xb true))] [2,3]
def c15_31 : XC := fun _ => .seq c15_30 (fun _ => .ret)
def c15_32 : XC := fun _ => .cond (xt 47) c15_31 (fun _ => .skip)
def c15_33 : XC := fun _ => .seq c15_29 c15_32
def c15_34 : XC := fun _ => .seq c15_28 c15_33
def c15_35 : XC := fun _ => .seq c15_11 c15_34
def c15_36 : XC := fun _ => .seq c15_10 c15_35
def c15_37 : XC := fun _ => .block 1 c15_36
def c15_38 : XC := fun _ => .region [] [xo 51 (.bin .add (xt 15) (xi 1)),
 xo 15 (.mv (xt 51))] [0,2,13,14,15]
def c15_39 : XC := fun _ => .seq c15_37 c15_38
def c15_40 : XC := fun _ => .seq c15_9 c15_39
def c15_41 : XC := fun _ => .seq c15_8 c15_40
def c15_42 : XC := fun _ => .loop c15_41
def c15_43 : XC := fun _ => .block 0 c15_42
def c15_44 : XC := fun _ => .seq c15_7 c15_43
def c15_45 : XC := fun _ => .region [] [xo 52 (.bld [.int .i64 0, .int .i64 0, .slice none 0 0, .slice none 0 0] []),
 xn (.sto (xt 2) (xt 52) 4),
 xo 3 (.mv (xb false))] [2,3]
def c15_46 : XC := fun _ => .seq c15_45 (fun _ => .ret)
def c15_47 : XC := fun _ => .seq c15_44 c15_46
def c15_48 : XC := fun _ => .seq c15_6 c15_47
def c15_49 : XC := fun _ => .seq c15_1 c15_48
def m_impl_ChosenValue : MCode := c15_49 ()
def h_impl_ChosenValue : Hints := [(0, [0,2], [], [], []), (1, [0,2,11], [], [], []), (2, [2,3], [], [], []), (3, [0,2,13,14,15], [], [], []), (4, [0,2,13,14,15,16], [], [], []), (5, [0,2,5,13,14,15], [], [], []), (6, [0,2,5,6,13,14,15], [], [], []), (7, [0,2,5,6,13,14,15,19,20,21], [], [], []), (8, [0,2,5,6,13,14,15,19,20,21,22], [], [], []), (9, [0,2,5,6,8,13,14,15,19,20,21], [], [], []), (10, [0,2,5,6,13,14,15,19,20,21,41], [], [], []), (11, [0,2,5,6,13,14,15,19,20,21], [], [], []), (12, [0,2,5,6,13,14,15,19,20,21], [], [], []), (13, [0,2,5,13,14,15,47], [], [], []), (14, [2,3], [], [], []), (15, [0,2,13,14,15], [], [], []), (16, [2,3], [], [], [])]
def r_impl_ChosenValue : List RV := [.c 2 4 true, .t 3]
abbrev n_impl_ChosenValue : Nat := 15
theorem k_impl_ChosenValue : Known Pr mu n_impl_ChosenValue m_impl_ChosenValue r_impl_ChosenValue Go.Proofs.Try.f15.ntmps := .of h_impl_ChosenValue hm Go.Proofs.Try.func15
def c16_1 : XC := fun _ => .region [] [xo 2 (.mv (xb false))] [0]
def c16_2 : XC := fun _ => .region [] [xo 3 (.mv (xt 0)),
 xo 4 (.len false (xt 3)),
 xo 5 (.bin .eql (xt 4) (xi 3)),
 xo 6 (.mv (xt 5)),
 ⟨(some 7), .mv (xt 0), (some (6, true)), []⟩,
 ⟨(some 8), .call 59 [(xt 7), (.func 60)], (some (6, true)), []⟩,
 ⟨(some 9), .not (xt 8), (some (6, true)), []⟩,
 xo 10 (.pick (xt 6) (xt 9) (xb false)),
 xo 2 (.mv (xt 10))] [2]
def c16_3 : XC := fun _ => .seq c16_2 (fun _ => .ret)
def c16_4 : XC := fun _ => .seq c16_1 c16_3
def m_impl_AreAcceptors : MCode := c16_4 ()
def h_impl_AreAcceptors : Hints := [(0, [0], [], [], []), (1, [2], [], [], [])]
def r_impl_AreAcceptors : List RV := [.t 2]
abbrev n_impl_AreAcceptors : Nat := 16
theorem k_impl_AreAcceptors : Known Pr mu n_impl_AreAcceptors m_impl_AreAcceptors r_impl_AreAcceptors Go.Proofs.Try.f16.ntmps := .of h_impl_AreAcceptors hm Go.Proofs.Try.func16
def c18_1 : XC := fun _ => .region [] [xo 2 (.box (xt 0)),
 xo 4 (.alloc [.int .i64 0, .int .i64 0, .int .i64 0, .int .i64 0, .slice none 0 0, .slice none 0 0]),
 xo 5 (.mv (xb false))] [1,2,4]
def c18_2 : XC := fun _ => .region [] [xo 7 (.ld (xt 2) 6 true),
 xo 8 (.call 63 [(xt 7)]),
 xo 6 (.alloc [.int .i64 0, .int .i64 0, .int .i64 0, .int .i64 0, .slice none 0 0, .slice none 0 0]),
 xn (.sto (xt 6) (xt 8) 6)] [1,2,4,6]
def c18_3 : XC := fun _ => .region [] [xo 9 (.ld (xt 2) 6 true),
 xo 10 (.call 23 [(xt 9)]),
 xo 11 (.not (xt 10)),
 xo 12 (.mv (xt 11)),
 ⟨(some 13), .mv (xt 1), (some (12, false)), []⟩,
 ⟨(some 14), .call 55 [(xt 13), (xi 1), (xi 99)], (some (12, false)), []⟩,
 ⟨(some 15), .not (xt 14), (some (12, false)), []⟩,
 xo 16 (.pick (xt 12) (xb true) (xt 15)),
 xo 17 (.mv (xt 16)),
 ⟨(some 18), .mv (xt 1), (some (17, false)), []⟩,
 ⟨(some 19), .fa (xt 2) 0, (some (17, false)), []⟩,
 ⟨(some 20), .ld (xt 19) 1 false, (some (17, false)), []⟩,
 ⟨(some 21), .bin .leq (xt 18) (xt 20), (some (17, false)), []⟩,
 xo 22 (.pick (xt 17) (xb true) (xt 21))] [1,4,6,22]
def c18_4 : XC := fun _ => .region [] [xo 23 (.ld (xt 6) 6 true),
 xn (.sto (xt 4) (xt 23) 6),
 xo 5 (.mv (xb false))] [4,5]
def c18_5 : XC := fun _ => .seq c18_4 (fun _ => .ret)
def c18_6 : XC := fun _ => .cond (xt 22) c18_5 (fun _ => .skip)
def c18_7 : XC := fun _ => .seq c18_3 c18_6
def c18_8 : XC := fun _ => .region [] [xo 24 (.mv (xt 1)),
 xo 25 (.fa (xt 6) 0),
 xn (.sto (xt 25) (xt 24) 1)] [4,6]
def c18_9 : XC := fun _ => .region [] [xo 26 (.ld (xt 6) 6 true),
 xn (.sto (xt 4) (xt 26) 6),
 xo 5 (.mv (xb true))] [4,5]
def c18_10 : XC := fun _ => .seq c18_9 (fun _ => .ret)
def c18_11 : XC := fun _ => .seq c18_8 c18_10
def c18_12 : XC := fun _ => .seq c18_7 c18_11
def c18_13 : XC := fun _ => .seq c18_2 c18_12
def c18_14 : XC := fun _ => .seq c18_1 c18_13
def m_impl_Prepare : MCode := c18_14 ()
def h_impl_Prepare : Hints := [(0, [1,2,4], [], [], []), (1, [1,2,4,6], [], [], []), (2, [1,4,6,22], [], [], []), (3, [4,5], [], [], []), (4, [4,6], [], [], []), (5, [4,5], [], [], [])]
def r_impl_Prepare : List RV := [.c 4 6 true, .t 5]
abbrev n_impl_Prepare : Nat := 18
theorem k_impl_Prepare : Known Pr mu n_impl_Prepare m_impl_Prepare r_impl_Prepare Go.Proofs.Try.f18.ntmps := .of h_impl_Prepare hm Go.Proofs.Try.func18
def c19_1 : XC := fun _ => .region [] [xo 2 (.box (xt 0)),
 xo 4 (.alloc [.int .i64 0, .int .i64 0, .int .i64 0, .int .i64 0, .slice none 0 0, .slice none 0 0]),
 xo 5 (.mv (xb false))] [1,2,4]
def c19_2 : XC := fun _ => .region [] [xo 7 (.ld (xt 2) 6 true),
 xo 8 (.call 64 [(xt 7)]),
 xo 6 (.alloc [.int .i64 0, .int .i64 0, .int .i64 0, .int .i64 0, .slice none 0 0, .slice none 0 0]),
 xn (.sto (xt 6) (xt 8) 6)] [1,2,4,6]
def c19_3 : XC := fun _ => .region [] [xo 9 (.ld (xt 2) 6 true),
 xo 10 (.call 24 [(xt 9)]),
 xo 11 (.not (xt 10)),
 xo 12 (.mv (xt 11)),
 ⟨(some 13), .mv (xt 1), (some (12, false)), []⟩,
 ⟨(some 14), .call 65 [(xt 13), (xi 1), (xi 99)], (some (12, false)), []⟩,
 ⟨(some 15), .not (xt 14), (some (12, false)), []⟩,
 xo 16 (.pick (xt 12) (xb true) (xt 15)),
 xo 17 (.mv (xt 16)),
 ⟨(some 18), .mv (xt 1), (some (17, false)), []⟩,
 ⟨(some 19), .fa (xt 2) 0, (some (17, false)), []⟩,
 ⟨(some 20), .ld (xt 19) 1 false, (some (17, false)), []⟩,
 ⟨(some 21), .bin .leq (xt 18) (xt 20), (some (17, false)), []⟩,
 xo 22 (.pick (xt 17) (xb true) (xt 21))] [1,4,6,22]
def c19_4 : XC := fun _ => .region [] [xo 23 (.ld (xt 6) 6 true),
 xn (.sto (xt 4) (xt 23) 6),
 xo 5 (.mv (xb false))] [4,5]
def c19_5 : XC := fun _ => .seq c19_4 (fun _ => .ret)
def c19_6 : XC := fun _ => .cond (xt 22) c19_5 (fun _ => .skip)
def c19_7 : XC := fun _ => .seq c19_3 c19_6
def c19_8 : XC := fun _ => .region [] [xo 24 (.mv (xt 1)),
 xo 25 (.fa (xt 6) 0),
 xn (.sto (xt 25) (xt 24) 1)] [4,6]
def c19_9 : XC := fun _ => .region [] [xo 26 (.ld (xt 6) 6 true),
 xn (.sto (xt 4) (xt 26) 6),
 xo 5 (.mv (xb true))] [4,5]
def c19_10 : XC := fun _ => .seq c19_9 (fun _ => .ret)
def c19_11 : XC := fun _ => .seq c19_8 c19_10
def c19_12 : XC := fun _ => .seq c19_7 c19_11
def c19_13 : XC := fun _ => .seq c19_2 c19_12
def c19_14 : XC := fun _ => .seq c19_1 c19_13
def m_spec_Prepare : MCode := c19_14 ()
def h_spec_Prepare : Hints := [(0, [1,2,4], [], [], []), (1, [1,2,4,6], [], [], []), (2, [1,4,6,22], [], [], []), (3, [4,5], [], [], []), (4, [4,6], [], [], []), (5, [4,5], [], [], [])]
def r_spec_Prepare : List RV := [.c 4 6 true, .t 5]
abbrev n_spec_Prepare : Nat := 19
theorem k_spec_Prepare : Known Pr mu n_spec_Prepare m_spec_Prepare r_spec_Prepare Go.Proofs.Try.f19.ntmps := .of h_spec_Prepare hm Go.Proofs.Try.func19
def c21_1 : XC := fun _ => .region [] [xo 3 (.box (xt 0)),
 xo 5 (.box (xt 2)),
 xo 6 (.alloc [.int .i64 0, .int .i64 0, .int .i64 0, .int .i64 0, .slice none 0 0, .slice none 0 0]),
 xo 7 (.mv (xb false))] [1,3,5,6]
def c21_2 : XC := fun _ => .region [] [xo 8 (.ld (xt 3) 6 true),
 xo 9 (.call 23 [(xt 8)]),
 xo 10 (.not (xt 9)),
 xo 11 (.mv (xt 10)),
 ⟨(some 12), .ld (xt 5) 4 true, (some (11, false)), []⟩,
 ⟨(some 13), .call 31 [(xt 12)], (some (11, false)), []⟩,
 ⟨(some 14), .not (xt 13), (some (11, false)), []⟩,
 xo 15 (.pick (xt 11) (xb true) (xt 14)),
 xo 16 (.mv (xt 15)),
 ⟨(some 17), .mv (xt 1), (some (16, false)), []⟩,
 ⟨(some 18), .call 55 [(xt 17), (xi 1), (xi 99)], (some (16, false)), []⟩,
 ⟨(some 19), .not (xt 18), (some (16, false)), []⟩,
 xo 20 (.pick (xt 16) (xb true) (xt 19)),
 xo 21 (.mv (xt 20)),
 ⟨(some 22), .mv (xt 1), (some (21, false)), []⟩,
 ⟨(some 23), .fa (xt 3) 0, (some (21, false)), []⟩,
 ⟨(some 24), .ld (xt 23) 1 false, (some (21, false)), []⟩,
 ⟨(some 25), .bin .lss (xt 22) (xt 24), (some (21, false)), []⟩,
 xo 26 (.pick (xt 21) (xb true) (xt 25))] [1,3,5,6,26]
def c21_3 : XC := fun _ => .region [] [xo 27 (.ld (xt 3) 6 true),
 xo 28 (.call 63 [(xt 27)]),
 xn (.sto (xt 6) (xt 28) 6),
 xo 7 (.mv (xb false))] [6,7]
def c21_4 : XC := fun _ => .seq c21_3 (fun _ => .ret)
def c21_5 : XC := fun _ => .cond (xt 26) c21_4 (fun _ => .skip)
def c21_6 : XC := fun _ => .seq c21_2 c21_5
def c21_7 : XC := fun _ => .region [] [xo 29 (.mv (xt 1)),
 xo 30 (.mv (xt 1)),
 xo 31 (.ld (xt 5) 4 true),
 xo 32 (.call 57 [(xt 31)]),
 xo 33 (.bld [.int .i64 0, .int .i64 0, .int .i64 0, .int .i64 0, .slice none 0 0, .slice none 0 0] [(0, 1, (xt 29)), (1, 1, (xt 30)), (2, 4, (xt 32))]),
 xn (.sto (xt 6) (xt 33) 6),
 xo 7 (.mv (xb true))] [6,7]
def c21_8 : XC := fun _ => .seq c21_7 (fun _ => .ret)
def c21_9 : XC := fun _ => .seq c21_6 c21_8
def c21_10 : XC := fun _ => .seq c21_1 c21_9
def m_impl_Accept : MCode := c21_10 ()
def h_impl_Accept : Hints := [(0, [1,3,5,6], [], [], []), (1, [1,3,5,6,26], [], [], []), (2, [6,7], [], [], []), (3, [6,7], [], [], [])]
def r_impl_Accept : List RV := [.c 6 6 true, .t 7]
abbrev n_impl_Accept : Nat := 21
theorem k_impl_Accept : Known Pr mu n_impl_Accept m_impl_Accept r_impl_Accept Go.Proofs.Try.f21.ntmps := .of h_impl_Accept hm Go.Proofs.Try.func21
def c22_1 : XC := fun _ => .region [] [xo 3 (.box (xt 0)),
 xo 5 (.box (xt 2)),
 xo 6 (.alloc [.int .i64 0, .int .i64 0, .int .i64 0, .int .i64 0, .slice none 0 0, .slice none 0 0]),
 xo 7 (.mv (xb false))] [1,3,5,6]
def c22_2 : XC := fun _ => .region [] [xo 8 (.ld (xt 3) 6 true),
 xo 9 (.call 24 [(xt 8)]),
 xo 10 (.not (xt 9)),
 xo 11 (.mv (xt 10)),
 ⟨(some 12), .mv (xt 1), (some (11, false)), []⟩,
 ⟨(some 13), .call 65 [(xt 12), (xi 1), (xi 99)], (some (11, false)), []⟩,
 ⟨(some 14), .not (xt 13), (some (11, false)), []⟩,
 xo 15 (.pick (xt 11) (xb true) (xt 14)),
 xo 16 (.mv (xt 15)),
 ⟨(some 17), .ld (xt 5) 4 true, (some (16, false)), []⟩,
 ⟨(some 18), .call 32 [(xt 17)], (some (16, false)), []⟩,
 ⟨(some 19), .not (xt 18), (some (16, false)), []⟩,
 xo 20 (.pick (xt 16) (xb true) (xt 19)),
 xo 21 (.mv (xt 20)),
 ⟨(some 22), .mv (xt 1), (some (21, false)), []⟩,
 ⟨(some 23), .fa (xt 3) 0, (some (21, false)), []⟩,
 ⟨(some 24), .ld (xt 23) 1 false, (some (21, false)), []⟩,
 ⟨(some 25), .bin .lss (xt 22) (xt 24), (some (21, false)), []⟩,
 xo 26 (.pick (xt 21) (xb true) (xt 25))] [1,3,5,6,26]
def c22_3 : XC := fun _ => .region [] [xo 27 (.ld (xt 3) 6 true),
 xo 28 (.call 64 [(xt 27)]),
 xn (.sto (xt 6) (xt 28) 6),
 xo 7 (.mv (xb false))] [6,7]
def c22_4 : XC := fun _ => .seq c22_3 (fun _ => .ret)
def c22_5 : XC := fun _ => .cond (xt 26) c22_4 (fun _ => .skip)
def c22_6 : XC := fun _ => .seq c22_2 c22_5
def c22_7 : XC := fun _ => .region [] [xo 29 (.mv (xt 1)),
 xo 30 (.mv (xt 1)),
 xo 31 (.ld (xt 5) 4 true),
 xo 32 (.call 67 [(xt 31)]),
 xo 33 (.bld [.int .i64 0, .int .i64 0, .int .i64 0, .int .i64 0, .slice none 0 0, .slice none 0 0] [(0, 1, (xt 29)), (1, 1, (xt 30)), (2, 4, (xt 32))]),
 xn (.sto (xt 6) (xt 33) 6),
 xo 7 (.mv (xb true))] [6,7]
def c22_8 : XC := fun _ => .seq c22_7 (fun _ => .ret)
def c22_9 : XC := fun _ => .seq c22_6 c22_8
def c22_10 : XC := fun _ => .seq c22_1 c22_9
def m_spec_Accept : MCode := c22_10 ()
def h_spec_Accept : Hints := [(0, [1,3,5,6], [], [], []), (1, [1,3,5,6,26], [], [], []), (2, [6,7], [], [], []), (3, [6,7], [], [], [])]
def r_spec_Accept : List RV := [.c 6 6 true, .t 7]
abbrev n_spec_Accept : Nat := 22
theorem k_spec_Accept : Known Pr mu n_spec_Accept m_spec_Accept r_spec_Accept Go.Proofs.Try.f22.ntmps := .of h_spec_Accept hm Go.Proofs.Try.func22
def c23_1 : XC := fun _ => .region [] [xo 1 (.box (xt 0)),
 xo 2 (.mv (xb false))] [1]
def c23_2 : XC := fun _ => .region [] [xo 3 (.fa (xt 1) 0),
 xo 4 (.ld (xt 3) 1 false),
 xo 5 (.call 55 [(xt 4), (xi 0), (xi 99)]),
 xo 6 (.mv (xt 5)),
 ⟨(some 7), .fa (xt 1) 1, (some (6, true)), []⟩,
 ⟨(some 8), .ld (xt 7) 1 false, (some (6, true)), []⟩,
 ⟨(some 9), .fa (xt 1) 0, (some (6, true)), []⟩,
 ⟨(some 10), .ld (xt 9) 1 false, (some (6, true)), []⟩,
 ⟨(some 11), .call 55 [(xt 8), (xi 0), (xt 10)], (some (6, true)), []⟩,
 xo 12 (.pick (xt 6) (xt 11) (xb false)),
 xo 13 (.mv (xt 12)),
 ⟨(some 14), .fa (xt 1) 1, (some (13, true)), []⟩,
 ⟨(some 15), .ld (xt 14) 1 false, (some (13, true)), []⟩,
 ⟨(some 16), .bin .eql (xt 15) (xi 0), (some (13, true)), []⟩,
 ⟨(some 17), .mv (xt 16), (some (13, true)), []⟩,
 ⟨(some 18), .fa (xt 1) 2, (some (17, true)), []⟩,
 ⟨(some 19), .ld (xt 18) 4 true, (some (17, true)), []⟩,
 ⟨(some 20), .bld [.int .i64 0, .int .i64 0, .slice none 0 0, .slice none 0 0] [], (some (17, true)), []⟩,
 ⟨(some 21), .call 14 [(xt 19), (xt 20)], (some (17, true)), []⟩,
 ⟨(some 22), .pick (xt 17) (xt 21) (xb false), (some (13, true)), []⟩,
 ⟨(some 23), .mv (xt 22), (some (13, true)), []⟩,
 ⟨(some 24), .fa (xt 1) 1, (some (23, false)), []⟩,
 ⟨(some 25), .ld (xt 24) 1 false, (some (23, false)), []⟩,
 ⟨(some 26), .bin .gtr (xt 25) (xi 0), (some (23, false)), []⟩,
 ⟨(some 27), .mv (xt 26), (some (23, false)), []⟩,
 ⟨(some 28), .fa (xt 1) 2, (some (27, true)), []⟩,
 ⟨(some 29), .ld (xt 28) 4 true, (some (27, true)), []⟩,
 ⟨(some 30), .call 31 [(xt 29)], (some (27, true)), []⟩,
 ⟨(some 31), .pick (xt 27) (xt 30) (xb false), (some (23, false)), []⟩,
 ⟨(some 32), .pick (xt 23) (xb true) (xt 31), (some (13, true)), []⟩,
 xo 33 (.pick (xt 13) (xt 32) (xb false)),
 xo 2 (.mv (xt 33))] [2]
def c23_3 : XC := fun _ => .seq c23_2 (fun _ => .ret)
def c23_4 : XC := fun _ => .seq c23_1 c23_3
def m_impl_IsValidAcceptor : MCode := c23_4 ()
def h_impl_IsValidAcceptor : Hints := [(0, [1], [], [], []), (1, [2], [], [], [])]
def r_impl_IsValidAcceptor : List RV := [.t 2]
abbrev n_impl_IsValidAcceptor : Nat := 23
theorem k_impl_IsValidAcceptor : Known Pr mu n_impl_IsValidAcceptor m_impl_IsValidAcceptor r_impl_IsValidAcceptor Go.Proofs.Try.f23.ntmps := .of h_impl_IsValidAcceptor hm Go.Proofs.Try.func23
def c24_1 : XC := fun _ => .region [] [xo 1 (.box (xt 0)),
 xo 2 (.mv (xb false))] [1]
def c24_2 : XC := fun _ => .region [] [xo 3 (.fa (xt 1) 0),
 xo 4 (.ld (xt 3) 1 false),
 xo 5 (.call 65 [(xt 4), (xi 0), (xi 99)]),
 xo 6 (.not (xt 5)),
 xo 7 (.mv (xt 6)),
 ⟨(some 8), .fa (xt 1) 1, (some (7, false)), []⟩,
 ⟨(some 9), .ld (xt 8) 1 false, (some (7, false)), []⟩,
 ⟨(some 10), .fa (xt 1) 0, (some (7, false)), []⟩,
 ⟨(some 11), .ld (xt 10) 1 false, (some (7, false)), []⟩,
 ⟨(some 12), .call 65 [(xt 9), (xi 0), (xt 11)], (some (7, false)), []⟩,
 ⟨(some 13), .not (xt 12), (some (7, false)), []⟩,
 xo 14 (.pick (xt 7) (xb true) (xt 13))] [1,14]
def c24_3 : XC := fun _ => .region [] [xo 2 (.mv (xb false))] [2]
def c24_4 : XC := fun _ => .seq c24_3 (fun _ => .ret)
def c24_5 : XC := fun _ => .cond (xt 14) c24_4 (fun _ => .skip)
def c24_6 : XC := fun _ => .seq c24_2 c24_5
def c24_7 : XC := fun _ => .region [] [xo 15 (.fa (xt 1) 1),
 xo 16 (.ld (xt 15) 1 false),
 xo 17 (.bin .eql (xt 16) (xi 0))] [1,17]
def c24_8 : XC := fun _ => .region [] [xo 18 (.fa (xt 1) 2),
 xo 19 (.ld (xt 18) 4 true),
 xo 20 (.bld [.int .i64 0, .int .i64 0, .slice none 0 0, .slice none 0 0] []),
 xo 21 (.call 68 [(xt 19), (xt 20)]),
 xo 2 (.mv (xt 21))] [2]
def c24_9 : XC := fun _ => .seq c24_8 (fun _ => .ret)
def c24_10 : XC := fun _ => .cond (xt 17) c24_9 (fun _ => .skip)
def c24_11 : XC := fun _ => .seq c24_7 c24_10
def c24_12 : XC := fun _ => .region [] [xo 22 (.fa (xt 1) 2),
 xo 23 (.ld (xt 22) 4 true),
 xo 24 (.call 32 [(xt 23)]),
 xo 2 (.mv (xt 24))] [2]
def c24_13 : XC := fun _ => .seq c24_12 (fun _ => .ret)
def c24_14 : XC := fun _ => .seq c24_11 c24_13
def c24_15 : XC := fun _ => .seq c24_6 c24_14
def c24_16 : XC := fun _ => .seq c24_1 c24_15
def m_spec_IsValidAcceptor : MCode := c24_16 ()
def h_spec_IsValidAcceptor : Hints := [(0, [1], [], [], []), (1, [1,14], [], [], []), (2, [2], [], [], []), (3, [1,17], [], [], []), (4, [2], [], [], []), (5, [2], [], [], [])]
def r_spec_IsValidAcceptor : List RV := [.t 2]
abbrev n_spec_IsValidAcceptor : Nat := 24
theorem k_spec_IsValidAcceptor : Known Pr mu n_spec_IsValidAcceptor m_spec_IsValidAcceptor r_spec_IsValidAcceptor Go.Proofs.Try.f24.ntmps := .of h_spec_IsValidAcceptor hm Go.Proofs.Try.func24
def c31_1 : XC := fun _ => .region [] [xo 1 (.box (xt 0)),
 xo 2 (.mv (xb false))] [1]
def c31_2 : XC := fun _ => .region [] [xo 3 (.fa (xt 1) 0),
 xo 4 (.ld (xt 3) 1 false),
 xo 5 (.call 55 [(xt 4), (xi 1), (xi 20)]),
 xo 6 (.mv (xt 5)),
 ⟨(some 7), .fa (xt 1) 2, (some (6, true)), []⟩,
 ⟨(some 8), .ld (xt 7) 1 false, (some (6, true)), []⟩,
 ⟨(some 9), .call 72 [(xt 8)], (some (6, true)), []⟩,
 xo 10 (.pick (xt 6) (xt 9) (xb false)),
 xo 11 (.mv (xt 10)),
 ⟨(some 12), .fa (xt 1) 3, (some (11, true)), []⟩,
 ⟨(some 13), .ld (xt 12) 1 false, (some (11, true)), []⟩,
 ⟨(some 14), .call 72 [(xt 13)], (some (11, true)), []⟩,
 xo 15 (.pick (xt 11) (xt 14) (xb false)),
 xo 16 (.mv (xt 15)),
 ⟨(some 17), .fa (xt 1) 2, (some (16, true)), []⟩,
 ⟨(some 18), .ld (xt 17) 1 false, (some (16, true)), []⟩,
 ⟨(some 19), .fa (xt 1) 1, (some (16, true)), []⟩,
 ⟨(some 20), .ld (xt 19) 1 false, (some (16, true)), []⟩,
 ⟨(some 21), .call 56 [(xt 18), (xt 20)], (some (16, true)), []⟩,
 xo 22 (.pick (xt 16) (xt 21) (xb false)),
 xo 23 (.mv (xt 22)),
 ⟨(some 24), .fa (xt 1) 2, (some (23, true)), []⟩,
 ⟨(some 25), .ld (xt 24) 1 false, (some (23, true)), []⟩,
 ⟨(some 26), .fa (xt 1) 3, (some (23, true)), []⟩,
 ⟨(some 27), .ld (xt 26) 1 false, (some (23, true)), []⟩,
 ⟨(some 28), .call 73 [(xt 25), (xt 27)], (some (23, true)), []⟩,
 ⟨(some 29), .len false (xt 28), (some (23, true)), []⟩,
 ⟨(some 30), .bin .eql (xt 29) (xi 0), (some (23, true)), []⟩,
 xo 31 (.pick (xt 23) (xt 30) (xb false)),
 xo 2 (.mv (xt 31))] [2]
def c31_3 : XC := fun _ => .seq c31_2 (fun _ => .ret)
def c31_4 : XC := fun _ => .seq c31_1 c31_3
def m_impl_IsValidConfig : MCode := c31_4 ()
def h_impl_IsValidConfig : Hints := [(0, [1], [], [], []), (1, [2], [], [], [])]
def r_impl_IsValidConfig : List RV := [.t 2]
abbrev n_impl_IsValidConfig : Nat := 31
theorem k_impl_IsValidConfig : Known Pr mu n_impl_IsValidConfig m_impl_IsValidConfig r_impl_IsValidConfig Go.Proofs.Try.f31.ntmps := .of h_impl_IsValidConfig hm Go.Proofs.Try.func31
def c32_1 : XC := fun _ => .region [] [xo 1 (.box (xt 0)),
 xo 2 (.mv (xb false))] [1]
def c32_2 : XC := fun _ => .region [] [xo 3 (.fa (xt 1) 0),
 xo 4 (.ld (xt 3) 1 false),
 xo 5 (.call 65 [(xt 4), (xi 1), (xi 20)]),
 xo 6 (.mv (xt 5)),
 ⟨(some 7), .fa (xt 1) 2, (some (6, true)), []⟩,
 ⟨(some 8), .ld (xt 7) 1 false, (some (6, true)), []⟩,
 ⟨(some 9), .call 74 [(xt 8)], (some (6, true)), []⟩,
 xo 10 (.pick (xt 6) (xt 9) (xb false)),
 xo 11 (.mv (xt 10)),
 ⟨(some 12), .fa (xt 1) 3, (some (11, true)), []⟩,
 ⟨(some 13), .ld (xt 12) 1 false, (some (11, true)), []⟩,
 ⟨(some 14), .call 74 [(xt 13)], (some (11, true)), []⟩,
 xo 15 (.pick (xt 11) (xt 14) (xb false)),
 xo 16 (.mv (xt 15)),
 ⟨(some 17), .fa (xt 1) 2, (some (16, true)), []⟩,
 ⟨(some 18), .ld (xt 17) 1 false, (some (16, true)), []⟩,
 ⟨(some 19), .fa (xt 1) 1, (some (16, true)), []⟩,
 ⟨(some 20), .ld (xt 19) 1 false, (some (16, true)), []⟩,
 ⟨(some 21), .call 70 [(xt 18), (xt 20)], (some (16, true)), []⟩,
 xo 22 (.pick (xt 16) (xt 21) (xb false)),
 xo 23 (.mv (xt 22)),
 ⟨(some 24), .fa (xt 1) 2, (some (23, true)), []⟩,
 ⟨(some 25), .ld (xt 24) 1 false, (some (23, true)), []⟩,
 ⟨(some 26), .fa (xt 1) 3, (some (23, true)), []⟩,
 ⟨(some 27), .ld (xt 26) 1 false, (some (23, true)), []⟩,
 ⟨(some 28), .call 75 [(xt 25), (xt 27)], (some (23, true)), []⟩,
 ⟨(some 29), .len false (xt 28), (some (23, true)), []⟩,
 ⟨(some 30), .bin .eql (xt 29) (xi 0), (some (23, true)), []⟩,
 xo 31 (.pick (xt 23) (xt 30) (xb false)),
 xo 2 (.mv (xt 31))] [2]
def c32_3 : XC := fun _ => .seq c32_2 (fun _ => .ret)
def c32_4 : XC := fun _ => .seq c32_1 c32_3
def m_spec_IsValidConfig : MCode := c32_4 ()
def h_spec_IsValidConfig : Hints := [(0, [1], [], [], []), (1, [2], [], [], [])]
def r_spec_IsValidConfig : List RV := [.t 2]
abbrev n_spec_IsValidConfig : Nat := 32
theorem k_spec_IsValidConfig : Known Pr mu n_spec_IsValidConfig m_spec_IsValidConfig r_spec_IsValidConfig Go.Proofs.Try.f32.ntmps := .of h_spec_IsValidConfig hm Go.Proofs.Try.func32
def c49_1 : XC := fun _ => .region [] [xo 2 (.mv (.const (.pointer none)))] [0]
def c49_2 : XC := fun _ => .region [] [xo 5 (.mv (xt 0)),
 xo 6 (.len false (xt 5)),
 xo 7 (.bin .add (xi 10101) (xt 6)),
 xo 3 (.mv (xt 7))] [0,3]
def c49_3 : XC := fun _ => .region [] [xo 4 (.mv (xi 0))] [0,3,4]
def c49_4 : XC := fun _ => .region [] [xo 8 (.mv (xt 4)),
 xo 9 (.mv (xt 0)),
 xo 10 (.len false (xt 9)),
 xo 11 (.bin .lss (xt 8) (xt 10)),
 xo 12 (.mv (xt 11)),
 ⟨(some 13), .mv (xt 4), (some (12, true)), []⟩,
 ⟨(some 14), .bin .lss (xt 13) (xi 4000), (some (12, true)), []⟩,
 xo 15 (.pick (xt 12) (xt 14) (xb false))] [0,3,4,15]
def c49_5 : XC := fun _ => .cond (xt 15) (fun _ => .skip) (fun _ => .exit 0)
def c49_6 : XC := fun _ => .seq c49_4 c49_5
def c49_7 : XC := fun _ => .region [] [xo 18 (.mv (xt 3)),
 xo 19 (.bin .mul (xt 18) (xi 131)),
 xo 20 (.mv (xt 0)),
 xo 21 (.mv (xt 4)),
 xo 22 (.ia (xt 20) (xt 21) 1),
 xo 23 (.ld (xt 22) 1 false),
 xo 24 (.conv .i64 (xt 23)),
 xo 25 (.bin .add (xt 19) (xt 24)),
 xo 26 (.bin .add (xt 25) (xi 7)),
 xo 27 (.bit .and (xt 26) (xi 1073741823)),
 xo 3 (.mv (xt 27))] [0,3,4]
def c49_8 : XC := fun _ => .block 1 c49_7
def c49_9 : XC := fun _ => .region [] [xo 16 (.mv (xt 4)),
 xo 17 (.bin .add (xt 16) (xi 1)),
 xo 4 (.mv (xt 17))] [0,3,4]
def c49_10 : XC := fun _ => .seq c49_8 c49_9
def c49_11 : XC := fun _ => .seq c49_6 c49_10
def c49_12 : XC := fun _ => .loop c49_11
def c49_13 : XC := fun _ => .block 0 c49_12
def c49_14 : XC := fun _ => .seq c49_3 c49_13
def c49_15 : XC := fun _ => .region [] [xo 28 (.mv (xt 0)),
 xo 29 (.mv (xt 3)),
 xo 30 (.bld [.slice none 0 0, .int .i64 0, .int .i64 0] [(0, 1, (xt 28)), (2, 1, (xt 29))]),
 xo 31 (.box (xt 30)),
 xo 2 (.mv (xt 31))] [2]
def c49_16 : XC := fun _ => .seq c49_15 (fun _ => .ret)
def c49_17 : XC := fun _ => .seq c49_14 c49_16
def c49_18 : XC := fun _ => .seq c49_2 c49_17
def c49_19 : XC := fun _ => .seq c49_1 c49_18
def m_spec_l1New : MCode := c49_19 ()
def h_spec_l1New : Hints := [(0, [0], [], [], []), (1, [0,3], [], [], []), (2, [0,3,4], [], [], []), (3, [0,3,4,15], [], [], []), (5, [0,3,4], [], [], []), (4, [0,3,4], [], [], []), (6, [2], [], [], [])]
def r_spec_l1New : List RV := [.t 2]
abbrev n_spec_l1New : Nat := 49
theorem k_spec_l1New : Known Pr mu n_spec_l1New m_spec_l1New r_spec_l1New Go.Proofs.Try.f49.ntmps := .of h_spec_l1New hm Go.Proofs.Try.func49
def c50_1 : XC := fun _ => .region [] [xo 4 (.mv (.const (.slice none 0 0)))] [0,1]
def c50_2 : XC := fun _ => .region [] [xo 8 (.bsl 7 0 [.int .i64 0, .slice none 0 0, .slice none 0 0, .int .i64 0, .int .i64 0, .slice none 0 0, .slice none 0 0] []),
 xo 5 (.mv (xt 8))] [0,1,5]
def c50_3 : XC := fun _ => .region [] [xo 9 (.mv (xt 0)),
 xo 10 (.callp 51 [(xt 9), (xi 6)]),
 xo 11 (.bin .add (xi 1) (xt 10)),
 xo 6 (.mv (xt 11))] [0,1,5,6]
def c50_4 : XC := fun _ => .region [] [xo 12 (.mv (xt 6)),
 xo 13 (.bin .gtr (xt 12) (xi 0))] [0,1,5,6,13]
def c50_5 : XC := fun _ => .cond (xt 13) (fun _ => .skip) (fun _ => .exit 0)
def c50_6 : XC := fun _ => .seq c50_4 c50_5
def c50_7 : XC := fun _ => .region [] [xo 16 (.mv (xt 1)),
 xo 17 (.mv (xt 5)),
 xo 18 (.len false (xt 17)),
 xo 19 (.bin .mul (xt 16) (xt 18)),
 xo 20 (.bin .add (xt 19) (xi 1)),
 xo 21 (.mv (xt 0)),
 xo 22 (.callp 51 [(xt 21), (xi 3)]),
 xo 23 (.bin .add (xt 20) (xt 22)),
 xo 24 (.mv (xt 0)),
 xo 25 (.callp 81 [(xt 24)]),
 xo 26 (.mv (xt 0)),
 xo 27 (.callp 81 [(xt 26)]),
 xo 28 (.mv (xt 0)),
 xo 29 (.callp 82 [(xt 28), (xi 2)]),
 xo 30 (.bld [.int .i64 0, .slice none 0 0, .slice none 0 0, .int .i64 0, .int .i64 0, .slice none 0 0, .slice none 0 0] [(0, 1, (xt 23)), (1, 1, (xt 25)), (2, 1, (xt 27)), (3, 4, (xt 29))]),
 xo 7 (.alloc [.int .i64 0, .slice none 0 0, .slice none 0 0, .int .i64 0, .int .i64 0, .slice none 0 0, .slice none 0 0]),
 xn (.sto (xt 7) (xt 30) 7)] [0,1,5,6,7]
def c50_8 : XC := fun _ => .region [] [xo 31 (.mv (xt 5)),
 xo 32 (.ld (xt 7) 7 true),
 xo 33 (.bsl 7 1 [.int .i64 0, .slice none 0 0, .slice none 0 0, .int .i64 0, .int .i64 0, .slice none 0 0, .slice none 0 0] [(0, (xt 32))]),
 xo 34 (.app (xt 31) (xt 33) 7 120),
 xo 5 (.mv (xt 34))] [0,1,5,6]
def c50_9 : XC := fun _ => .seq c50_7 c50_8
def c50_10 : XC := fun _ => .block 1 c50_9
def c50_11 : XC := fun _ => .region [] [xo 14 (.mv (xt 6)),
 xo 15 (.bin .sub (xt 14) (xi 1)),
 xo 6 (.mv (xt 15))] [0,1,5,6]
def c50_12 : XC := fun _ => .seq c50_10 c50_11
def c50_13 : XC := fun _ => .seq c50_6 c50_12
def c50_14 : XC := fun _ => .loop c50_13
def c50_15 : XC := fun _ => .block 0 c50_14
def c50_16 : XC := fun _ => .seq c50_3 c50_15
def c50_17 : XC := fun _ => .region [] [xo 35 (.mv (xt 0)),
 xo 36 (.callp 77 [(xt 35), (xi 12)])] [0,5,36]
def c50_18 : XC := fun _ => .region [] [xo 37 (.mv (xt 5)),
 xo 38 (.mv (xt 0)),
 xo 39 (.callp 66 [(xt 38)]),
 xo 40 (.ia (xt 37) (xi 0) 7),
 xo 41 (.fa (xt 40) 3),
 xn (.sto (xt 41) (xt 39) 4)] [5]
def c50_19 : XC := fun _ => .cond (xt 36) c50_18 (fun _ => .skip)
def c50_20 : XC := fun _ => .seq c50_17 c50_19
def c50_21 : XC := fun _ => .region [] [xo 42 (.mv (xt 5)),
 xo 4 (.mv (xt 42))] [4]
def c50_22 : XC := fun _ => .seq c50_21 (fun _ => .ret)
def c50_23 : XC := fun _ => .seq c50_20 c50_22
def c50_24 : XC := fun _ => .seq c50_16 c50_23
def c50_25 : XC := fun _ => .seq c50_2 c50_24
def c50_26 : XC := fun _ => .seq c50_1 c50_25
def m_spec_l11Proposals : MCode := c50_26 ()
def h_spec_l11Proposals : Hints := [(0, [0,1], [], [], []), (1, [0,1,5], [], [], []), (2, [0,1,5,6], [], [], []), (3, [0,1,5,6,13], [], [], []), (5, [0,1,5,6,7], [], [], []), (6, [0,1,5,6], [], [], []), (4, [0,1,5,6], [], [], []), (7, [0,5,36], [], [], []), (8, [5], [], [], []), (9, [4], [], [], [])]
def r_spec_l11Proposals : List RV := [.t 4]
abbrev n_spec_l11Proposals : Nat := 50
theorem k_spec_l11Proposals : Known Pr mu n_spec_l11Proposals m_spec_l11Proposals r_spec_l11Proposals Go.Proofs.Try.f50.ntmps := .of h_spec_l11Proposals hm Go.Proofs.Try.func50
def c51_1 : XC := fun _ => .region [] [xo 4 (.mv (xi 0))] [0,1]
def c51_2 : XC := fun _ => .region [] [xo 9 (.mv (xt 1)),
 xo 10 (.bin .leq (xt 9) (xi 0))] [0,1,10]
def c51_3 : XC := fun _ => .region [] [xo 4 (.mv (xi 0))] [4]
def c51_4 : XC := fun _ => .seq c51_3 (fun _ => .ret)
def c51_5 : XC := fun _ => .cond (xt 10) c51_4 (fun _ => .skip)
def c51_6 : XC := fun _ => .seq c51_2 c51_5
def c51_7 : XC := fun _ => .region [] [xo 11 (.mv (xt 1)),
 xo 12 (.bin .leq (xt 11) (xi 256))] [0,1,12]
def c51_8 : XC := fun _ => .region [] [xo 13 (.mv (xt 0)),
 xo 14 (.callp 83 [(xt 13)]),
 xo 15 (.mv (xt 1)),
 xo 16 (.bin .rem (xt 14) (xt 15)),
 xo 4 (.mv (xt 16))] [4]
def c51_9 : XC := fun _ => .seq c51_8 (fun _ => .ret)
def c51_10 : XC := fun _ => .cond (xt 12) c51_9 (fun _ => .skip)
def c51_11 : XC := fun _ => .seq c51_7 c51_10
def c51_12 : XC := fun _ => .region [] [xo 17 (.mv (xt 0)),
 xo 18 (.callp 83 [(xt 17)]),
 xo 5 (.mv (xt 18))] [0,1,5]
def c51_13 : XC := fun _ => .region [] [xo 19 (.mv (xt 0)),
 xo 20 (.callp 83 [(xt 19)]),
 xo 6 (.mv (xt 20))] [0,1,5,6]
def c51_14 : XC := fun _ => .region [] [xo 21 (.mv (xt 0)),
 xo 22 (.callp 83 [(xt 21)]),
 xo 7 (.mv (xt 22))] [0,1,5,6,7]
def c51_15 : XC := fun _ => .region [] [xo 23 (.mv (xt 0)),
 xo 24 (.callp 83 [(xt 23)]),
 xo 8 (.mv (xt 24))] [1,5,6,7,8]
def c51_16 : XC := fun _ => .region [] [xo 25 (.mv (xt 5)),
 xo 26 (.bin .mul (xt 25) (xi 16777216)),
 xo 27 (.mv (xt 6)),
 xo 28 (.bin .mul (xt 27) (xi 65536)),
 xo 29 (.bin .add (xt 26) (xt 28)),
 xo 30 (.mv (xt 7)),
 xo 31 (.bin .mul (xt 30) (xi 256)),
 xo 32 (.bin .add (xt 29) (xt 31)),
 xo 33 (.mv (xt 8)),
 xo 34 (.bin .add (xt 32) (xt 33)),
 xo 35 (.mv (xt 1)),
 xo 36 (.bin .rem (xt 34) (xt 35)),
 xo 4 (.mv (xt 36))] [4]
def c51_17 : XC := fun _ => .seq c51_16 (fun _ => .ret)
def c51_18 : XC := fun _ => .seq c51_15 c51_17
def c51_19 : XC := fun _ => .seq c51_14 c51_18
def c51_20 : XC := fun _ => .seq c51_13 c51_19
def c51_21 : XC := fun _ => .seq c51_12 c51_20
def c51_22 : XC := fun _ => .seq c51_11 c51_21
def c51_23 : XC := fun _ => .seq c51_6 c51_22
def c51_24 : XC := fun _ => .seq c51_1 c51_23
def m_spec_l1Below : MCode := c51_24 ()
def h_spec_l1Below : Hints := [(0, [0,1], [], [], []), (1, [0,1,10], [], [], []), (2, [4], [], [], []), (3, [0,1,12], [], [], []), (4, [4], [], [], []), (5, [0,1,5], [], [], []), (6, [0,1,5,6], [], [], []), (7, [0,1,5,6,7], [], [], []), (8, [1,5,6,7,8], [], [], []), (9, [4], [], [], [])]
def r_spec_l1Below : List RV := [.t 4]
abbrev n_spec_l1Below : Nat := 51
theorem k_spec_l1Below : Known Pr mu n_spec_l1Below m_spec_l1Below r_spec_l1Below Go.Proofs.Try.f51.ntmps := .of h_spec_l1Below hm Go.Proofs.Try.func51
def c52_1 : XC := fun _ => .region [] [xo 0 (.mv (.const (.slice none 0 0)))] []
def c52_2 : XC := fun _ => .region [] [xo 1 (.mks 6 80 [.int .i64 0, .int .i64 0, .int .i64 0, .int .i64 0, .slice none 0 0, .slice none 0 0] (xi 3) (xi 3)),
 xo 0 (.mv (xt 1))] [0]
def c52_3 : XC := fun _ => .seq c52_2 (fun _ => .ret)
def c52_4 : XC := fun _ => .seq c52_1 c52_3
def m_spec_NewAcceptors : MCode := c52_4 ()
def h_spec_NewAcceptors : Hints := [(0, [], [], [], []), (1, [0], [], [], [])]
def r_spec_NewAcceptors : List RV := [.t 0]
abbrev n_spec_NewAcceptors : Nat := 52
theorem k_spec_NewAcceptors : Known Pr mu n_spec_NewAcceptors m_spec_NewAcceptors r_spec_NewAcceptors Go.Proofs.Try.f52.ntmps := .of h_spec_NewAcceptors hm Go.Proofs.Try.func52
def c53_1 : XC := fun _ => .region [] [xo 3 (.box (xt 1)),
 xo 4 (.mv (.const (.slice none 0 0))),
 xo 5 (.alloc [.int .i64 0, .int .i64 0, .slice none 0 0, .slice none 0 0]),
 xo 6 (.mv (xb false))] [0,3,5]
def c53_2 : XC := fun _ => .region [] [xo 18 (.mv (xt 0)),
 xo 19 (.call 84 [(xt 18)]),
 xo 7 (.mv (xt 19))] [0,3,5,7]
def c53_3 : XC := fun _ => .region [] [xo 20 (.mv (xt 0)),
 xo 21 (.call 85 [(xt 20)]),
 xo 22 (.not (xt 21)),
 xo 23 (.mv (xt 22)),
 ⟨(some 24), .fa (xt 3) 3, (some (23, false)), []⟩,
 ⟨(some 25), .ld (xt 24) 4 true, (some (23, false)), []⟩,
 ⟨(some 26), .call 32 [(xt 25)], (some (23, false)), []⟩,
 ⟨(some 27), .not (xt 26), (some (23, false)), []⟩,
 xo 28 (.pick (xt 23) (xb true) (xt 27)),
 xo 29 (.mv (xt 28)),
 ⟨(some 30), .fa (xt 3) 0, (some (29, false)), []⟩,
 ⟨(some 31), .ld (xt 30) 1 false, (some (29, false)), []⟩,
 ⟨(some 32), .call 65 [(xt 31), (xi 1), (xi 99)], (some (29, false)), []⟩,
 ⟨(some 33), .not (xt 32), (some (29, false)), []⟩,
 xo 34 (.pick (xt 29) (xb true) (xt 33))] [0,3,5,7,34]
def c53_4 : XC := fun _ => .region [] [xo 35 (.mv (xt 7)),
 xo 36 (.bld [.int .i64 0, .int .i64 0, .slice none 0 0, .slice none 0 0] []),
 xo 4 (.mv (xt 35)),
 xn (.stoc (xt 5) (xt 36) 4),
 xo 6 (.mv (xb false))] [4,5,6]
def c53_5 : XC := fun _ => .seq c53_4 (fun _ => .ret)
def c53_6 : XC := fun _ => .cond (xt 34) c53_5 (fun _ => .skip)
def c53_7 : XC := fun _ => .seq c53_3 c53_6
def c53_8 : XC := fun _ => .region [] [xo 8 (.mv (xi 0))] [0,3,5,7,8]
def c53_9 : XC := fun _ => .region [] [xo 9 (.mv (xi 0))] [0,3,5,7,8,9]
def c53_10 : XC := fun _ => .region [] [xo 37 (.fa (xt 3) 3),
 xo 38 (.ld (xt 37) 4 true),
 xo 39 (.call 67 [(xt 38)]),
 xo 10 (.alloc [.int .i64 0, .int .i64 0, .slice none 0 0, .slice none 0 0]),
 xn (.stoc (xt 10) (xt 39) 4)] [0,3,5,7,8,9,10]
def c53_11 : XC := fun _ => .region [] [xo 11 (.mv (xi 0))] [0,3,5,7,8,9,10,11]
def c53_12 : XC := fun _ => .region [] [xo 40 (.mv (xt 11)),
 xo 41 (.mv (xt 0)),
 xo 42 (.len false (xt 41)),
 xo 43 (.bin .lss (xt 40) (xt 42))] [0,3,5,7,8,9,10,11,43]
def c53_13 : XC := fun _ => .cond (xt 43) (fun _ => .skip) (fun _ => .exit 0)
def c53_14 : XC := fun _ => .seq c53_12 c53_13
def c53_15 : XC := fun _ => .region [] [xo 46 (.fa (xt 3) 1),
 xo 47 (.ld (xt 46) 1 false),
 xo 48 (.mv (xt 11)),
 xo 49 (.call 70 [(xt 47), (xt 48)]),
 xo 50 (.not (xt 49))] [0,3,5,7,8,9,10,11,50]
def c53_16 : XC := fun _ => .cond (xt 50) (fun _ => .exit 1) (fun _ => .skip)
def c53_17 : XC := fun _ => .seq c53_15 c53_16
def c53_18 : XC := fun _ => .region [] [xo 52 (.mv (xt 7)),
 xo 53 (.mv (xt 11)),
 xo 54 (.ia (xt 52) (xt 53) 6),
 ⟨(some 55), .ldc (xt 54) 6 true, none, [2000000]⟩,
 ⟨(some 56), .fa (xt 3) 0, none, [0, 1, 2, 3]⟩,
 ⟨(some 57), .ld (xt 56) 1 false, none, [0, 1, 2, 3]⟩,
 xo 58 (.call 19 [(xt 55), (xt 57)]),
 xo 51 (.mv (xt 58)),
 xo 59 (.ext (xt 51) 0),
 xo 60 (.ext (xt 51) 1),
 xo 12 (.alloc [.int .i64 0, .int .i64 0, .int .i64 0, .int .i64 0, .slice none 0 0, .slice none 0 0]),
 xn (.stoc (xt 12) (xt 59) 6),
 xo 13 (.mv (xt 60))] [0,3,5,7,8,9,10,11,12,13]
def c53_19 : XC := fun _ => .region [] [xo 61 (.mv (xt 7)),
 xo 62 (.mv (xt 11)),
 xo 63 (.ld (xt 12) 6 true),
 xo 64 (.ia (xt 61) (xt 62) 6),
 xn (.stoc (xt 64) (xt 63) 6)] [0,3,5,7,8,9,10,11,12,13]
def c53_20 : XC := fun _ => .region [] [xo 65 (.mv (xt 13)),
 xo 66 (.not (xt 65))] [0,3,5,7,8,9,10,11,12,66]
def c53_21 : XC := fun _ => .cond (xt 66) (fun _ => .exit 1) (fun _ => .skip)
def c53_22 : XC := fun _ => .seq c53_20 c53_21
def c53_23 : XC := fun _ => .region [] [xo 67 (.mv (xt 8)),
 xo 68 (.bin .add (xt 67) (xi 1)),
 xo 8 (.mv (xt 68))] [0,3,5,7,8,9,10,11,12]
def c53_24 : XC := fun _ => .region [] [xo 69 (.fa (xt 12) 1),
 xo 70 (.ld (xt 69) 1 false),
 xo 71 (.mv (xt 9)),
 xo 72 (.bin .gtr (xt 70) (xt 71))] [0,3,5,7,8,9,10,11,12,72]
def c53_25 : XC := fun _ => .region [] [xo 73 (.fa (xt 12) 1),
 xo 74 (.ld (xt 73) 1 false),
 xo 9 (.mv (xt 74))] [0,3,5,7,8,9,10,11,12]
def c53_26 : XC := fun _ => .region [] [xo 75 (.fa (xt 12) 2),
 xo 76 (.ld (xt 75) 4 true),
 xo 77 (.call 67 [(xt 76)]),
 xn (.stoc (xt 10) (xt 77) 4)] [0,3,5,7,8,9,10,11]
def c53_27 : XC := fun _ => .seq c53_25 c53_26
def c53_28 : XC := fun _ => .cond (xt 72) c53_27 (fun _ => .skip)
def c53_29 : XC := fun _ => .seq c53_24 c53_28
def c53_30 : XC := fun _ => .seq c53_23 c53_29
def c53_31 : XC := fun _ => .seq c53_22 c53_30
def c53_32 : XC := fun _ => .seq c53_19 c53_31
def c53_33 : XC := fun _ => .seq c53_18 c53_32
def c53_34 : XC := fun _ => .seq c53_17 c53_33
def c53_35 : XC := fun _ => .block 1 c53_34
def c53_36 : XC := fun _ => .region [] [xo 44 (.mv (xt 11)),
 xo 45 (.bin .add (xt 44) (xi 1)),
 xo 11 (.mv (xt 45))] [0,3,5,7,8,9,10,11]
def c53_37 : XC := fun _ => .seq c53_35 c53_36
def c53_38 : XC := fun _ => .seq c53_14 c53_37
def c53_39 : XC := fun _ => .loop c53_38
def c53_40 : XC := fun _ => .block 0 c53_39
def c53_41 : XC := fun _ => .seq c53_11 c53_40
def c53_42 : XC := fun _ => .region [] [xo 78 (.mv (xt 8)),
 xo 79 (.bin .mul (xi 2) (xt 78)),
 xo 80 (.bin .leq (xt 79) (xi 3))] [0,3,5,7,10,80]
def c53_43 : XC := fun _ => .region [] [xo 81 (.mv (xt 7)),
 xo 82 (.bld [.int .i64 0, .int .i64 0, .slice none 0 0, .slice none 0 0] []),
 xo 4 (.mv (xt 81)),
 xn (.stoc (xt 5) (xt 82) 4),
 xo 6 (.mv (xb false))] [4,5,6]
def c53_44 : XC := fun _ => .seq c53_43 (fun _ => .ret)
def c53_45 : XC := fun _ => .cond (xt 80) c53_44 (fun _ => .skip)
def c53_46 : XC := fun _ => .seq c53_42 c53_45
def c53_47 : XC := fun _ => .region [] [xo 14 (.mv (xi 0))] [0,3,5,7,10,14]
def c53_48 : XC := fun _ => .region [] [xo 15 (.mv (xi 0))] [0,3,5,7,10,14,15]
def c53_49 : XC := fun _ => .region [] [xo 83 (.mv (xt 15)),
 xo 84 (.mv (xt 0)),
 xo 85 (.len false (xt 84)),
 xo 86 (.bin .lss (xt 83) (xt 85))] [0,3,5,7,10,14,15,86]
def c53_50 : XC := fun _ => .cond (xt 86) (fun _ => .skip) (fun _ => .exit 2)
def c53_51 : XC := fun _ => .seq c53_49 c53_50
def c53_52 : XC := fun _ => .region [] [xo 89 (.fa (xt 3) 2),
 xo 90 (.ld (xt 89) 1 false),
 xo 91 (.mv (xt 15)),
 xo 92 (.call 70 [(xt 90), (xt 91)]),
 xo 93 (.not (xt 92))] [0,3,5,7,10,14,15,93]
def c53_53 : XC := fun _ => .cond (xt 93) (fun _ => .exit 3) (fun _ => .skip)
def c53_54 : XC := fun _ => .seq c53_52 c53_53
def c53_55 : XC := fun _ => .region [] [xo 95 (.mv (xt 7)),
 xo 96 (.mv (xt 15)),
 xo 97 (.ia (xt 95) (xt 96) 6),
 ⟨(some 98), .ldc (xt 97) 6 true, none, [2000000]⟩,
 ⟨(some 99), .fa (xt 3) 0, none, [0, 1, 2, 3]⟩,
 ⟨(some 100), .ld (xt 99) 1 false, none, [0, 1, 2, 3]⟩,
 ⟨(some 101), .ld (xt 10) 4 true, none, [0, 1, 2, 3, 4, 5]⟩,
 xo 102 (.call 22 [(xt 98), (xt 100), (xt 101)]),
 xo 94 (.mv (xt 102)),
 xo 103 (.ext (xt 94) 0),
 xo 104 (.ext (xt 94) 1),
 xo 16 (.alloc [.int .i64 0, .int .i64 0, .int .i64 0, .int .i64 0, .slice none 0 0, .slice none 0 0]),
 xn (.stoc (xt 16) (xt 103) 6),
 xo 17 (.mv (xt 104))] [0,3,5,7,10,14,15,16,17]
def c53_56 : XC := fun _ => .region [] [xo 105 (.mv (xt 7)),
 xo 106 (.mv (xt 15)),
 xo 107 (.ld (xt 16) 6 true),
 xo 108 (.ia (xt 105) (xt 106) 6),
 xn (.stoc (xt 108) (xt 107) 6)] [0,3,5,7,10,14,15,17]
def c53_57 : XC := fun _ => .region [] [xo 109 (.mv (xt 17))] [0,3,5,7,10,14,15,109]
def c53_58 : XC := fun _ => .region [] [xo 110 (.mv (xt 14)),
 xo 111 (.bin .add (xt 110) (xi 1)),
 xo 14 (.mv (xt 111))] [0,3,5,7,10,14,15]
def c53_59 : XC := fun _ => .cond (xt 109) c53_58 (fun _ => .skip)
def c53_60 : XC := fun _ => .seq c53_57 c53_59
def c53_61 : XC := fun _ => .seq c53_56 c53_60
def c53_62 : XC := fun _ => .seq c53_55 c53_61
def c53_63 : XC := fun _ => .seq c53_54 c53_62
def c53_64 : XC := fun _ => .block 3 c53_63
def c53_65 : XC := fun _ => .region [] [xo 87 (.mv (xt 15)),
 xo 88 (.bin .add (xt 87) (xi 1)),
 xo 15 (.mv (xt 88))] [0,3,5,7,10,14,15]
def c53_66 : XC := fun _ => .seq c53_64 c53_65
def c53_67 : XC := fun _ => .seq c53_51 c53_66
def c53_68 : XC := fun _ => .loop c53_67
def c53_69 : XC := fun _ => .block 2 c53_68
def c53_70 : XC := fun _ => .seq c53_48 c53_69
def c53_71 : XC := fun _ => .region [] [xo 112 (.mv (xt 14)),
 xo 113 (.bin .mul (xi 2) (xt 112)),
 xo 114 (.bin .leq (xt 113) (xi 3))] [5,7,10,114]
def c53_72 : XC := fun _ => .region [] [xo 115 (.mv (xt 7)),
 xo 116 (.bld [.int .i64 0, .int .i64 0, .slice none 0 0, .slice none 0 0] []),
 xo 4 (.mv (xt 115)),
 xn (.stoc (xt 5) (xt 116) 4),
 xo 6 (.mv (xb false))] [4,5,6]
def c53_73 : XC := fun _ => .seq c53_72 (fun _ => .ret)
def c53_74 : XC := fun _ => .cond (xt 114) c53_73 (fun _ => .skip)
def c53_75 : XC := fun _ => .seq c53_71 c53_74
def c53_76 : XC := fun _ => .region [] [xo 117 (.mv (xt 7)),
 ⟨(some 118), .ld (xt 10) 4 true, none, [0]⟩,
 xo 4 (.mv (xt 117)),
 xn (.stoc (xt 5) (xt 118) 4),
 xo 6 (.mv (xb true))] [4,5,6]
def c53_77 : XC := fun _ => .seq c53_76 (fun _ => .ret)
def c53_78 : XC := fun _ => .seq c53_75 c53_77
def c53_79 : XC := fun _ => .seq c53_70 c53_78
def c53_80 : XC := fun _ => .seq c53_47 c53_79
def c53_81 : XC := fun _ => .seq c53_46 c53_80
def c53_82 : XC := fun _ => .seq c53_41 c53_81
def c53_83 : XC := fun _ => .seq c53_10 c53_82
def c53_84 : XC := fun _ => .seq c53_9 c53_83
def c53_85 : XC := fun _ => .seq c53_8 c53_84
def c53_86 : XC := fun _ => .seq c53_7 c53_85
def c53_87 : XC := fun _ => .seq c53_2 c53_86
def c53_88 : XC := fun _ => .seq c53_1 c53_87
def m_spec_RunProposal : MCode := c53_88 ()
def h_spec_RunProposal : Hints := [(0, [0,3,5], [], [], []), (1, [0,3,5,7], [], [], []), (2, [0,3,5,7,34], [], [], []), (3, [4,5,6], [], [], []), (4, [0,3,5,7,8], [], [], []), (5, [0,3,5,7,8,9], [], [], []), (6, [0,3,5,7,8,9,10], [], [], []), (7, [0,3,5,7,8,9,10,11], [], [], []), (8, [0,3,5,7,8,9,10,11,43], [], [], []), (10, [0,3,5,7,8,9,10,11,50], [], [], []), (11, [0,3,5,7,8,9,10,11,12,13], [[],[],[],[2000000],[0,1,2,3],[0,1,2,3]], [], [9]), (12, [0,3,5,7,8,9,10,11,12,13], [], [], []), (13, [0,3,5,7,8,9,10,11,12,66], [], [], []), (14, [0,3,5,7,8,9,10,11,12], [], [], []), (15, [0,3,5,7,8,9,10,11,12,72], [], [], []), (16, [0,3,5,7,8,9,10,11,12], [], [], []), (17, [0,3,5,7,8,9,10,11], [], [], []), (9, [0,3,5,7,8,9,10,11], [], [], []), (18, [0,3,5,7,10,80], [], [], []), (19, [4,5,6], [], [], []), (20, [0,3,5,7,10,14], [], [], []), (21, [0,3,5,7,10,14,15], [], [], []), (22, [0,3,5,7,10,14,15,86], [], [], []), (24, [0,3,5,7,10,14,15,93], [], [], []), (25, [0,3,5,7,10,14,15,16,17], [[],[],[],[2000000],[0,1,2,3],[0,1,2,3],[0,1,2,3,4,5]], [], [10]), (26, [0,3,5,7,10,14,15,17], [], [], []), (27, [0,3,5,7,10,14,15,109], [], [], []), (28, [0,3,5,7,10,14,15], [], [], []), (23, [0,3,5,7,10,14,15], [], [], []), (29, [5,7,10,114], [], [], []), (30, [4,5,6], [], [], []), (31, [4,5,6], [[],[0]], [], [])]
def r_spec_RunProposal : List RV := [.t 4, .c 5 4 true, .t 6]
abbrev n_spec_RunProposal : Nat := 53
theorem k_spec_RunProposal : Known Pr muc n_spec_RunProposal m_spec_RunProposal r_spec_RunProposal Go.Proofs.Try.f53.ntmps := .of h_spec_RunProposal hm Go.Proofs.Try.func53
def c54_1 : XC := fun _ => .region [] [xo 2 (.mv (.const (.slice none 0 0)))] [0]
def c54_2 : XC := fun _ => .region [] [xo 6 (.bsl 6 0 [.int .i64 0, .int .i64 0, .int .i64 0, .int .i64 0, .slice none 0 0, .slice none 0 0] []),
 xo 3 (.mv (xt 6))] [0,3]
def c54_3 : XC := fun _ => .region [] [xo 7 (.mv (xt 0)),
 xo 8 (.len false (xt 7)),
 xo 9 (.mv (xi 0))] [3,7,8,9]
def c54_4 : XC := fun _ => .region [] [xo 10 (.bin .lss (xt 9) (xt 8))] [3,7,8,9,10]
def c54_5 : XC := fun _ => .cond (xt 10) (fun _ => .skip) (fun _ => .exit 0)
def c54_6 : XC := fun _ => .region [] [xo 11 (.ia (xt 7) (xt 9) 6),
 xo 12 (.ld (xt 11) 6 true),
 xo 5 (.alloc [.int .i64 0, .int .i64 0, .int .i64 0, .int .i64 0, .slice none 0 0, .slice none 0 0]),
 xn (.sto (xt 5) (xt 12) 6)] [3,5,7,8,9]
def c54_7 : XC := fun _ => .region [] [xo 13 (.mv (xt 3)),
 xo 14 (.ld (xt 5) 6 true),
 xo 15 (.call 63 [(xt 14)]),
 xo 16 (.bsl 6 1 [.int .i64 0, .int .i64 0, .int .i64 0, .int .i64 0, .slice none 0 0, .slice none 0 0] [(0, (xt 15))]),
 xo 17 (.app (xt 13) (xt 16) 6 80),
 xo 3 (.mv (xt 17))] [3,7,8,9]
def c54_8 : XC := fun _ => .seq c54_6 c54_7
def c54_9 : XC := fun _ => .block 1 c54_8
def c54_10 : XC := fun _ => .region [] [xo 18 (.bin .add (xt 9) (xi 1)),
 xo 9 (.mv (xt 18))] [3,7,8,9]
def c54_11 : XC := fun _ => .seq c54_9 c54_10
def c54_12 : XC := fun _ => .seq c54_5 c54_11
def c54_13 : XC := fun _ => .seq c54_4 c54_12
def c54_14 : XC := fun _ => .loop c54_13
def c54_15 : XC := fun _ => .block 0 c54_14
def c54_16 : XC := fun _ => .seq c54_3 c54_15
def c54_17 : XC := fun _ => .region [] [xo 19 (.mv (xt 3)),
 xo 2 (.mv (xt 19))] [2]
def c54_18 : XC := fun _ => .seq c54_17 (fun _ => .ret)
def c54_19 : XC := fun _ => .seq c54_16 c54_18
def c54_20 : XC := fun _ => .seq c54_2 c54_19
def c54_21 : XC := fun _ => .seq c54_1 c54_20
def m_impl_acceptorsCopy : MCode := c54_21 ()
def h_impl_acceptorsCopy : Hints := [(0, [0], [], [], []), (1, [0,3], [], [], []), (2, [3,7,8,9], [], [], []), (3, [3,7,8,9,10], [], [], []), (4, [3,5,7,8,9], [], [], []), (5, [3,7,8,9], [], [], []), (6, [3,7,8,9], [], [], []), (7, [2], [], [], [])]
def r_impl_acceptorsCopy : List RV := [.t 2]
abbrev n_impl_acceptorsCopy : Nat := 54
theorem k_impl_acceptorsCopy : Known Pr mu n_impl_acceptorsCopy m_impl_acceptorsCopy r_impl_acceptorsCopy Go.Proofs.Try.f54.ntmps := .of h_impl_acceptorsCopy hm Go.Proofs.Try.func54
def c55_1 : XC := fun _ => .region [] [xo 6 (.mv (xb false))] [0,1,2]
def c55_2 : XC := fun _ => .region [] [xo 7 (.mv (xt 1)),
 xo 8 (.mv (xt 0)),
 xo 9 (.bin .leq (xt 7) (xt 8)),
 xo 10 (.mv (xt 9)),
 ⟨(some 11), .mv (xt 0), (some (10, true)), []⟩,
 ⟨(some 12), .mv (xt 2), (some (10, true)), []⟩,
 ⟨(some 13), .bin .leq (xt 11) (xt 12), (some (10, true)), []⟩,
 xo 14 (.pick (xt 10) (xt 13) (xb false)),
 xo 6 (.mv (xt 14))] [6]
def c55_3 : XC := fun _ => .seq c55_2 (fun _ => .ret)
def c55_4 : XC := fun _ => .seq c55_1 c55_3
def m_impl_within : MCode := c55_4 ()
def h_impl_within : Hints := [(0, [0,1,2], [], [], []), (1, [6], [], [], [])]
def r_impl_within : List RV := [.t 6]
abbrev n_impl_within : Nat := 55
theorem k_impl_within : Known Pr mu n_impl_within m_impl_within r_impl_within Go.Proofs.Try.f55.ntmps := .of h_impl_within hm Go.Proofs.Try.func55
def c56_1 : XC := fun _ => .region [] [xo 4 (.mv (xb false))] [0,1]
def c56_2 : XC := fun _ => .region [] [xo 5 (.mv (xt 0)),
 xo 6 (.mv (xt 1)),
 xo 7 (.call 86 [(xt 5), (xt 6)]),
 xo 4 (.mv (xt 7))] [4]
def c56_3 : XC := fun _ => .seq c56_2 (fun _ => .ret)
def c56_4 : XC := fun _ => .seq c56_1 c56_3
def m_impl_HasServer : MCode := c56_4 ()
def h_impl_HasServer : Hints := [(0, [0,1], [], [], []), (1, [4], [], [], [])]
def r_impl_HasServer : List RV := [.t 4]
abbrev n_impl_HasServer : Nat := 56
theorem k_impl_HasServer : Known Pr mu n_impl_HasServer m_impl_HasServer r_impl_HasServer Go.Proofs.Try.f56.ntmps := .of h_impl_HasServer hm Go.Proofs.Try.func56
def c57_1 : XC := fun _ => .region [] [xo 1 (.box (xt 0)),
 xo 2 (.alloc [.int .i64 0, .int .i64 0, .slice none 0 0, .slice none 0 0])] [1,2]
def c57_2 : XC := fun _ => .region [] [xo 3 (.fa (xt 1) 0),
 xo 4 (.ld (xt 3) 1 false),
 ⟨(some 5), .fa (xt 1) 1, none, [0, 1]⟩,
 ⟨(some 6), .ld (xt 5) 1 false, none, [0, 1]⟩,
 xo 7 (.bsl 1 0 [.int .i64 0] []),
 ⟨(some 8), .fa (xt 1) 2, none, [0, 1, 2, 3, 4]⟩,
 ⟨(some 9), .ld (xt 8) 1 false, none, [0, 1, 2, 3, 4]⟩,
 ⟨(some 10), .appn (xt 7) (xt 9) 1 8, none, [1000000, 0, 1, 2, 3]⟩,
 xo 11 (.bsl 1 0 [.int .i64 0] []),
 ⟨(some 12), .fa (xt 1) 3, none, [0, 1, 2, 3, 4, 5, 6, 7, 8]⟩,
 ⟨(some 13), .ld (xt 12) 1 false, none, [0, 1, 2, 3, 4, 5, 6, 7, 8]⟩,
 ⟨(some 14), .appn (xt 11) (xt 13) 1 8, none, [1000000, 0, 1, 2, 3]⟩,
 xo 15 (.bld [.int .i64 0, .int .i64 0, .slice none 0 0, .slice none 0 0] [(0, 1, (xt 4)), (1, 1, (xt 6)), (2, 1, (xt 10)), (3, 1, (xt 14))]),
 xn (.sto (xt 2) (xt 15) 4)] [2]
def c57_3 : XC := fun _ => .seq c57_2 (fun _ => .ret)
def c57_4 : XC := fun _ => .seq c57_1 c57_3
def m_impl_configCopy : MCode := c57_4 ()
def h_impl_configCopy : Hints := [(0, [1,2], [], [], []), (1, [2], [[],[],[0,1],[0,1],[],[0,1,2,3,4],[0,1,2,3,4],[1000000,0,1,2,3],[],[0,1,2,3,4,5,6,7,8],[0,1,2,3,4,5,6,7,8],[1000000,0,1,2,3]], [], [])]
def r_impl_configCopy : List RV := [.c 2 4 true]
abbrev n_impl_configCopy : Nat := 57
theorem k_impl_configCopy : Known Pr mu n_impl_configCopy m_impl_configCopy r_impl_configCopy Go.Proofs.Try.f57.ntmps := .of h_impl_configCopy hm Go.Proofs.Try.func57
def c58_1 : XC := fun _ => .region [] [xo 4 (.mv (xb false))] [0,1]
def c58_2 : XC := fun _ => .region [] [xo 5 (.mv (xt 0)),
 xo 6 (.mv (xt 1)),
 xo 7 (.call 87 [(xt 5), (xt 6)]),
 xo 4 (.mv (xt 7))] [4]
def c58_3 : XC := fun _ => .seq c58_2 (fun _ => .ret)
def c58_4 : XC := fun _ => .seq c58_1 c58_3
def m_impl_EqualServers : MCode := c58_4 ()
def h_impl_EqualServers : Hints := [(0, [0,1], [], [], []), (1, [4], [], [], [])]
def r_impl_EqualServers : List RV := [.t 4]
abbrev n_impl_EqualServers : Nat := 58
theorem k_impl_EqualServers : Known Pr mu n_impl_EqualServers m_impl_EqualServers r_impl_EqualServers Go.Proofs.Try.f58.ntmps := .of h_impl_EqualServers hm Go.Proofs.Try.func58
def c59_1 : XC := fun _ => .region [] [xo 4 (.mv (xb false))] [0,1]
def c59_2 : XC := fun _ => .region [] [xo 5 (.mv (xt 0)),
 xo 6 (.mv (xt 1)),
 xo 7 (.call 88 [(xt 5), (xt 6)]),
 xo 8 (.bin .geq (xt 7) (xi 0)),
 xo 4 (.mv (xt 8))] [4]
def c59_3 : XC := fun _ => .seq c59_2 (fun _ => .ret)
def c59_4 : XC := fun _ => .seq c59_1 c59_3
def m_slices_ContainsFunc_implAcceptorimplAcceptor : MCode := c59_4 ()
def h_slices_ContainsFunc_implAcceptorimplAcceptor : Hints := [(0, [0,1], [], [], []), (1, [4], [], [], [])]
def r_slices_ContainsFunc_implAcceptorimplAcceptor : List RV := [.t 4]
abbrev n_slices_ContainsFunc_implAcceptorimplAcceptor : Nat := 59
theorem k_slices_ContainsFunc_implAcceptorimplAcceptor : Known Pr mu n_slices_ContainsFunc_implAcceptorimplAcceptor m_slices_ContainsFunc_implAcceptorimplAcceptor r_slices_ContainsFunc_implAcceptorimplAcceptor Go.Proofs.Try.f59.ntmps := .of h_slices_ContainsFunc_implAcceptorimplAcceptor hm Go.Proofs.Try.func59
def c60_1 : XC := fun _ => .region [] [xo 1 (.box (xt 0)),
 xo 2 (.mv (xb false))] [1]
def c60_2 : XC := fun _ => .region [] [xo 3 (.ld (xt 1) 6 true),
 xo 4 (.call 23 [(xt 3)]),
 xo 5 (.not (xt 4)),
 xo 2 (.mv (xt 5))] [2]
def c60_3 : XC := fun _ => .seq c60_2 (fun _ => .ret)
def c60_4 : XC := fun _ => .seq c60_1 c60_3
def m_impl_AreAcceptors_c1 : MCode := c60_4 ()
def h_impl_AreAcceptors_c1 : Hints := [(0, [1], [], [], []), (1, [2], [], [], [])]
def r_impl_AreAcceptors_c1 : List RV := [.t 2]
abbrev n_impl_AreAcceptors_c1 : Nat := 60
theorem k_impl_AreAcceptors_c1 : Known Pr mu n_impl_AreAcceptors_c1 m_impl_AreAcceptors_c1 r_impl_AreAcceptors_c1 Go.Proofs.Try.f60.ntmps := .of h_impl_AreAcceptors_c1 hm Go.Proofs.Try.func60
def c62_1 : XC := fun _ => .region [] [xo 4 (.mv (xi 0))] [0,1]
def c62_2 : XC := fun _ => .region [] [xo 5 (.mv (xt 1)),
 xo 6 (.mv (xt 0)),
 xo 7 (.mv (xt 1)),
 xo 8 (.len false (xt 7)),
 xo 9 (.callp 51 [(xt 6), (xt 8)]),
 xo 10 (.ia (xt 5) (xt 9) 1),
 xo 11 (.ld (xt 10) 1 false),
 xo 4 (.mv (xt 11))] [4]
def c62_3 : XC := fun _ => .seq c62_2 (fun _ => .ret)
def c62_4 : XC := fun _ => .seq c62_1 c62_3
def m_spec_l1PickInt : MCode := c62_4 ()
def h_spec_l1PickInt : Hints := [(0, [0,1], [], [], []), (1, [4], [], [], [])]
def r_spec_l1PickInt : List RV := [.t 4]
abbrev n_spec_l1PickInt : Nat := 62
theorem k_spec_l1PickInt : Known Pr mu n_spec_l1PickInt m_spec_l1PickInt r_spec_l1PickInt Go.Proofs.Try.f62.ntmps := .of h_spec_l1PickInt hm Go.Proofs.Try.func62
def c63_1 : XC := fun _ => .region [] [xo 1 (.box (xt 0)),
 xo 2 (.alloc [.int .i64 0, .int .i64 0, .int .i64 0, .int .i64 0, .slice none 0 0, .slice none 0 0])] [1,2]
def c63_2 : XC := fun _ => .region [] [xo 3 (.fa (xt 1) 0),
 xo 4 (.ld (xt 3) 1 false),
 ⟨(some 5), .fa (xt 1) 1, none, [0, 1]⟩,
 ⟨(some 6), .ld (xt 5) 1 false, none, [0, 1]⟩,
 ⟨(some 7), .fa (xt 1) 2, none, [0, 1, 2, 3]⟩,
 ⟨(some 8), .ld (xt 7) 4 true, none, [0, 1, 2, 3]⟩,
 ⟨(some 9), .call 57 [(xt 8)], none, [0, 1, 2, 3]⟩,
 xo 10 (.bld [.int .i64 0, .int .i64 0, .int .i64 0, .int .i64 0, .slice none 0 0, .slice none 0 0] [(0, 1, (xt 4)), (1, 1, (xt 6)), (2, 4, (xt 9))]),
 xn (.sto (xt 2) (xt 10) 6)] [2]
def c63_3 : XC := fun _ => .seq c63_2 (fun _ => .ret)
def c63_4 : XC := fun _ => .seq c63_1 c63_3
def m_impl_acceptorCopy : MCode := c63_4 ()
def h_impl_acceptorCopy : Hints := [(0, [1,2], [], [], []), (1, [2], [[],[],[0,1],[0,1],[0,1,2,3],[0,1,2,3],[0,1,2,3]], [], [])]
def r_impl_acceptorCopy : List RV := [.c 2 6 true]
abbrev n_impl_acceptorCopy : Nat := 63
theorem k_impl_acceptorCopy : Known Pr mu n_impl_acceptorCopy m_impl_acceptorCopy r_impl_acceptorCopy Go.Proofs.Try.f63.ntmps := .of h_impl_acceptorCopy hm Go.Proofs.Try.func63
def c64_1 : XC := fun _ => .region [] [xo 1 (.box (xt 0)),
 xo 2 (.alloc [.int .i64 0, .int .i64 0, .int .i64 0, .int .i64 0, .slice none 0 0, .slice none 0 0])] [1,2]
def c64_2 : XC := fun _ => .region [] [xo 3 (.fa (xt 1) 0),
 xo 4 (.ld (xt 3) 1 false),
 ⟨(some 5), .fa (xt 1) 1, none, [0, 1]⟩,
 ⟨(some 6), .ld (xt 5) 1 false, none, [0, 1]⟩,
 ⟨(some 7), .fa (xt 1) 2, none, [0, 1, 2, 3]⟩,
 ⟨(some 8), .ld (xt 7) 4 true, none, [0, 1, 2, 3]⟩,
 ⟨(some 9), .call 67 [(xt 8)], none, [0, 1, 2, 3]⟩,
 xo 10 (.bld [.int .i64 0, .int .i64 0, .int .i64 0, .int .i64 0, .slice none 0 0, .slice none 0 0] [(0, 1, (xt 4)), (1, 1, (xt 6)), (2, 4, (xt 9))]),
 xn (.sto (xt 2) (xt 10) 6)] [2]
def c64_3 : XC := fun _ => .seq c64_2 (fun _ => .ret)
def c64_4 : XC := fun _ => .seq c64_1 c64_3
def m_spec_l10Copy : MCode := c64_4 ()
def h_spec_l10Copy : Hints := [(0, [1,2], [], [], []), (1, [2], [[],[],[0,1],[0,1],[0,1,2,3],[0,1,2,3],[0,1,2,3]], [], [])]
def r_spec_l10Copy : List RV := [.c 2 6 true]
abbrev n_spec_l10Copy : Nat := 64
theorem k_spec_l10Copy : Known Pr mu n_spec_l10Copy m_spec_l10Copy r_spec_l10Copy Go.Proofs.Try.f64.ntmps := .of h_spec_l10Copy hm Go.Proofs.Try.func64
def c65_1 : XC := fun _ => .region [] [xo 6 (.mv (xb false))] [0,1,2]
def c65_2 : XC := fun _ => .region [] [xo 7 (.mv (xt 0)),
 xo 8 (.mv (xt 1)),
 xo 9 (.bin .geq (xt 7) (xt 8)),
 xo 10 (.mv (xt 9)),
 ⟨(some 11), .mv (xt 0), (some (10, true)), []⟩,
 ⟨(some 12), .mv (xt 2), (some (10, true)), []⟩,
 ⟨(some 13), .bin .leq (xt 11) (xt 12), (some (10, true)), []⟩,
 xo 14 (.pick (xt 10) (xt 13) (xb false)),
 xo 6 (.mv (xt 14))] [6]
def c65_3 : XC := fun _ => .seq c65_2 (fun _ => .ret)
def c65_4 : XC := fun _ => .seq c65_1 c65_3
def m_spec_l1In : MCode := c65_4 ()
def h_spec_l1In : Hints := [(0, [0,1,2], [], [], []), (1, [6], [], [], [])]
def r_spec_l1In : List RV := [.t 6]
abbrev n_spec_l1In : Nat := 65
theorem k_spec_l1In : Known Pr mu n_spec_l1In m_spec_l1In r_spec_l1In Go.Proofs.Try.f65.ntmps := .of h_spec_l1In hm Go.Proofs.Try.func65
def c66_1 : XC := fun _ => .region [] [xo 2 (.alloc [.int .i64 0, .int .i64 0, .slice none 0 0, .slice none 0 0])] [0,2]
def c66_2 : XC := fun _ => .region [] [xo 4 (.mv (xt 0)),
 xo 5 (.mv (xt 0)),
 xo 6 (.callp 51 [(xt 5), (xi 4)]),
 xo 7 (.bin .add (xi 1) (xt 6)),
 xo 8 (.callp 82 [(xt 4), (xt 7)]),
 xo 3 (.alloc [.int .i64 0, .int .i64 0, .slice none 0 0, .slice none 0 0]),
 xn (.sto (xt 3) (xt 8) 4)] [0,2,3]
def c66_3 : XC := fun _ => .region [] [xo 9 (.mv (xt 0)),
 xo 10 (.callp 51 [(xt 9), (xi 14)])] [0,2,3,10]
def c66_4 : XC := fun _ => .region [] [xo 12 (.bin .eql (xt 10) (xi 0)),
 xo 11 (.mv (xt 12))] [0,2,3,10,11]
def c66_5 : XC := fun _ => .region [] [xo 13 (.mv (xt 0)),
 xo 14 (.bsl 1 3 [.int .i64 0] [(0, (xi 0)), (1, (xi 20)), (2, (xi 21))]),
 xo 15 (.callp 62 [(xt 13), (xt 14)]),
 xo 16 (.fa (xt 3) 0),
 xn (.sto (xt 16) (xt 15) 1)] [2,3]
def c66_6 : XC := fun _ => .region [] [xo 18 (.bin .eql (xt 10) (xi 1)),
 xo 17 (.mv (xt 18))] [0,2,3,10,17]
def c66_7 : XC := fun _ => .region [] [xo 19 (.mv (xt 0)),
 xo 20 (.callp 51 [(xt 19), (xi 7)]),
 xo 21 (.bin .sub (xt 20) (xi 1)),
 xo 22 (.fa (xt 3) 1),
 xn (.sto (xt 22) (xt 21) 1)] [2,3]
def c66_8 : XC := fun _ => .region [] [xo 24 (.bin .eql (xt 10) (xi 2)),
 xo 23 (.mv (xt 24))] [0,2,3,10,23]
def c66_9 : XC := fun _ => .region [] [xo 25 (.mv (xt 0)),
 xo 26 (.callp 89 [(xt 25)]),
 xo 27 (.fa (xt 3) 2),
 xn (.sto (xt 27) (xt 26) 1)] [2,3]
def c66_10 : XC := fun _ => .region [] [xo 29 (.bin .eql (xt 10) (xi 3)),
 xo 28 (.mv (xt 29))] [0,2,3,28]
def c66_11 : XC := fun _ => .region [] [xo 30 (.mv (xt 0)),
 xo 31 (.callp 89 [(xt 30)]),
 xo 32 (.fa (xt 3) 3),
 xn (.sto (xt 32) (xt 31) 1)] [2,3]
def c66_12 : XC := fun _ => .cond (xt 28) c66_11 (fun _ => .skip)
def c66_13 : XC := fun _ => .seq c66_10 c66_12
def c66_14 : XC := fun _ => .cond (xt 23) c66_9 c66_13
def c66_15 : XC := fun _ => .seq c66_8 c66_14
def c66_16 : XC := fun _ => .cond (xt 17) c66_7 c66_15
def c66_17 : XC := fun _ => .seq c66_6 c66_16
def c66_18 : XC := fun _ => .cond (xt 11) c66_5 c66_17
def c66_19 : XC := fun _ => .seq c66_4 c66_18
def c66_20 : XC := fun _ => .block 0 c66_19
def c66_21 : XC := fun _ => .seq c66_3 c66_20
def c66_22 : XC := fun _ => .region [] [xo 33 (.ld (xt 3) 4 true),
 xn (.sto (xt 2) (xt 33) 4)] [2]
def c66_23 : XC := fun _ => .seq c66_22 (fun _ => .ret)
def c66_24 : XC := fun _ => .seq c66_21 c66_23
def c66_25 : XC := fun _ => .seq c66_2 c66_24
def c66_26 : XC := fun _ => .seq c66_1 c66_25
def m_spec_l8Any : MCode := c66_26 ()
def h_spec_l8Any : Hints := [(0, [0,2], [], [], []), (1, [0,2,3], [], [], []), (2, [0,2,3,10], [], [], []), (3, [0,2,3,10,11], [], [], []), (4, [2,3], [], [], []), (5, [0,2,3,10,17], [], [], []), (6, [2,3], [], [], []), (7, [0,2,3,10,23], [], [], []), (8, [2,3], [], [], []), (9, [0,2,3,28], [], [], []), (10, [2,3], [], [], []), (11, [2], [], [], [])]
def r_spec_l8Any : List RV := [.c 2 4 true]
abbrev n_spec_l8Any : Nat := 66
theorem k_spec_l8Any : Known Pr mu n_spec_l8Any m_spec_l8Any r_spec_l8Any Go.Proofs.Try.f66.ntmps := .of h_spec_l8Any hm Go.Proofs.Try.func66
def c67_1 : XC := fun _ => .region [] [xo 1 (.box (xt 0)),
 xo 2 (.alloc [.int .i64 0, .int .i64 0, .slice none 0 0, .slice none 0 0])] [1,2]
def c67_2 : XC := fun _ => .region [] [xo 3 (.fa (xt 1) 0),
 xo 4 (.ld (xt 3) 1 false),
 ⟨(some 5), .fa (xt 1) 1, none, [0, 1]⟩,
 ⟨(some 6), .ld (xt 5) 1 false, none, [0, 1]⟩,
 xo 7 (.bsl 1 0 [.int .i64 0] []),
 ⟨(some 8), .fa (xt 1) 2, none, [0, 1, 2, 3, 4]⟩,
 ⟨(some 9), .ld (xt 8) 1 false, none, [0, 1, 2, 3, 4]⟩,
 ⟨(some 10), .appn (xt 7) (xt 9) 1 8, none, [1000000, 0, 1, 2, 3]⟩,
 xo 11 (.bsl 1 0 [.int .i64 0] []),
 ⟨(some 12), .fa (xt 1) 3, none, [0, 1, 2, 3, 4, 5, 6, 7, 8]⟩,
 ⟨(some 13), .ld (xt 12) 1 false, none, [0, 1, 2, 3, 4, 5, 6, 7, 8]⟩,
 ⟨(some 14), .appn (xt 11) (xt 13) 1 8, none, [1000000, 0, 1, 2, 3]⟩,
 xo 15 (.bld [.int .i64 0, .int .i64 0, .slice none 0 0, .slice none 0 0] [(0, 1, (xt 4)), (1, 1, (xt 6)), (2, 1, (xt 10)), (3, 1, (xt 14))]),
 xn (.sto (xt 2) (xt 15) 4)] [2]
def c67_3 : XC := fun _ => .seq c67_2 (fun _ => .ret)
def c67_4 : XC := fun _ => .seq c67_1 c67_3
def m_spec_l8Copy : MCode := c67_4 ()
def h_spec_l8Copy : Hints := [(0, [1,2], [], [], []), (1, [2], [[],[],[0,1],[0,1],[],[0,1,2,3,4],[0,1,2,3,4],[1000000,0,1,2,3],[],[0,1,2,3,4,5,6,7,8],[0,1,2,3,4,5,6,7,8],[1000000,0,1,2,3]], [], [])]
def r_spec_l8Copy : List RV := [.c 2 4 true]
abbrev n_spec_l8Copy : Nat := 67
theorem k_spec_l8Copy : Known Pr mu n_spec_l8Copy m_spec_l8Copy r_spec_l8Copy Go.Proofs.Try.f67.ntmps := .of h_spec_l8Copy hm Go.Proofs.Try.func67
def c68_1 : XC := fun _ => .region [] [xo 2 (.box (xt 0)),
 xo 3 (.box (xt 1)),
 xo 4 (.mv (xb false))] [2,3]
def c68_2 : XC := fun _ => .region [] [xo 5 (.fa (xt 2) 0),
 xo 6 (.ld (xt 5) 1 false),
 xo 7 (.fa (xt 3) 0),
 xo 8 (.ld (xt 7) 1 false),
 xo 9 (.bin .eql (xt 6) (xt 8)),
 xo 10 (.mv (xt 9)),
 ⟨(some 11), .fa (xt 2) 1, (some (10, true)), []⟩,
 ⟨(some 12), .ld (xt 11) 1 false, (some (10, true)), []⟩,
 ⟨(some 13), .fa (xt 3) 1, (some (10, true)), []⟩,
 ⟨(some 14), .ld (xt 13) 1 false, (some (10, true)), []⟩,
 ⟨(some 15), .bin .eql (xt 12) (xt 14), (some (10, true)), []⟩,
 xo 16 (.pick (xt 10) (xt 15) (xb false)),
 xo 17 (.mv (xt 16)),
 ⟨(some 18), .fa (xt 2) 2, (some (17, true)), []⟩,
 ⟨(some 19), .ld (xt 18) 1 false, (some (17, true)), []⟩,
 ⟨(some 20), .fa (xt 3) 2, (some (17, true)), []⟩,
 ⟨(some 21), .ld (xt 20) 1 false, (some (17, true)), []⟩,
 ⟨(some 22), .call 90 [(xt 19), (xt 21)], (some (17, true)), []⟩,
 xo 23 (.pick (xt 17) (xt 22) (xb false)),
 xo 24 (.mv (xt 23)),
 ⟨(some 25), .fa (xt 2) 3, (some (24, true)), []⟩,
 ⟨(some 26), .ld (xt 25) 1 false, (some (24, true)), []⟩,
 ⟨(some 27), .fa (xt 3) 3, (some (24, true)), []⟩,
 ⟨(some 28), .ld (xt 27) 1 false, (some (24, true)), []⟩,
 ⟨(some 29), .call 90 [(xt 26), (xt 28)], (some (24, true)), []⟩,
 xo 30 (.pick (xt 24) (xt 29) (xb false)),
 xo 4 (.mv (xt 30))] [4]
def c68_3 : XC := fun _ => .seq c68_2 (fun _ => .ret)
def c68_4 : XC := fun _ => .seq c68_1 c68_3
def m_spec_EqualConfigs : MCode := c68_4 ()
def h_spec_EqualConfigs : Hints := [(0, [2,3], [], [], []), (1, [4], [], [], [])]
def r_spec_EqualConfigs : List RV := [.t 4]
abbrev n_spec_EqualConfigs : Nat := 68
theorem k_spec_EqualConfigs : Known Pr mu n_spec_EqualConfigs m_spec_EqualConfigs r_spec_EqualConfigs Go.Proofs.Try.f68.ntmps := .of h_spec_EqualConfigs hm Go.Proofs.Try.func68
def c70_1 : XC := fun _ => .region [] [xo 4 (.mv (xb false))] [0,1]
def c70_2 : XC := fun _ => .region [] [xo 5 (.mv (xi 0))] [0,1,5]
def c70_3 : XC := fun _ => .region [] [xo 6 (.mv (xt 5)),
 xo 7 (.mv (xt 0)),
 xo 8 (.len false (xt 7)),
 xo 9 (.bin .lss (xt 6) (xt 8))] [0,1,5,9]
def c70_4 : XC := fun _ => .cond (xt 9) (fun _ => .skip) (fun _ => .exit 0)
def c70_5 : XC := fun _ => .seq c70_3 c70_4
def c70_6 : XC := fun _ => .region [] [xo 12 (.mv (xt 0)),
 xo 13 (.mv (xt 5)),
 xo 14 (.ia (xt 12) (xt 13) 1),
 xo 15 (.ld (xt 14) 1 false),
 xo 16 (.mv (xt 1)),
 xo 17 (.bin .eql (xt 15) (xt 16))] [0,1,5,17]
def c70_7 : XC := fun _ => .region [] [xo 4 (.mv (xb true))] [4]
def c70_8 : XC := fun _ => .seq c70_7 (fun _ => .ret)
def c70_9 : XC := fun _ => .cond (xt 17) c70_8 (fun _ => .skip)
def c70_10 : XC := fun _ => .seq c70_6 c70_9
def c70_11 : XC := fun _ => .block 1 c70_10
def c70_12 : XC := fun _ => .region [] [xo 10 (.mv (xt 5)),
 xo 11 (.bin .add (xt 10) (xi 1)),
 xo 5 (.mv (xt 11))] [0,1,5]
def c70_13 : XC := fun _ => .seq c70_11 c70_12
def c70_14 : XC := fun _ => .seq c70_5 c70_13
def c70_15 : XC := fun _ => .loop c70_14
def c70_16 : XC := fun _ => .block 0 c70_15
def c70_17 : XC := fun _ => .seq c70_2 c70_16
def c70_18 : XC := fun _ => .region [] [xo 4 (.mv (xb false))] [4]
def c70_19 : XC := fun _ => .seq c70_18 (fun _ => .ret)
def c70_20 : XC := fun _ => .seq c70_17 c70_19
def c70_21 : XC := fun _ => .seq c70_1 c70_20
def m_spec_HasServer : MCode := c70_21 ()
def h_spec_HasServer : Hints := [(0, [0,1], [], [], []), (1, [0,1,5], [], [], []), (2, [0,1,5,9], [], [], []), (4, [0,1,5,17], [], [], []), (5, [4], [], [], []), (3, [0,1,5], [], [], []), (6, [4], [], [], [])]
def r_spec_HasServer : List RV := [.t 4]
abbrev n_spec_HasServer : Nat := 70
theorem k_spec_HasServer : Known Pr mu n_spec_HasServer m_spec_HasServer r_spec_HasServer Go.Proofs.Try.f70.ntmps := .of h_spec_HasServer hm Go.Proofs.Try.func70
def c72_1 : XC := fun _ => .region [] [xo 2 (.mv (xb false))] [0]
def c72_2 : XC := fun _ => .region [] [xo 5 (.mv (xt 0)),
 xo 6 (.len false (xt 5)),
 xo 7 (.mv (xi 0))] [0,5,6,7]
def c72_3 : XC := fun _ => .region [] [xo 8 (.bin .lss (xt 7) (xt 6))] [0,5,6,7,8]
def c72_4 : XC := fun _ => .cond (xt 8) (fun _ => .skip) (fun _ => .exit 0)
def c72_5 : XC := fun _ => .region [] [xo 9 (.mv (xt 7)),
 xo 10 (.ia (xt 5) (xt 7) 1),
 xo 11 (.ld (xt 10) 1 false),
 xo 3 (.mv (xt 9)),
 xo 4 (.mv (xt 11))] [0,3,4,5,6,7]
def c72_6 : XC := fun _ => .region [] [xo 12 (.mv (xt 4)),
 xo 13 (.call 55 [(xt 12), (xi 0), (xi 4)]),
 xo 14 (.not (xt 13)),
 xo 15 (.mv (xt 14)),
 ⟨(some 16), .mv (xt 3), (some (15, false)), []⟩,
 ⟨(some 17), .bin .gtr (xt 16) (xi 0), (some (15, false)), []⟩,
 ⟨(some 18), .mv (xt 17), (some (15, false)), []⟩,
 ⟨(some 19), .mv (xt 4), (some (18, true)), []⟩,
 ⟨(some 20), .mv (xt 0), (some (18, true)), []⟩,
 ⟨(some 21), .mv (xt 3), (some (18, true)), []⟩,
 ⟨(some 22), .bin .sub (xt 21) (xi 1), (some (18, true)), []⟩,
 ⟨(some 23), .ia (xt 20) (xt 22) 1, (some (18, true)), []⟩,
 ⟨(some 24), .ld (xt 23) 1 false, (some (18, true)), []⟩,
 ⟨(some 25), .bin .leq (xt 19) (xt 24), (some (18, true)), []⟩,
 ⟨(some 26), .pick (xt 18) (xt 25) (xb false), (some (15, false)), []⟩,
 xo 27 (.pick (xt 15) (xb true) (xt 26))] [0,5,6,7,27]
def c72_7 : XC := fun _ => .region [] [xo 2 (.mv (xb false))] [2]
def c72_8 : XC := fun _ => .seq c72_7 (fun _ => .ret)
def c72_9 : XC := fun _ => .cond (xt 27) c72_8 (fun _ => .skip)
def c72_10 : XC := fun _ => .seq c72_6 c72_9
def c72_11 : XC := fun _ => .seq c72_5 c72_10
def c72_12 : XC := fun _ => .block 1 c72_11
def c72_13 : XC := fun _ => .region [] [xo 28 (.bin .add (xt 7) (xi 1)),
 xo 7 (.mv (xt 28))] [0,5,6,7]
def c72_14 : XC := fun _ => .seq c72_12 c72_13
def c72_15 : XC := fun _ => .seq c72_4 c72_14
def c72_16 : XC := fun _ => .seq c72_3 c72_15
def c72_17 : XC := fun _ => .loop c72_16
def c72_18 : XC := fun _ => .block 0 c72_17
def c72_19 : XC := fun _ => .seq c72_2 c72_18
def c72_20 : XC := fun _ => .region [] [xo 2 (.mv (xb true))] [2]
def c72_21 : XC := fun _ => .seq c72_20 (fun _ => .ret)
def c72_22 : XC := fun _ => .seq c72_19 c72_21
def c72_23 : XC := fun _ => .seq c72_1 c72_22
def m_impl_AreServers : MCode := c72_23 ()
def h_impl_AreServers : Hints := [(0, [0], [], [], []), (1, [0,5,6,7], [], [], []), (2, [0,5,6,7,8], [], [], []), (3, [0,3,4,5,6,7], [], [], []), (4, [0,5,6,7,27], [], [], []), (5, [2], [], [], []), (6, [0,5,6,7], [], [], []), (7, [2], [], [], [])]
def r_impl_AreServers : List RV := [.t 2]
abbrev n_impl_AreServers : Nat := 72
theorem k_impl_AreServers : Known Pr mu n_impl_AreServers m_impl_AreServers r_impl_AreServers Go.Proofs.Try.f72.ntmps := .of h_impl_AreServers hm Go.Proofs.Try.func72
def c73_1 : XC := fun _ => .region [] [xo 4 (.mv (.const (.slice none 0 0)))] [0,1]
def c73_2 : XC := fun _ => .region [] [xo 5 (.mv (xt 0)),
 xo 6 (.mv (xt 0)),
 xo 7 (.mv (xt 1)),
 xo 8 (.call 94 [(xt 6), (xt 7)]),
 xo 9 (.call 94 [(xt 5), (xt 8)]),
 xo 4 (.mv (xt 9))] [4]
def c73_3 : XC := fun _ => .seq c73_2 (fun _ => .ret)
def c73_4 : XC := fun _ => .seq c73_1 c73_3
def m_impl_CommonServers : MCode := c73_4 ()
def h_impl_CommonServers : Hints := [(0, [0,1], [], [], []), (1, [4], [], [], [])]
def r_impl_CommonServers : List RV := [.t 4]
abbrev n_impl_CommonServers : Nat := 73
theorem k_impl_CommonServers : Known Pr mu n_impl_CommonServers m_impl_CommonServers r_impl_CommonServers Go.Proofs.Try.f73.ntmps := .of h_impl_CommonServers hm Go.Proofs.Try.func73
def c74_1 : XC := fun _ => .region [] [xo 2 (.mv (xb false))] [0]
def c74_2 : XC := fun _ => .region [] [xo 3 (.mv (xi 0))] [0,3]
def c74_3 : XC := fun _ => .region [] [xo 4 (.mv (xt 3)),
 xo 5 (.mv (xt 0)),
 xo 6 (.len false (xt 5)),
 xo 7 (.bin .lss (xt 4) (xt 6))] [0,3,7]
def c74_4 : XC := fun _ => .cond (xt 7) (fun _ => .skip) (fun _ => .exit 0)
def c74_5 : XC := fun _ => .seq c74_3 c74_4
def c74_6 : XC := fun _ => .region [] [xo 10 (.mv (xt 0)),
 xo 11 (.mv (xt 3)),
 xo 12 (.ia (xt 10) (xt 11) 1),
 xo 13 (.ld (xt 12) 1 false),
 xo 14 (.call 65 [(xt 13), (xi 0), (xi 4)]),
 xo 15 (.not (xt 14)),
 xo 16 (.mv (xt 15)),
 ⟨(some 17), .mv (xt 3), (some (16, false)), []⟩,
 ⟨(some 18), .bin .gtr (xt 17) (xi 0), (some (16, false)), []⟩,
 ⟨(some 19), .mv (xt 18), (some (16, false)), []⟩,
 ⟨(some 20), .mv (xt 0), (some (19, true)), []⟩,
 ⟨(some 21), .mv (xt 3), (some (19, true)), []⟩,
 ⟨(some 22), .bin .sub (xt 21) (xi 1), (some (19, true)), []⟩,
 ⟨(some 23), .ia (xt 20) (xt 22) 1, (some (19, true)), []⟩,
 ⟨(some 24), .ld (xt 23) 1 false, (some (19, true)), []⟩,
 ⟨(some 25), .mv (xt 0), (some (19, true)), []⟩,
 ⟨(some 26), .mv (xt 3), (some (19, true)), []⟩,
 ⟨(some 27), .ia (xt 25) (xt 26) 1, (some (19, true)), [10, 11, 12, 13, 14]⟩,
 ⟨(some 28), .ld (xt 27) 1 false, (some (19, true)), [10, 11, 12, 13, 14]⟩,
 ⟨(some 29), .bin .geq (xt 24) (xt 28), (some (19, true)), []⟩,
 ⟨(some 30), .pick (xt 19) (xt 29) (xb false), (some (16, false)), []⟩,
 xo 31 (.pick (xt 16) (xb true) (xt 30))] [0,3,31]
def c74_7 : XC := fun _ => .region [] [xo 2 (.mv (xb false))] [2]
def c74_8 : XC := fun _ => .seq c74_7 (fun _ => .ret)
def c74_9 : XC := fun _ => .cond (xt 31) c74_8 (fun _ => .skip)
def c74_10 : XC := fun _ => .seq c74_6 c74_9
def c74_11 : XC := fun _ => .block 1 c74_10
def c74_12 : XC := fun _ => .region [] [xo 8 (.mv (xt 3)),
 xo 9 (.bin .add (xt 8) (xi 1)),
 xo 3 (.mv (xt 9))] [0,3]
def c74_13 : XC := fun _ => .seq c74_11 c74_12
def c74_14 : XC := fun _ => .seq c74_5 c74_13
def c74_15 : XC := fun _ => .loop c74_14
def c74_16 : XC := fun _ => .block 0 c74_15
def c74_17 : XC := fun _ => .seq c74_2 c74_16
def c74_18 : XC := fun _ => .region [] [xo 2 (.mv (xb true))] [2]
def c74_19 : XC := fun _ => .seq c74_18 (fun _ => .ret)
def c74_20 : XC := fun _ => .seq c74_17 c74_19
def c74_21 : XC := fun _ => .seq c74_1 c74_20
def m_spec_AreServers : MCode := c74_21 ()
def h_spec_AreServers : Hints := [(0, [0], [], [], []), (1, [0,3], [], [], []), (2, [0,3,7], [], [], []), (4, [0,3,31], [[],[],[],[],[],[],[],[],[],[],[],[],[],[],[],[],[],[10,11,12,13,14],[10,11,12,13,14]], [], []), (5, [2], [], [], []), (3, [0,3], [], [], []), (6, [2], [], [], [])]
def r_spec_AreServers : List RV := [.t 2]
abbrev n_spec_AreServers : Nat := 74
theorem k_spec_AreServers : Known Pr mu n_spec_AreServers m_spec_AreServers r_spec_AreServers Go.Proofs.Try.f74.ntmps := .of h_spec_AreServers hm Go.Proofs.Try.func74
def c75_1 : XC := fun _ => .region [] [xo 4 (.mv (.const (.slice none 0 0)))] [0,1]
def c75_2 : XC := fun _ => .region [] [xo 7 (.bsl 1 0 [.int .i64 0] []),
 xo 5 (.mv (xt 7))] [0,1,5]
def c75_3 : XC := fun _ => .region [] [xo 6 (.mv (xi 0))] [0,1,5,6]
def c75_4 : XC := fun _ => .region [] [xo 8 (.mv (xt 6)),
 xo 9 (.mv (xt 0)),
 xo 10 (.len false (xt 9)),
 xo 11 (.bin .lss (xt 8) (xt 10))] [0,1,5,6,11]
def c75_5 : XC := fun _ => .cond (xt 11) (fun _ => .skip) (fun _ => .exit 0)
def c75_6 : XC := fun _ => .seq c75_4 c75_5
def c75_7 : XC := fun _ => .region [] [xo 14 (.mv (xt 1)),
 xo 15 (.mv (xt 0)),
 xo 16 (.mv (xt 6)),
 xo 17 (.ia (xt 15) (xt 16) 1),
 xo 18 (.ld (xt 17) 1 false),
 xo 19 (.call 70 [(xt 14), (xt 18)])] [0,1,5,6,19]
def c75_8 : XC := fun _ => .region [] [xo 20 (.mv (xt 5)),
 xo 21 (.mv (xt 0)),
 xo 22 (.mv (xt 6)),
 xo 23 (.ia (xt 21) (xt 22) 1),
 xo 24 (.ld (xt 23) 1 false),
 xo 25 (.call 93 [(xt 20), (xt 24)]),
 xo 5 (.mv (xt 25))] [0,1,5,6]
def c75_9 : XC := fun _ => .cond (xt 19) c75_8 (fun _ => .skip)
def c75_10 : XC := fun _ => .seq c75_7 c75_9
def c75_11 : XC := fun _ => .block 1 c75_10
def c75_12 : XC := fun _ => .region [] [xo 12 (.mv (xt 6)),
 xo 13 (.bin .add (xt 12) (xi 1)),
 xo 6 (.mv (xt 13))] [0,1,5,6]
def c75_13 : XC := fun _ => .seq c75_11 c75_12
def c75_14 : XC := fun _ => .seq c75_6 c75_13
def c75_15 : XC := fun _ => .loop c75_14
def c75_16 : XC := fun _ => .block 0 c75_15
def c75_17 : XC := fun _ => .seq c75_3 c75_16
def c75_18 : XC := fun _ => .region [] [xo 26 (.mv (xt 5)),
 xo 4 (.mv (xt 26))] [4]
def c75_19 : XC := fun _ => .seq c75_18 (fun _ => .ret)
def c75_20 : XC := fun _ => .seq c75_17 c75_19
def c75_21 : XC := fun _ => .seq c75_2 c75_20
def c75_22 : XC := fun _ => .seq c75_1 c75_21
def m_spec_CommonServers : MCode := c75_22 ()
def h_spec_CommonServers : Hints := [(0, [0,1], [], [], []), (1, [0,1,5], [], [], []), (2, [0,1,5,6], [], [], []), (3, [0,1,5,6,11], [], [], []), (5, [0,1,5,6,19], [], [], []), (6, [0,1,5,6], [], [], []), (4, [0,1,5,6], [], [], []), (7, [4], [], [], [])]
def r_spec_CommonServers : List RV := [.t 4]
abbrev n_spec_CommonServers : Nat := 75
theorem k_spec_CommonServers : Known Pr mu n_spec_CommonServers m_spec_CommonServers r_spec_CommonServers Go.Proofs.Try.f75.ntmps := .of h_spec_CommonServers hm Go.Proofs.Try.func75
def c77_1 : XC := fun _ => .region [] [xo 4 (.mv (xb false))] [0,1]
def c77_2 : XC := fun _ => .region [] [xo 5 (.mv (xt 0)),
 xo 6 (.mv (xt 1)),
 xo 7 (.callp 51 [(xt 5), (xt 6)]),
 xo 8 (.bin .eql (xt 7) (xi 0)),
 xo 4 (.mv (xt 8))] [4]
def c77_3 : XC := fun _ => .seq c77_2 (fun _ => .ret)
def c77_4 : XC := fun _ => .seq c77_1 c77_3
def m_spec_l1Once : MCode := c77_4 ()
def h_spec_l1Once : Hints := [(0, [0,1], [], [], []), (1, [4], [], [], [])]
def r_spec_l1Once : List RV := [.t 4]
abbrev n_spec_l1Once : Nat := 77
theorem k_spec_l1Once : Known Pr mu n_spec_l1Once m_spec_l1Once r_spec_l1Once Go.Proofs.Try.f77.ntmps := .of h_spec_l1Once hm Go.Proofs.Try.func77
def c81_1 : XC := fun _ => .region [] [xo 2 (.mv (.const (.slice none 0 0)))] [0]
def c81_2 : XC := fun _ => .region [] [xo 5 (.bsl 1 0 [.int .i64 0] []),
 xo 3 (.mv (xt 5))] [0,3]
def c81_3 : XC := fun _ => .region [] [xo 4 (.mv (xi 0))] [0,3,4]
def c81_4 : XC := fun _ => .region [] [xo 6 (.mv (xt 4)),
 xo 7 (.bin .lss (xt 6) (xi 3))] [0,3,4,7]
def c81_5 : XC := fun _ => .cond (xt 7) (fun _ => .skip) (fun _ => .exit 0)
def c81_6 : XC := fun _ => .seq c81_4 c81_5
def c81_7 : XC := fun _ => .region [] [xo 10 (.mv (xt 0)),
 xo 11 (.callp 77 [(xt 10), (xi 3)]),
 xo 12 (.not (xt 11))] [0,3,4,12]
def c81_8 : XC := fun _ => .region [] [xo 13 (.mv (xt 3)),
 xo 14 (.mv (xt 4)),
 xo 15 (.bsl 1 1 [.int .i64 0] [(0, (xt 14))]),
 xo 16 (.app (xt 13) (xt 15) 1 8),
 xo 3 (.mv (xt 16))] [0,3,4]
def c81_9 : XC := fun _ => .cond (xt 12) c81_8 (fun _ => .skip)
def c81_10 : XC := fun _ => .seq c81_7 c81_9
def c81_11 : XC := fun _ => .block 1 c81_10
def c81_12 : XC := fun _ => .region [] [xo 8 (.mv (xt 4)),
 xo 9 (.bin .add (xt 8) (xi 1)),
 xo 4 (.mv (xt 9))] [0,3,4]
def c81_13 : XC := fun _ => .seq c81_11 c81_12
def c81_14 : XC := fun _ => .seq c81_6 c81_13
def c81_15 : XC := fun _ => .loop c81_14
def c81_16 : XC := fun _ => .block 0 c81_15
def c81_17 : XC := fun _ => .seq c81_3 c81_16
def c81_18 : XC := fun _ => .region [] [xo 17 (.mv (xt 3)),
 xo 2 (.mv (xt 17))] [2]
def c81_19 : XC := fun _ => .seq c81_18 (fun _ => .ret)
def c81_20 : XC := fun _ => .seq c81_17 c81_19
def c81_21 : XC := fun _ => .seq c81_2 c81_20
def c81_22 : XC := fun _ => .seq c81_1 c81_21
def m_spec_l11Set : MCode := c81_22 ()
def h_spec_l11Set : Hints := [(0, [0], [], [], []), (1, [0,3], [], [], []), (2, [0,3,4], [], [], []), (3, [0,3,4,7], [], [], []), (5, [0,3,4,12], [], [], []), (6, [0,3,4], [], [], []), (4, [0,3,4], [], [], []), (7, [2], [], [], [])]
def r_spec_l11Set : List RV := [.t 2]
abbrev n_spec_l11Set : Nat := 81
theorem k_spec_l11Set : Known Pr mu n_spec_l11Set m_spec_l11Set r_spec_l11Set Go.Proofs.Try.f81.ntmps := .of h_spec_l11Set hm Go.Proofs.Try.func81
def c82_1 : XC := fun _ => .region [] [xo 4 (.alloc [.int .i64 0, .int .i64 0, .slice none 0 0, .slice none 0 0])] [0,1,4]
def c82_2 : XC := fun _ => .region [] [xo 7 (.mv (xt 1)),
 xo 8 (.mv (xt 0)),
 xo 9 (.callp 51 [(xt 8), (xi 5)]),
 xo 10 (.bld [.int .i64 0, .int .i64 0, .slice none 0 0, .slice none 0 0] [(0, 1, (xt 7)), (1, 1, (xt 9))]),
 xo 5 (.alloc [.int .i64 0, .int .i64 0, .slice none 0 0, .slice none 0 0]),
 xn (.sto (xt 5) (xt 10) 4)] [0,4,5]
def o82_2_0 : MOper := xo 11 (.mv (xt 0))
def o82_2_1 : MOper := ⟨(some 12), .callp 96 [(xt 11)], none, []⟩
def o82_2_2 : MOper := xo 13 (.faf (xt 5) 1)
def o82_2_3 : MOper := ⟨(some 14), .ld (xt 13) 1 false, none, []⟩
def o82_2_4 : MOper := ⟨(some 15), .call 93 [(xt 12), (xt 14)], none, []⟩
def o82_2_5 : MOper := xo 16 (.faf (xt 5) 2)
def o82_2_6 : MOper := ⟨none, .sto (xt 16) (xt 15) 1, none, []⟩
def c82_3 : XC := fun _ => .regionA 7 (fun _ => .step 0 o82_2_2 (fun _ => .step 1 o82_2_0 (fun _ => .both (fun _ => .step 2 o82_2_3 (fun _ => .step 3 o82_2_1 (fun _ => .step 4 o82_2_4 (fun _ => .step 5 o82_2_5 (fun _ => .step 6 o82_2_6 (fun _ => .fin)))))) (fun _ => .step 2 o82_2_1 (fun _ => .step 3 o82_2_3 (fun _ => .step 4 o82_2_4 (fun _ => .step 5 o82_2_5 (fun _ => .step 6 o82_2_6 (fun _ => .fin))))))))) [0,4,5]
def c82_4 : XC := fun _ => .region [] [xo 17 (.fa (xt 5) 2),
 xo 18 (.ld (xt 17) 1 false),
 xo 19 (.len false (xt 18)),
 xo 20 (.bin .gtr (xt 19) (xi 3))] [0,4,5,20]
def c82_5 : XC := fun _ => .region [] [xo 21 (.fa (xt 5) 1),
 xo 22 (.ld (xt 21) 1 false),
 xo 23 (.bsl 1 1 [.int .i64 0] [(0, (xt 22))]),
 xo 24 (.fa (xt 5) 2),
 xn (.sto (xt 24) (xt 23) 1)] [0,4,5]
def c82_6 : XC := fun _ => .cond (xt 20) c82_5 (fun _ => .skip)
def c82_7 : XC := fun _ => .seq c82_4 c82_6
def c82_8 : XC := fun _ => .region [] [xo 25 (.mv (xt 0)),
 xo 26 (.callp 77 [(xt 25), (xi 2)])] [0,4,5,26]
def o82_6_0 : MOper := xo 27 (.mv (xt 0))
def o82_6_1 : MOper := ⟨(some 28), .callp 96 [(xt 27)], none, []⟩
def o82_6_2 : MOper := xo 29 (.faf (xt 5) 2)
def o82_6_3 : MOper := ⟨(some 30), .ld (xt 29) 1 false, none, []⟩
def o82_6_4 : MOper := ⟨(some 31), .call 97 [(xt 28), (xt 30)], none, []⟩
def o82_6_5 : MOper := ⟨(some 6), .mv (xt 31), none, []⟩
def c82_9 : XC := fun _ => .regionA 6 (fun _ => .step 0 o82_6_2 (fun _ => .step 1 o82_6_0 (fun _ => .both (fun _ => .step 2 o82_6_3 (fun _ => .step 3 o82_6_1 (fun _ => .step 4 o82_6_4 (fun _ => .step 5 o82_6_5 (fun _ => .fin))))) (fun _ => .step 2 o82_6_1 (fun _ => .step 3 o82_6_3 (fun _ => .step 4 o82_6_4 (fun _ => .step 5 o82_6_5 (fun _ => .fin)))))))) [4,5,6]
def c82_10 : XC := fun _ => .region [] [xo 32 (.mv (xt 6)),
 xo 33 (.len false (xt 32)),
 xo 34 (.bin .gtr (xt 33) (xi 0))] [4,5,6,34]
def c82_11 : XC := fun _ => .region [] [xo 35 (.mv (xt 6)),
 xo 36 (.slc false (xt 35) none (some (xi 1)) none 1),
 xo 37 (.fa (xt 5) 3),
 xn (.sto (xt 37) (xt 36) 1)] [4,5]
def c82_12 : XC := fun _ => .cond (xt 34) c82_11 (fun _ => .skip)
def c82_13 : XC := fun _ => .seq c82_10 c82_12
def c82_14 : XC := fun _ => .seq c82_9 c82_13
def c82_15 : XC := fun _ => .cond (xt 26) c82_14 (fun _ => .skip)
def c82_16 : XC := fun _ => .seq c82_8 c82_15
def c82_17 : XC := fun _ => .region [] [xo 38 (.ld (xt 5) 4 true),
 xn (.sto (xt 4) (xt 38) 4)] [4]
def c82_18 : XC := fun _ => .seq c82_17 (fun _ => .ret)
def c82_19 : XC := fun _ => .seq c82_16 c82_18
def c82_20 : XC := fun _ => .seq c82_7 c82_19
def c82_21 : XC := fun _ => .seq c82_3 c82_20
def c82_22 : XC := fun _ => .seq c82_2 c82_21
def c82_23 : XC := fun _ => .seq c82_1 c82_22
def m_spec_l8Config : MCode := c82_23 ()
def h_spec_l8Config : Hints := [(0, [0,1,4], [], [], []), (1, [0,4,5], [], [], []), (2, [0,4,5], [], [9999], [0,2,5]), (3, [0,4,5,20], [], [], []), (4, [0,4,5], [], [], []), (5, [0,4,5,26], [], [], []), (6, [4,5,6], [], [9999], [0,2]), (7, [4,5,6,34], [], [], []), (8, [4,5], [], [], []), (9, [4], [], [], [])]
def r_spec_l8Config : List RV := [.c 4 4 true]
abbrev n_spec_l8Config : Nat := 82
theorem k_spec_l8Config : Known Pr mu n_spec_l8Config m_spec_l8Config r_spec_l8Config Go.Proofs.Try.f82.ntmps := .of h_spec_l8Config hm Go.Proofs.Try.func82
def c83_1 : XC := fun _ => .region [] [xo 2 (.mv (xi 0))] [0]
def c83_2 : XC := fun _ => .region [] [xo 4 (.mv (xt 0)),
 xo 5 (.mv (xt 0)),
 xo 6 (.nck (xt 5)),
 xo 7 (.fa (xt 6) 2),
 xo 8 (.ld (xt 7) 1 false),
 xo 9 (.bin .mul (xt 8) (xi 6364136223846793005)),
 xo 10 (.bin .add (xt 9) (xi 1442695040888963407)),
 xo 11 (.nck (xt 4)),
 xo 12 (.fa (xt 11) 2),
 xn (.sto (xt 12) (xt 10) 1)] [0]
def c83_3 : XC := fun _ => .region [] [xo 13 (.mv (xt 0)),
 xo 14 (.nck (xt 13)),
 xo 15 (.fa (xt 14) 2),
 xo 16 (.ld (xt 15) 1 false),
 xo 17 (.bit .shr (xt 16) (.const (.int .u64 33))),
 xo 18 (.mv (xt 0)),
 xo 19 (.nck (xt 18)),
 ⟨(some 20), .fa (xt 19) 2, none, [0, 1, 2, 3, 4]⟩,
 ⟨(some 21), .ld (xt 20) 1 false, none, [0, 1, 2, 3, 4]⟩,
 xo 22 (.bit .shr (xt 21) (.const (.int .u64 45))),
 xo 23 (.bit .xor (xt 17) (xt 22)),
 xo 24 (.bit .and (xt 23) (xi 255)),
 xo 3 (.mv (xt 24))] [0,3]
def c83_4 : XC := fun _ => .region [] [xo 25 (.mv (xt 0)),
 xo 26 (.nck (xt 25)),
 xo 27 (.fa (xt 26) 1),
 xo 28 (.ld (xt 27) 1 false),
 xo 29 (.mv (xt 0)),
 xo 30 (.nck (xt 29)),
 ⟨(some 31), .fa (xt 30) 0, none, [0, 1, 2, 3]⟩,
 ⟨(some 32), .ld (xt 31) 1 false, none, [0, 1, 2, 3]⟩,
 xo 33 (.len false (xt 32)),
 xo 34 (.bin .lss (xt 28) (xt 33))] [0,3,34]
def c83_5 : XC := fun _ => .region [] [xo 35 (.mv (xt 3)),
 xo 36 (.mv (xt 0)),
 xo 37 (.nck (xt 36)),
 ⟨(some 38), .fa (xt 37) 0, none, [0]⟩,
 ⟨(some 39), .ld (xt 38) 1 false, none, [0]⟩,
 xo 40 (.mv (xt 0)),
 xo 41 (.nck (xt 40)),
 ⟨(some 42), .fa (xt 41) 1, none, [0, 1, 2, 3, 4]⟩,
 ⟨(some 43), .ld (xt 42) 1 false, none, [0, 1, 2, 3, 4]⟩,
 ⟨(some 44), .ia (xt 39) (xt 43) 1, none, [0]⟩,
 ⟨(some 45), .ld (xt 44) 1 false, none, [0]⟩,
 xo 46 (.conv .i64 (xt 45)),
 xo 47 (.bin .add (xt 35) (xt 46)),
 xo 48 (.bit .and (xt 47) (xi 255)),
 xo 3 (.mv (xt 48))] [0,3]
def c83_6 : XC := fun _ => .region [] [xo 49 (.mv (xt 0)),
 xo 50 (.mv (xt 0)),
 xo 51 (.nck (xt 50)),
 xo 52 (.fa (xt 51) 1),
 xo 53 (.ld (xt 52) 1 false),
 xo 54 (.bin .add (xt 53) (xi 1)),
 xo 55 (.nck (xt 49)),
 xo 56 (.fa (xt 55) 1),
 xn (.sto (xt 56) (xt 54) 1)] [3]
def c83_7 : XC := fun _ => .seq c83_5 c83_6
def c83_8 : XC := fun _ => .cond (xt 34) c83_7 (fun _ => .skip)
def c83_9 : XC := fun _ => .seq c83_4 c83_8
def c83_10 : XC := fun _ => .region [] [xo 57 (.mv (xt 3)),
 xo 2 (.mv (xt 57))] [2]
def c83_11 : XC := fun _ => .seq c83_10 (fun _ => .ret)
def c83_12 : XC := fun _ => .seq c83_9 c83_11
def c83_13 : XC := fun _ => .seq c83_3 c83_12
def c83_14 : XC := fun _ => .seq c83_2 c83_13
def c83_15 : XC := fun _ => .seq c83_1 c83_14
def m_spec_l1Byte : MCode := c83_15 ()
def h_spec_l1Byte : Hints := [(0, [0], [], [], []), (1, [0], [], [], []), (2, [0,3], [[],[],[],[],[],[],[],[0,1,2,3,4],[0,1,2,3,4]], [], []), (3, [0,3,34], [[],[],[],[],[],[],[0,1,2,3],[0,1,2,3]], [], []), (4, [0,3], [[],[],[],[0],[0],[],[],[0,1,2,3,4],[0,1,2,3,4],[0],[0]], [], []), (5, [3], [], [], []), (6, [2], [], [], [])]
def r_spec_l1Byte : List RV := [.t 2]
abbrev n_spec_l1Byte : Nat := 83
theorem k_spec_l1Byte : Known Pr mu n_spec_l1Byte m_spec_l1Byte r_spec_l1Byte Go.Proofs.Try.f83.ntmps := .of h_spec_l1Byte hm Go.Proofs.Try.func83
def c84_1 : XC := fun _ => .region [] [xo 2 (.mv (.const (.slice none 0 0)))] [0]
def c84_2 : XC := fun _ => .region [] [xo 6 (.bsl 6 0 [.int .i64 0, .int .i64 0, .int .i64 0, .int .i64 0, .slice none 0 0, .slice none 0 0] []),
 xo 3 (.mv (xt 6))] [0,3]
def c84_3 : XC := fun _ => .region [] [xo 4 (.mv (xi 0))] [0,3,4]
def c84_4 : XC := fun _ => .region [] [xo 7 (.mv (xt 4)),
 xo 8 (.mv (xt 0)),
 xo 9 (.len false (xt 8)),
 xo 10 (.bin .lss (xt 7) (xt 9))] [0,3,4,10]
def c84_5 : XC := fun _ => .cond (xt 10) (fun _ => .skip) (fun _ => .exit 0)
def c84_6 : XC := fun _ => .seq c84_4 c84_5
def c84_7 : XC := fun _ => .region [] [xo 13 (.mv (xt 0)),
 xo 14 (.mv (xt 4)),
 xo 15 (.ia (xt 13) (xt 14) 6),
 xo 16 (.ld (xt 15) 6 true),
 xo 17 (.call 64 [(xt 16)]),
 xo 5 (.alloc [.int .i64 0, .int .i64 0, .int .i64 0, .int .i64 0, .slice none 0 0, .slice none 0 0]),
 xn (.sto (xt 5) (xt 17) 6)] [0,3,4,5]
def c84_8 : XC := fun _ => .region [] [xo 18 (.mv (xt 3)),
 xo 19 (.ld (xt 5) 6 true),
 xo 20 (.bsl 6 1 [.int .i64 0, .int .i64 0, .int .i64 0, .int .i64 0, .slice none 0 0, .slice none 0 0] [(0, (xt 19))]),
 xo 21 (.app (xt 18) (xt 20) 6 80),
 xo 3 (.mv (xt 21))] [0,3,4]
def c84_9 : XC := fun _ => .seq c84_7 c84_8
def c84_10 : XC := fun _ => .block 1 c84_9
def c84_11 : XC := fun _ => .region [] [xo 11 (.mv (xt 4)),
 xo 12 (.bin .add (xt 11) (xi 1)),
 xo 4 (.mv (xt 12))] [0,3,4]
def c84_12 : XC := fun _ => .seq c84_10 c84_11
def c84_13 : XC := fun _ => .seq c84_6 c84_12
def c84_14 : XC := fun _ => .loop c84_13
def c84_15 : XC := fun _ => .block 0 c84_14
def c84_16 : XC := fun _ => .seq c84_3 c84_15
def c84_17 : XC := fun _ => .region [] [xo 22 (.mv (xt 3)),
 xo 2 (.mv (xt 22))] [2]
def c84_18 : XC := fun _ => .seq c84_17 (fun _ => .ret)
def c84_19 : XC := fun _ => .seq c84_16 c84_18
def c84_20 : XC := fun _ => .seq c84_2 c84_19
def c84_21 : XC := fun _ => .seq c84_1 c84_20
def m_spec_l11Copy : MCode := c84_21 ()
def h_spec_l11Copy : Hints := [(0, [0], [], [], []), (1, [0,3], [], [], []), (2, [0,3,4], [], [], []), (3, [0,3,4,10], [], [], []), (5, [0,3,4,5], [], [], []), (6, [0,3,4], [], [], []), (4, [0,3,4], [], [], []), (7, [2], [], [], [])]
def r_spec_l11Copy : List RV := [.t 2]
abbrev n_spec_l11Copy : Nat := 84
theorem k_spec_l11Copy : Known Pr mu n_spec_l11Copy m_spec_l11Copy r_spec_l11Copy Go.Proofs.Try.f84.ntmps := .of h_spec_l11Copy hm Go.Proofs.Try.func84
def c85_1 : XC := fun _ => .region [] [xo 2 (.mv (xb false))] [0]
def c85_2 : XC := fun _ => .region [] [xo 3 (.mv (xi 0))] [0,3]
def c85_3 : XC := fun _ => .region [] [xo 4 (.mv (xt 3)),
 xo 5 (.mv (xt 0)),
 xo 6 (.len false (xt 5)),
 xo 7 (.bin .lss (xt 4) (xt 6))] [0,3,7]
def c85_4 : XC := fun _ => .cond (xt 7) (fun _ => .skip) (fun _ => .exit 0)
def c85_5 : XC := fun _ => .seq c85_3 c85_4
def c85_6 : XC := fun _ => .region [] [xo 10 (.mv (xt 0)),
 xo 11 (.mv (xt 3)),
 xo 12 (.ia (xt 10) (xt 11) 6),
 xo 13 (.ld (xt 12) 6 true),
 xo 14 (.call 24 [(xt 13)]),
 xo 15 (.not (xt 14))] [0,3,15]
def c85_7 : XC := fun _ => .region [] [xo 2 (.mv (xb false))] [2]
def c85_8 : XC := fun _ => .seq c85_7 (fun _ => .ret)
def c85_9 : XC := fun _ => .cond (xt 15) c85_8 (fun _ => .skip)
def c85_10 : XC := fun _ => .seq c85_6 c85_9
def c85_11 : XC := fun _ => .block 1 c85_10
def c85_12 : XC := fun _ => .region [] [xo 8 (.mv (xt 3)),
 xo 9 (.bin .add (xt 8) (xi 1)),
 xo 3 (.mv (xt 9))] [0,3]
def c85_13 : XC := fun _ => .seq c85_11 c85_12
def c85_14 : XC := fun _ => .seq c85_5 c85_13
def c85_15 : XC := fun _ => .loop c85_14
def c85_16 : XC := fun _ => .block 0 c85_15
def c85_17 : XC := fun _ => .seq c85_2 c85_16
def c85_18 : XC := fun _ => .region [] [xo 16 (.mv (xt 0)),
 xo 17 (.len false (xt 16)),
 xo 18 (.bin .eql (xt 17) (xi 3)),
 xo 2 (.mv (xt 18))] [2]
def c85_19 : XC := fun _ => .seq c85_18 (fun _ => .ret)
def c85_20 : XC := fun _ => .seq c85_17 c85_19
def c85_21 : XC := fun _ => .seq c85_1 c85_20
def m_spec_AreAcceptors : MCode := c85_21 ()
def h_spec_AreAcceptors : Hints := [(0, [0], [], [], []), (1, [0,3], [], [], []), (2, [0,3,7], [], [], []), (4, [0,3,15], [], [], []), (5, [2], [], [], []), (3, [0,3], [], [], []), (6, [2], [], [], [])]
def r_spec_AreAcceptors : List RV := [.t 2]
abbrev n_spec_AreAcceptors : Nat := 85
theorem k_spec_AreAcceptors : Known Pr mu n_spec_AreAcceptors m_spec_AreAcceptors r_spec_AreAcceptors Go.Proofs.Try.f85.ntmps := .of h_spec_AreAcceptors hm Go.Proofs.Try.func85
def c86_1 : XC := fun _ => .region [] [xo 4 (.mv (xb false))] [0,1]
def c86_2 : XC := fun _ => .region [] [xo 5 (.mv (xt 0)),
 xo 6 (.mv (xt 1)),
 xo 7 (.call 98 [(xt 5), (xt 6)]),
 xo 8 (.bin .geq (xt 7) (xi 0)),
 xo 4 (.mv (xt 8))] [4]
def c86_3 : XC := fun _ => .seq c86_2 (fun _ => .ret)
def c86_4 : XC := fun _ => .seq c86_1 c86_3
def m_slices_Contains_intint : MCode := c86_4 ()
def h_slices_Contains_intint : Hints := [(0, [0,1], [], [], []), (1, [4], [], [], [])]
def r_slices_Contains_intint : List RV := [.t 4]
abbrev n_slices_Contains_intint : Nat := 86
theorem k_slices_Contains_intint : Known Pr mu n_slices_Contains_intint m_slices_Contains_intint r_slices_Contains_intint Go.Proofs.Try.f86.ntmps := .of h_slices_Contains_intint hm Go.Proofs.Try.func86
def c87_1 : XC := fun _ => .region [] [xo 4 (.mv (xb false))] [0,1]
def c87_2 : XC := fun _ => .region [] [xo 6 (.mv (xt 0)),
 xo 7 (.len false (xt 6)),
 xo 8 (.mv (xt 1)),
 xo 9 (.len false (xt 8)),
 xo 10 (.bin .neq (xt 7) (xt 9))] [0,1,10]
def c87_3 : XC := fun _ => .region [] [xo 4 (.mv (xb false))] [4]
def c87_4 : XC := fun _ => .seq c87_3 (fun _ => .ret)
def c87_5 : XC := fun _ => .cond (xt 10) c87_4 (fun _ => .skip)
def c87_6 : XC := fun _ => .seq c87_2 c87_5
def c87_7 : XC := fun _ => .region [] [xo 11 (.mv (xt 0)),
 xo 12 (.len false (xt 11)),
 xo 13 (.mv (xi 0))] [0,1,12,13]
def c87_8 : XC := fun _ => .region [] [xo 14 (.bin .lss (xt 13) (xt 12))] [0,1,12,13,14]
def c87_9 : XC := fun _ => .cond (xt 14) (fun _ => .skip) (fun _ => .exit 0)
def c87_10 : XC := fun _ => .region [] [xo 15 (.mv (xt 13)),
 xo 5 (.mv (xt 15))] [0,1,5,12,13]
def c87_11 : XC := fun _ => .region [] [xo 16 (.mv (xt 0)),
 xo 17 (.mv (xt 5)),
 xo 18 (.ia (xt 16) (xt 17) 1),
 xo 19 (.ld (xt 18) 1 false),
 xo 20 (.mv (xt 1)),
 xo 21 (.mv (xt 5)),
 ⟨(some 22), .ia (xt 20) (xt 21) 1, none, [0, 1, 2, 3]⟩,
 ⟨(some 23), .ld (xt 22) 1 false, none, [0, 1, 2, 3]⟩,
 xo 24 (.bin .neq (xt 19) (xt 23))] [0,1,12,13,24]
def c87_12 : XC := fun _ => .region [] [xo 4 (.mv (xb false))] [4]
def c87_13 : XC := fun _ => .seq c87_12 (fun _ => .ret)
def c87_14 : XC := fun _ => .cond (xt 24) c87_13 (fun _ => .skip)
def c87_15 : XC := fun _ => .seq c87_11 c87_14
def c87_16 : XC := fun _ => .seq c87_10 c87_15
def c87_17 : XC := fun _ => .block 1 c87_16
def c87_18 : XC := fun _ => .region [] [xo 25 (.bin .add (xt 13) (xi 1)),
 xo 13 (.mv (xt 25))] [0,1,12,13]
def c87_19 : XC := fun _ => .seq c87_17 c87_18
def c87_20 : XC := fun _ => .seq c87_9 c87_19
def c87_21 : XC := fun _ => .seq c87_8 c87_20
def c87_22 : XC := fun _ => .loop c87_21
def c87_23 : XC := fun _ => .block 0 c87_22
def c87_24 : XC := fun _ => .seq c87_7 c87_23
def c87_25 : XC := fun _ => .region [] [xo 4 (.mv (xb true))] [4]
def c87_26 : XC := fun _ => .seq c87_25 (fun _ => .ret)
def c87_27 : XC := fun _ => .seq c87_24 c87_26
def c87_28 : XC := fun _ => .seq c87_6 c87_27
def c87_29 : XC := fun _ => .seq c87_1 c87_28
def m_slices_Equal_intint : MCode := c87_29 ()
def h_slices_Equal_intint : Hints := [(0, [0,1], [], [], []), (1, [0,1,10], [], [], []), (2, [4], [], [], []), (3, [0,1,12,13], [], [], []), (4, [0,1,12,13,14], [], [], []), (5, [0,1,5,12,13], [], [], []), (6, [0,1,12,13,24], [[],[],[],[],[],[],[0,1,2,3],[0,1,2,3]], [], []), (7, [4], [], [], []), (8, [0,1,12,13], [], [], []), (9, [4], [], [], [])]
def r_slices_Equal_intint : List RV := [.t 4]
abbrev n_slices_Equal_intint : Nat := 87
theorem k_slices_Equal_intint : Known Pr mu n_slices_Equal_intint m_slices_Equal_intint r_slices_Equal_intint Go.Proofs.Try.f87.ntmps := .of h_slices_Equal_intint hm Go.Proofs.Try.func87
def c88_1 : XC := fun _ => .region [] [xo 4 (.mv (xi 0))] [0,1]
def c88_2 : XC := fun _ => .region [] [xo 6 (.mv (xt 0)),
 xo 7 (.len false (xt 6)),
 xo 8 (.mv (xi 0))] [0,1,7,8]
def c88_3 : XC := fun _ => .region [] [xo 9 (.bin .lss (xt 8) (xt 7))] [0,1,7,8,9]
def c88_4 : XC := fun _ => .cond (xt 9) (fun _ => .skip) (fun _ => .exit 0)
def c88_5 : XC := fun _ => .region [] [xo 10 (.mv (xt 8)),
 xo 5 (.mv (xt 10))] [0,1,5,7,8]
def c88_6 : XC := fun _ => .region [] [xo 11 (.mv (xt 1)),
 xo 12 (.mv (xt 0)),
 xo 13 (.mv (xt 5)),
 xo 14 (.ia (xt 12) (xt 13) 6),
 xo 15 (.ld (xt 14) 6 true),
 xo 16 (.callv (xt 11) [(xt 15)])] [0,1,5,7,8,16]
def c88_7 : XC := fun _ => .region [] [xo 17 (.mv (xt 5)),
 xo 4 (.mv (xt 17))] [4]
def c88_8 : XC := fun _ => .seq c88_7 (fun _ => .ret)
def c88_9 : XC := fun _ => .cond (xt 16) c88_8 (fun _ => .skip)
def c88_10 : XC := fun _ => .seq c88_6 c88_9
def c88_11 : XC := fun _ => .seq c88_5 c88_10
def c88_12 : XC := fun _ => .block 1 c88_11
def c88_13 : XC := fun _ => .region [] [xo 18 (.bin .add (xt 8) (xi 1)),
 xo 8 (.mv (xt 18))] [0,1,7,8]
def c88_14 : XC := fun _ => .seq c88_12 c88_13
def c88_15 : XC := fun _ => .seq c88_4 c88_14
def c88_16 : XC := fun _ => .seq c88_3 c88_15
def c88_17 : XC := fun _ => .loop c88_16
def c88_18 : XC := fun _ => .block 0 c88_17
def c88_19 : XC := fun _ => .seq c88_2 c88_18
def c88_20 : XC := fun _ => .region [] [xo 4 (.mv (xi (-1)))] [4]
def c88_21 : XC := fun _ => .seq c88_20 (fun _ => .ret)
def c88_22 : XC := fun _ => .seq c88_19 c88_21
def c88_23 : XC := fun _ => .seq c88_1 c88_22
def m_slices_IndexFunc_implAcceptorimplAcceptor : MCode := c88_23 ()
def h_slices_IndexFunc_implAcceptorimplAcceptor : Hints := [(0, [0,1], [], [], []), (1, [0,1,7,8], [], [], []), (2, [0,1,7,8,9], [], [], []), (3, [0,1,5,7,8], [], [], []), (4, [0,1,5,7,8,16], [], [], []), (5, [4], [], [], []), (6, [0,1,7,8], [], [], []), (7, [4], [], [], [])]
def r_slices_IndexFunc_implAcceptorimplAcceptor : List RV := [.t 4]
abbrev n_slices_IndexFunc_implAcceptorimplAcceptor : Nat := 88
theorem k_slices_IndexFunc_implAcceptorimplAcceptor : Known Pr mu n_slices_IndexFunc_implAcceptorimplAcceptor m_slices_IndexFunc_implAcceptorimplAcceptor r_slices_IndexFunc_implAcceptorimplAcceptor Go.Proofs.Try.f88.ntmps := .of h_slices_IndexFunc_implAcceptorimplAcceptor hm Go.Proofs.Try.func88
def c89_1 : XC := fun _ => .region [] [xo 2 (.mv (.const (.slice none 0 0)))] [0]
def c89_2 : XC := fun _ => .region [] [xo 4 (.mv (xt 0)),
 xo 5 (.callp 96 [(xt 4)]),
 xo 3 (.mv (xt 5))] [0,3]
def c89_3 : XC := fun _ => .region [] [xo 6 (.mv (xt 0)),
 xo 7 (.callp 77 [(xt 6), (xi 8)])] [0,3,7]
def c89_4 : XC := fun _ => .region [] [xo 8 (.mv (xt 3)),
 xo 9 (.mv (xt 0)),
 xo 10 (.bsl 1 4 [.int .i64 0] [(0, (xi (-1))), (1, (xi 0)), (2, (xi 4)), (3, (xi 5))]),
 xo 11 (.callp 62 [(xt 9), (xt 10)]),
 xo 12 (.bsl 1 1 [.int .i64 0] [(0, (xt 11))]),
 xo 13 (.app (xt 8) (xt 12) 1 8),
 xo 3 (.mv (xt 13))] [3]
def c89_5 : XC := fun _ => .cond (xt 7) c89_4 (fun _ => .skip)
def c89_6 : XC := fun _ => .seq c89_3 c89_5
def c89_7 : XC := fun _ => .region [] [xo 14 (.mv (xt 3)),
 xo 2 (.mv (xt 14))] [2]
def c89_8 : XC := fun _ => .seq c89_7 (fun _ => .ret)
def c89_9 : XC := fun _ => .seq c89_6 c89_8
def c89_10 : XC := fun _ => .seq c89_2 c89_9
def c89_11 : XC := fun _ => .seq c89_1 c89_10
def m_spec_l2Any : MCode := c89_11 ()
def h_spec_l2Any : Hints := [(0, [0], [], [], []), (1, [0,3], [], [], []), (2, [0,3,7], [], [], []), (3, [3], [], [], []), (4, [2], [], [], [])]
def r_spec_l2Any : List RV := [.t 2]
abbrev n_spec_l2Any : Nat := 89
theorem k_spec_l2Any : Known Pr mu n_spec_l2Any m_spec_l2Any r_spec_l2Any Go.Proofs.Try.f89.ntmps := .of h_spec_l2Any hm Go.Proofs.Try.func89
def c90_1 : XC := fun _ => .region [] [xo 4 (.mv (xb false))] [0,1]
def c90_2 : XC := fun _ => .region [] [xo 6 (.mv (xt 0)),
 xo 7 (.len false (xt 6)),
 xo 8 (.mv (xt 1)),
 xo 9 (.len false (xt 8)),
 xo 10 (.bin .neq (xt 7) (xt 9))] [0,1,10]
def c90_3 : XC := fun _ => .region [] [xo 4 (.mv (xb false))] [4]
def c90_4 : XC := fun _ => .seq c90_3 (fun _ => .ret)
def c90_5 : XC := fun _ => .cond (xt 10) c90_4 (fun _ => .skip)
def c90_6 : XC := fun _ => .seq c90_2 c90_5
def c90_7 : XC := fun _ => .region [] [xo 5 (.mv (xi 0))] [0,1,5]
def c90_8 : XC := fun _ => .region [] [xo 11 (.mv (xt 5)),
 xo 12 (.mv (xt 0)),
 xo 13 (.len false (xt 12)),
 xo 14 (.bin .lss (xt 11) (xt 13))] [0,1,5,14]
def c90_9 : XC := fun _ => .cond (xt 14) (fun _ => .skip) (fun _ => .exit 0)
def c90_10 : XC := fun _ => .seq c90_8 c90_9
def c90_11 : XC := fun _ => .region [] [xo 17 (.mv (xt 0)),
 xo 18 (.mv (xt 5)),
 xo 19 (.ia (xt 17) (xt 18) 1),
 xo 20 (.ld (xt 19) 1 false),
 xo 21 (.mv (xt 1)),
 xo 22 (.mv (xt 5)),
 ⟨(some 23), .ia (xt 21) (xt 22) 1, none, [0, 1, 2, 3]⟩,
 ⟨(some 24), .ld (xt 23) 1 false, none, [0, 1, 2, 3]⟩,
 xo 25 (.bin .neq (xt 20) (xt 24))] [0,1,5,25]
def c90_12 : XC := fun _ => .region [] [xo 4 (.mv (xb false))] [4]
def c90_13 : XC := fun _ => .seq c90_12 (fun _ => .ret)
def c90_14 : XC := fun _ => .cond (xt 25) c90_13 (fun _ => .skip)
def c90_15 : XC := fun _ => .seq c90_11 c90_14
def c90_16 : XC := fun _ => .block 1 c90_15
def c90_17 : XC := fun _ => .region [] [xo 15 (.mv (xt 5)),
 xo 16 (.bin .add (xt 15) (xi 1)),
 xo 5 (.mv (xt 16))] [0,1,5]
def c90_18 : XC := fun _ => .seq c90_16 c90_17
def c90_19 : XC := fun _ => .seq c90_10 c90_18
def c90_20 : XC := fun _ => .loop c90_19
def c90_21 : XC := fun _ => .block 0 c90_20
def c90_22 : XC := fun _ => .seq c90_7 c90_21
def c90_23 : XC := fun _ => .region [] [xo 4 (.mv (xb true))] [4]
def c90_24 : XC := fun _ => .seq c90_23 (fun _ => .ret)
def c90_25 : XC := fun _ => .seq c90_22 c90_24
def c90_26 : XC := fun _ => .seq c90_6 c90_25
def c90_27 : XC := fun _ => .seq c90_1 c90_26
def m_spec_EqualServers : MCode := c90_27 ()
def h_spec_EqualServers : Hints := [(0, [0,1], [], [], []), (1, [0,1,10], [], [], []), (2, [4], [], [], []), (3, [0,1,5], [], [], []), (4, [0,1,5,14], [], [], []), (6, [0,1,5,25], [[],[],[],[],[],[],[0,1,2,3],[0,1,2,3]], [], []), (7, [4], [], [], []), (5, [0,1,5], [], [], []), (8, [4], [], [], [])]
def r_spec_EqualServers : List RV := [.t 4]
abbrev n_spec_EqualServers : Nat := 90
theorem k_spec_EqualServers : Known Pr mu n_spec_EqualServers m_spec_EqualServers r_spec_EqualServers Go.Proofs.Try.f90.ntmps := .of h_spec_EqualServers hm Go.Proofs.Try.func90
def c91_1 : XC := fun _ => .region [] [xo 2 (.mv (.const (.slice none 0 0)))] [0]
def c91_2 : XC := fun _ => .region [] [xo 4 (.mv (xt 0)),
 xo 5 (.call 99 [(xt 4)]),
 xo 3 (.mv (xt 5))] [3]
def c91_3 : XC := fun _ => .region [] [xo 6 (.mv (xt 3)),
 xo 7 (.callm 100 [(xt 6)])] [3]
def c91_4 : XC := fun _ => .region [] [xo 8 (.mv (xt 3)),
 xo 9 (.callm 101 [(xt 8)]),
 xo 2 (.mv (xt 9))] [2]
def c91_5 : XC := fun _ => .seq c91_4 (fun _ => .ret)
def c91_6 : XC := fun _ => .seq c91_3 c91_5
def c91_7 : XC := fun _ => .seq c91_2 c91_6
def c91_8 : XC := fun _ => .seq c91_1 c91_7
def m_impl_ascending : MCode := c91_8 ()
def h_impl_ascending : Hints := [(0, [0], [], [], []), (1, [3], [], [], []), (2, [3], [], [], []), (3, [2], [], [], [])]
def r_impl_ascending : List RV := [.t 2]
abbrev n_impl_ascending : Nat := 91
theorem k_impl_ascending : Known Pr mu n_impl_ascending m_impl_ascending r_impl_ascending Go.Proofs.Try.f91.ntmps := .of h_impl_ascending hm Go.Proofs.Try.func91
def c93_1 : XC := fun _ => .region [] [xo 4 (.mv (.const (.slice none 0 0)))] [0,1]
def c93_2 : XC := fun _ => .region [] [xo 5 (.mv (xi 0))] [0,1,5]
def c93_3 : XC := fun _ => .region [] [xo 6 (.mv (xt 5)),
 xo 7 (.mv (xt 0)),
 xo 8 (.len false (xt 7)),
 xo 9 (.bin .lss (xt 6) (xt 8)),
 xo 10 (.mv (xt 9)),
 ⟨(some 11), .mv (xt 0), (some (10, true)), []⟩,
 ⟨(some 12), .mv (xt 5), (some (10, true)), []⟩,
 ⟨(some 13), .ia (xt 11) (xt 12) 1, (some (10, true)), []⟩,
 ⟨(some 14), .ld (xt 13) 1 false, (some (10, true)), []⟩,
 ⟨(some 15), .mv (xt 1), (some (10, true)), []⟩,
 ⟨(some 16), .bin .lss (xt 14) (xt 15), (some (10, true)), []⟩,
 xo 17 (.pick (xt 10) (xt 16) (xb false))] [0,1,5,17]
def c93_4 : XC := fun _ => .cond (xt 17) (fun _ => .skip) (fun _ => .exit 0)
def c93_5 : XC := fun _ => .seq c93_3 c93_4
def c93_6 : XC := fun _ => .region [] [xo 18 (.mv (xt 5)),
 xo 19 (.bin .add (xt 18) (xi 1)),
 xo 5 (.mv (xt 19))] [0,1,5]
def c93_7 : XC := fun _ => .block 1 c93_6
def c93_8 : XC := fun _ => .seq c93_5 c93_7
def c93_9 : XC := fun _ => .loop c93_8
def c93_10 : XC := fun _ => .block 0 c93_9
def c93_11 : XC := fun _ => .region [] [xo 20 (.mv (xt 5)),
 xo 21 (.mv (xt 0)),
 xo 22 (.len false (xt 21)),
 xo 23 (.bin .lss (xt 20) (xt 22)),
 xo 24 (.mv (xt 23)),
 ⟨(some 25), .mv (xt 0), (some (24, true)), []⟩,
 ⟨(some 26), .mv (xt 5), (some (24, true)), []⟩,
 ⟨(some 27), .ia (xt 25) (xt 26) 1, (some (24, true)), []⟩,
 ⟨(some 28), .ld (xt 27) 1 false, (some (24, true)), []⟩,
 ⟨(some 29), .mv (xt 1), (some (24, true)), []⟩,
 ⟨(some 30), .bin .eql (xt 28) (xt 29), (some (24, true)), []⟩,
 xo 31 (.pick (xt 24) (xt 30) (xb false))] [0,1,5,31]
def c93_12 : XC := fun _ => .region [] [xo 32 (.bsl 1 0 [.int .i64 0] []),
 xo 33 (.mv (xt 0)),
 xo 34 (.app (xt 32) (xt 33) 1 8),
 xo 4 (.mv (xt 34))] [4]
def c93_13 : XC := fun _ => .seq c93_12 (fun _ => .ret)
def c93_14 : XC := fun _ => .cond (xt 31) c93_13 (fun _ => .skip)
def c93_15 : XC := fun _ => .seq c93_11 c93_14
def c93_16 : XC := fun _ => .region [xo 43 (.mv (xt 0)), xo 44 (.mv (xt 5)), xo 45 (.slf (xt 43) (some (xt 44)) none 1)] [xo 35 (.bsl 1 0 [.int .i64 0] []),
 xo 36 (.mv (xt 0)),
 xo 37 (.mv (xt 5)),
 ⟨(some 38), .slc false (xt 36) none (some (xt 37)) none 1, none, [0]⟩,
 ⟨(some 39), .appn (xt 35) (xt 38) 1 8, none, [1000000]⟩,
 xo 40 (.mv (xt 1)),
 xo 41 (.bsl 1 1 [.int .i64 0] [(0, (xt 40))]),
 xo 42 (.app (xt 39) (xt 41) 1 8),
 ⟨(some 43), .mv (xt 43), none, []⟩,
 ⟨(some 44), .mv (xt 44), none, []⟩,
 ⟨(some 45), .mv (xt 45), none, []⟩,
 xo 46 (.app (xt 42) (xt 45) 1 8),
 xo 4 (.mv (xt 46))] [4]
def c93_17 : XC := fun _ => .seq c93_16 (fun _ => .ret)
def c93_18 : XC := fun _ => .seq c93_15 c93_17
def c93_19 : XC := fun _ => .seq c93_10 c93_18
def c93_20 : XC := fun _ => .seq c93_2 c93_19
def c93_21 : XC := fun _ => .seq c93_1 c93_20
def m_spec_l2Put : MCode := c93_21 ()
def h_spec_l2Put : Hints := [(0, [0,1], [], [], []), (1, [0,1,5], [], [], []), (2, [0,1,5,17], [], [], []), (3, [0,1,5], [], [], []), (4, [0,1,5,31], [], [], []), (5, [4], [], [], []), (6, [4], [[],[],[],[0],[1000000]], [8,9,10], [])]
def r_spec_l2Put : List RV := [.t 4]
abbrev n_spec_l2Put : Nat := 93
theorem k_spec_l2Put : Known Pr mu n_spec_l2Put m_spec_l2Put r_spec_l2Put Go.Proofs.Try.f93.ntmps := .of h_spec_l2Put hm Go.Proofs.Try.func93
def c94_1 : XC := fun _ => .region [] [xo 3 (.box (xt 1)),
 xo 4 (.mv (.const (.slice none 0 0)))] [0,3]
def c94_2 : XC := fun _ => .region [] [xo 5 (.mv (xt 0)),
 xo 6 (.call 91 [(xt 5)]),
 xo 7 (.mkf 104 [(xt 3)]),
 xo 8 (.callm 103 [(xt 6), (xt 7)]),
 xo 4 (.mv (xt 8))] [4]
def c94_3 : XC := fun _ => .seq c94_2 (fun _ => .ret)
def c94_4 : XC := fun _ => .seq c94_1 c94_3
def m_impl_WithoutServers : MCode := c94_4 ()
def h_impl_WithoutServers : Hints := [(0, [0,3], [], [], []), (1, [4], [], [], [])]
def r_impl_WithoutServers : List RV := [.t 4]
abbrev n_impl_WithoutServers : Nat := 94
theorem k_impl_WithoutServers : Known Pr mu n_impl_WithoutServers m_impl_WithoutServers r_impl_WithoutServers Go.Proofs.Try.f94.ntmps := .of h_impl_WithoutServers hm Go.Proofs.Try.func94
def c96_1 : XC := fun _ => .region [] [xo 2 (.mv (.const (.slice none 0 0)))] [0]
def c96_2 : XC := fun _ => .region [] [xo 5 (.bsl 1 0 [.int .i64 0] []),
 xo 3 (.mv (xt 5))] [0,3]
def c96_3 : XC := fun _ => .region [] [xo 4 (.mv (xi 0))] [0,3,4]
def c96_4 : XC := fun _ => .region [] [xo 6 (.mv (xt 4)),
 xo 7 (.bin .lss (xt 6) (xi 5))] [0,3,4,7]
def c96_5 : XC := fun _ => .cond (xt 7) (fun _ => .skip) (fun _ => .exit 0)
def c96_6 : XC := fun _ => .seq c96_4 c96_5
def c96_7 : XC := fun _ => .region [] [xo 10 (.mv (xt 0)),
 xo 11 (.callp 77 [(xt 10), (xi 2)])] [0,3,4,11]
def c96_8 : XC := fun _ => .region [] [xo 12 (.mv (xt 3)),
 xo 13 (.mv (xt 4)),
 xo 14 (.bsl 1 1 [.int .i64 0] [(0, (xt 13))]),
 xo 15 (.app (xt 12) (xt 14) 1 8),
 xo 3 (.mv (xt 15))] [0,3,4]
def c96_9 : XC := fun _ => .cond (xt 11) c96_8 (fun _ => .skip)
def c96_10 : XC := fun _ => .seq c96_7 c96_9
def c96_11 : XC := fun _ => .block 1 c96_10
def c96_12 : XC := fun _ => .region [] [xo 8 (.mv (xt 4)),
 xo 9 (.bin .add (xt 8) (xi 1)),
 xo 4 (.mv (xt 9))] [0,3,4]
def c96_13 : XC := fun _ => .seq c96_11 c96_12
def c96_14 : XC := fun _ => .seq c96_6 c96_13
def c96_15 : XC := fun _ => .loop c96_14
def c96_16 : XC := fun _ => .block 0 c96_15
def c96_17 : XC := fun _ => .seq c96_3 c96_16
def c96_18 : XC := fun _ => .region [] [xo 16 (.mv (xt 3)),
 xo 2 (.mv (xt 16))] [2]
def c96_19 : XC := fun _ => .seq c96_18 (fun _ => .ret)
def c96_20 : XC := fun _ => .seq c96_17 c96_19
def c96_21 : XC := fun _ => .seq c96_2 c96_20
def c96_22 : XC := fun _ => .seq c96_1 c96_21
def m_spec_l2Some : MCode := c96_22 ()
def h_spec_l2Some : Hints := [(0, [0], [], [], []), (1, [0,3], [], [], []), (2, [0,3,4], [], [], []), (3, [0,3,4,7], [], [], []), (5, [0,3,4,11], [], [], []), (6, [0,3,4], [], [], []), (4, [0,3,4], [], [], []), (7, [2], [], [], [])]
def r_spec_l2Some : List RV := [.t 2]
abbrev n_spec_l2Some : Nat := 96
theorem k_spec_l2Some : Known Pr mu n_spec_l2Some m_spec_l2Some r_spec_l2Some Go.Proofs.Try.f96.ntmps := .of h_spec_l2Some hm Go.Proofs.Try.func96
def c97_1 : XC := fun _ => .region [] [xo 4 (.mv (.const (.slice none 0 0)))] [0,1]
def c97_2 : XC := fun _ => .region [] [xo 7 (.bsl 1 0 [.int .i64 0] []),
 xo 5 (.mv (xt 7))] [0,1,5]
def c97_3 : XC := fun _ => .region [] [xo 6 (.mv (xi 0))] [0,1,5,6]
def c97_4 : XC := fun _ => .region [] [xo 8 (.mv (xt 6)),
 xo 9 (.mv (xt 0)),
 xo 10 (.len false (xt 9)),
 xo 11 (.bin .lss (xt 8) (xt 10))] [0,1,5,6,11]
def c97_5 : XC := fun _ => .cond (xt 11) (fun _ => .skip) (fun _ => .exit 0)
def c97_6 : XC := fun _ => .seq c97_4 c97_5
def c97_7 : XC := fun _ => .region [] [xo 14 (.mv (xt 1)),
 xo 15 (.mv (xt 0)),
 xo 16 (.mv (xt 6)),
 xo 17 (.ia (xt 15) (xt 16) 1),
 xo 18 (.ld (xt 17) 1 false),
 xo 19 (.call 70 [(xt 14), (xt 18)]),
 xo 20 (.not (xt 19))] [0,1,5,6,20]
def c97_8 : XC := fun _ => .region [] [xo 21 (.mv (xt 5)),
 xo 22 (.mv (xt 0)),
 xo 23 (.mv (xt 6)),
 xo 24 (.ia (xt 22) (xt 23) 1),
 xo 25 (.ld (xt 24) 1 false),
 xo 26 (.call 93 [(xt 21), (xt 25)]),
 xo 5 (.mv (xt 26))] [0,1,5,6]
def c97_9 : XC := fun _ => .cond (xt 20) c97_8 (fun _ => .skip)
def c97_10 : XC := fun _ => .seq c97_7 c97_9
def c97_11 : XC := fun _ => .block 1 c97_10
def c97_12 : XC := fun _ => .region [] [xo 12 (.mv (xt 6)),
 xo 13 (.bin .add (xt 12) (xi 1)),
 xo 6 (.mv (xt 13))] [0,1,5,6]
def c97_13 : XC := fun _ => .seq c97_11 c97_12
def c97_14 : XC := fun _ => .seq c97_6 c97_13
def c97_15 : XC := fun _ => .loop c97_14
def c97_16 : XC := fun _ => .block 0 c97_15
def c97_17 : XC := fun _ => .seq c97_3 c97_16
def c97_18 : XC := fun _ => .region [] [xo 27 (.mv (xt 5)),
 xo 4 (.mv (xt 27))] [4]
def c97_19 : XC := fun _ => .seq c97_18 (fun _ => .ret)
def c97_20 : XC := fun _ => .seq c97_17 c97_19
def c97_21 : XC := fun _ => .seq c97_2 c97_20
def c97_22 : XC := fun _ => .seq c97_1 c97_21
def m_spec_WithoutServers : MCode := c97_22 ()
def h_spec_WithoutServers : Hints := [(0, [0,1], [], [], []), (1, [0,1,5], [], [], []), (2, [0,1,5,6], [], [], []), (3, [0,1,5,6,11], [], [], []), (5, [0,1,5,6,20], [], [], []), (6, [0,1,5,6], [], [], []), (4, [0,1,5,6], [], [], []), (7, [4], [], [], [])]
def r_spec_WithoutServers : List RV := [.t 4]
abbrev n_spec_WithoutServers : Nat := 97
theorem k_spec_WithoutServers : Known Pr mu n_spec_WithoutServers m_spec_WithoutServers r_spec_WithoutServers Go.Proofs.Try.f97.ntmps := .of h_spec_WithoutServers hm Go.Proofs.Try.func97
def c98_1 : XC := fun _ => .region [] [xo 4 (.mv (xi 0))] [0,1]
def c98_2 : XC := fun _ => .region [] [xo 6 (.mv (xt 0)),
 xo 7 (.len false (xt 6)),
 xo 8 (.mv (xi 0))] [0,1,7,8]
def c98_3 : XC := fun _ => .region [] [xo 9 (.bin .lss (xt 8) (xt 7))] [0,1,7,8,9]
def c98_4 : XC := fun _ => .cond (xt 9) (fun _ => .skip) (fun _ => .exit 0)
def c98_5 : XC := fun _ => .region [] [xo 10 (.mv (xt 8)),
 xo 5 (.mv (xt 10))] [0,1,5,7,8]
def c98_6 : XC := fun _ => .region [] [xo 11 (.mv (xt 1)),
 xo 12 (.mv (xt 0)),
 xo 13 (.mv (xt 5)),
 xo 14 (.ia (xt 12) (xt 13) 1),
 xo 15 (.ld (xt 14) 1 false),
 xo 16 (.bin .eql (xt 11) (xt 15))] [0,1,5,7,8,16]
def c98_7 : XC := fun _ => .region [] [xo 17 (.mv (xt 5)),
 xo 4 (.mv (xt 17))] [4]
def c98_8 : XC := fun _ => .seq c98_7 (fun _ => .ret)
def c98_9 : XC := fun _ => .cond (xt 16) c98_8 (fun _ => .skip)
def c98_10 : XC := fun _ => .seq c98_6 c98_9
def c98_11 : XC := fun _ => .seq c98_5 c98_10
def c98_12 : XC := fun _ => .block 1 c98_11
def c98_13 : XC := fun _ => .region [] [xo 18 (.bin .add (xt 8) (xi 1)),
 xo 8 (.mv (xt 18))] [0,1,7,8]
def c98_14 : XC := fun _ => .seq c98_12 c98_13
def c98_15 : XC := fun _ => .seq c98_4 c98_14
def c98_16 : XC := fun _ => .seq c98_3 c98_15
def c98_17 : XC := fun _ => .loop c98_16
def c98_18 : XC := fun _ => .block 0 c98_17
def c98_19 : XC := fun _ => .seq c98_2 c98_18
def c98_20 : XC := fun _ => .region [] [xo 4 (.mv (xi (-1)))] [4]
def c98_21 : XC := fun _ => .seq c98_20 (fun _ => .ret)
def c98_22 : XC := fun _ => .seq c98_19 c98_21
def c98_23 : XC := fun _ => .seq c98_1 c98_22
def m_slices_Index_intint : MCode := c98_23 ()
def h_slices_Index_intint : Hints := [(0, [0,1], [], [], []), (1, [0,1,7,8], [], [], []), (2, [0,1,7,8,9], [], [], []), (3, [0,1,5,7,8], [], [], []), (4, [0,1,5,7,8,16], [], [], []), (5, [4], [], [], []), (6, [0,1,7,8], [], [], []), (7, [4], [], [], [])]
def r_slices_Index_intint : List RV := [.t 4]
abbrev n_slices_Index_intint : Nat := 98
theorem k_slices_Index_intint : Known Pr mu n_slices_Index_intint m_slices_Index_intint r_slices_Index_intint Go.Proofs.Try.f98.ntmps := .of h_slices_Index_intint hm Go.Proofs.Try.func98
def c99_1 : XC := fun _ => .region [] [xo 2 (.mv (.const (.slice none 0 0)))] [0]
def c99_2 : XC := fun _ => .region [] [xo 3 (.mv (xt 0)),
 xo 4 (.nbin .eql (xt 3) (.const (.slice none 0 0)))] [0,4]
def c99_3 : XC := fun _ => .region [] [xo 2 (.mv (.const (.slice none 0 0)))] [2]
def c99_4 : XC := fun _ => .seq c99_3 (fun _ => .ret)
def c99_5 : XC := fun _ => .cond (xt 4) c99_4 (fun _ => .skip)
def c99_6 : XC := fun _ => .seq c99_2 c99_5
def c99_7 : XC := fun _ => .region [] [xo 5 (.bsl 1 0 [.int .i64 0] []),
 xo 6 (.mv (xt 0)),
 xo 7 (.app (xt 5) (xt 6) 1 8),
 xo 2 (.mv (xt 7))] [2]
def c99_8 : XC := fun _ => .seq c99_7 (fun _ => .ret)
def c99_9 : XC := fun _ => .seq c99_6 c99_8
def c99_10 : XC := fun _ => .seq c99_1 c99_9
def m_slices_Clone_intint : MCode := c99_10 ()
def h_slices_Clone_intint : Hints := [(0, [0], [], [], []), (1, [0,4], [], [], []), (2, [2], [], [], []), (3, [2], [], [], [])]
def r_slices_Clone_intint : List RV := [.t 2]
abbrev n_slices_Clone_intint : Nat := 99
theorem k_slices_Clone_intint : Known Pr mu n_slices_Clone_intint m_slices_Clone_intint r_slices_Clone_intint Go.Proofs.Try.f99.ntmps := .of h_slices_Clone_intint hm Go.Proofs.Try.func99
def c100_1 : XC := fun _ => .region [] [xo 3 (.mv (xt 0)),
 xo 4 (.len false (xt 3)),
 xo 2 (.mv (xt 4))] [0,2]
def c100_2 : XC := fun _ => .region [] [xo 5 (.mv (xt 0)),
 xo 6 (.mv (xt 2)),
 xo 7 (.mv (xt 2)),
 xo 8 (.conv .u64 (xt 7)),
 xo 9 (.call 106 [(xt 8)]),
 xo 10 (.callm 105 [(xt 5), (xi 0), (xt 6), (xt 9)])] []
def c100_3 : XC := fun _ => .seq c100_1 c100_2
def m_slices_Sort_intint : MCode := c100_3 ()
def h_slices_Sort_intint : Hints := [(0, [0,2], [], [], []), (1, [], [], [], [])]
def r_slices_Sort_intint : List RV := []
abbrev n_slices_Sort_intint : Nat := 100
theorem k_slices_Sort_intint : Known Pr mu n_slices_Sort_intint m_slices_Sort_intint r_slices_Sort_intint Go.Proofs.Try.f100.ntmps := .of h_slices_Sort_intint hm Go.Proofs.Try.func100
def c101_1 : XC := fun _ => .region [] [xo 2 (.mv (.const (.slice none 0 0)))] [0]
def c101_2 : XC := fun _ => .region [] [xo 6 (.mv (xt 0)),
 xo 7 (.len false (xt 6)),
 xo 8 (.bin .lss (xt 7) (xi 2))] [0,8]
def c101_3 : XC := fun _ => .region [] [xo 9 (.mv (xt 0)),
 xo 2 (.mv (xt 9))] [2]
def c101_4 : XC := fun _ => .seq c101_3 (fun _ => .ret)
def c101_5 : XC := fun _ => .cond (xt 8) c101_4 (fun _ => .skip)
def c101_6 : XC := fun _ => .seq c101_2 c101_5
def c101_7 : XC := fun _ => .region [] [xo 3 (.mv (xi 1))] [0,3]
def c101_8 : XC := fun _ => .region [] [xo 10 (.mv (xt 3)),
 xo 11 (.mv (xt 0)),
 xo 12 (.len false (xt 11)),
 xo 13 (.bin .lss (xt 10) (xt 12))] [0,3,13]
def c101_9 : XC := fun _ => .cond (xt 13) (fun _ => .skip) (fun _ => .exit 0)
def c101_10 : XC := fun _ => .seq c101_8 c101_9
def c101_11 : XC := fun _ => .region [] [xo 16 (.mv (xt 0)),
 xo 17 (.mv (xt 3)),
 xo 18 (.ia (xt 16) (xt 17) 1),
 xo 19 (.ld (xt 18) 1 false),
 xo 20 (.mv (xt 0)),
 xo 21 (.mv (xt 3)),
 xo 22 (.bin .sub (xt 21) (xi 1)),
 ⟨(some 23), .ia (xt 20) (xt 22) 1, none, [0, 1, 2, 3]⟩,
 ⟨(some 24), .ld (xt 23) 1 false, none, [0, 1, 2, 3]⟩,
 xo 25 (.bin .eql (xt 19) (xt 24))] [0,3,25]
def c101_12 : XC := fun _ => .region [] [xo 26 (.mv (xt 0)),
 xo 27 (.mv (xt 3)),
 xo 28 (.slc false (xt 26) (some (xt 27)) none none 1),
 xo 4 (.mv (xt 28))] [0,3,4]
def c101_13 : XC := fun _ => .region [] [xo 5 (.mv (xi 1))] [0,3,4,5]
def c101_14 : XC := fun _ => .region [] [xo 29 (.mv (xt 5)),
 xo 30 (.mv (xt 4)),
 xo 31 (.len false (xt 30)),
 xo 32 (.bin .lss (xt 29) (xt 31))] [0,3,4,5,32]
def c101_15 : XC := fun _ => .cond (xt 32) (fun _ => .skip) (fun _ => .exit 2)
def c101_16 : XC := fun _ => .seq c101_14 c101_15
def c101_17 : XC := fun _ => .region [] [xo 35 (.mv (xt 4)),
 xo 36 (.mv (xt 5)),
 xo 37 (.ia (xt 35) (xt 36) 1),
 xo 38 (.ld (xt 37) 1 false),
 xo 39 (.mv (xt 4)),
 xo 40 (.mv (xt 5)),
 xo 41 (.bin .sub (xt 40) (xi 1)),
 ⟨(some 42), .ia (xt 39) (xt 41) 1, none, [0, 1, 2, 3]⟩,
 ⟨(some 43), .ld (xt 42) 1 false, none, [0, 1, 2, 3]⟩,
 xo 44 (.bin .neq (xt 38) (xt 43))] [0,3,4,5,44]
def c101_18 : XC := fun _ => .region [] [xo 45 (.mv (xt 0)),
 xo 46 (.mv (xt 3)),
 xo 47 (.mv (xt 4)),
 xo 48 (.mv (xt 5)),
 xo 49 (.ia (xt 47) (xt 48) 1),
 xo 50 (.ld (xt 49) 1 false),
 xo 51 (.ia (xt 45) (xt 46) 1),
 xn (.sto (xt 51) (xt 50) 1)] [0,3,4,5]
def c101_19 : XC := fun _ => .region [] [xo 52 (.mv (xt 3)),
 xo 53 (.bin .add (xt 52) (xi 1)),
 xo 3 (.mv (xt 53))] [0,3,4,5]
def c101_20 : XC := fun _ => .seq c101_18 c101_19
def c101_21 : XC := fun _ => .cond (xt 44) c101_20 (fun _ => .skip)
def c101_22 : XC := fun _ => .seq c101_17 c101_21
def c101_23 : XC := fun _ => .block 3 c101_22
def c101_24 : XC := fun _ => .region [] [xo 33 (.mv (xt 5)),
 xo 34 (.bin .add (xt 33) (xi 1)),
 xo 5 (.mv (xt 34))] [0,3,4,5]
def c101_25 : XC := fun _ => .seq c101_23 c101_24
def c101_26 : XC := fun _ => .seq c101_16 c101_25
def c101_27 : XC := fun _ => .loop c101_26
def c101_28 : XC := fun _ => .block 2 c101_27
def c101_29 : XC := fun _ => .seq c101_13 c101_28
def c101_30 : XC := fun _ => .region [] [xo 54 (.mv (xt 0)),
 xo 55 (.mv (xt 3)),
 xo 56 (.slc false (xt 54) (some (xt 55)) none none 1),
 xn (.clr (xt 56) 1 [.int .i64 0])] [0,3]
def c101_31 : XC := fun _ => .region [] [xo 57 (.mv (xt 0)),
 xo 58 (.mv (xt 3)),
 xo 59 (.slc false (xt 57) none (some (xt 58)) none 1),
 xo 2 (.mv (xt 59))] [2]
def c101_32 : XC := fun _ => .seq c101_31 (fun _ => .ret)
def c101_33 : XC := fun _ => .seq c101_30 c101_32
def c101_34 : XC := fun _ => .seq c101_29 c101_33
def c101_35 : XC := fun _ => .seq c101_12 c101_34
def c101_36 : XC := fun _ => .cond (xt 25) c101_35 (fun _ => .skip)
def c101_37 : XC := fun _ => .seq c101_11 c101_36
def c101_38 : XC := fun _ => .block 1 c101_37
def c101_39 : XC := fun _ => .region [] [xo 14 (.mv (xt 3)),
 xo 15 (.bin .add (xt 14) (xi 1)),
 xo 3 (.mv (xt 15))] [0,3]
def c101_40 : XC := fun _ => .seq c101_38 c101_39
def c101_41 : XC := fun _ => .seq c101_10 c101_40
def c101_42 : XC := fun _ => .loop c101_41
def c101_43 : XC := fun _ => .block 0 c101_42
def c101_44 : XC := fun _ => .seq c101_7 c101_43
def c101_45 : XC := fun _ => .region [] [xo 60 (.mv (xt 0)),
 xo 2 (.mv (xt 60))] [2]
def c101_46 : XC := fun _ => .seq c101_45 (fun _ => .ret)
def c101_47 : XC := fun _ => .seq c101_44 c101_46
def c101_48 : XC := fun _ => .seq c101_6 c101_47
def c101_49 : XC := fun _ => .seq c101_1 c101_48
def m_slices_Compact_intint : MCode := c101_49 ()
def h_slices_Compact_intint : Hints := [(0, [0], [], [], []), (1, [0,8], [], [], []), (2, [2], [], [], []), (3, [0,3], [], [], []), (4, [0,3,13], [], [], []), (6, [0,3,25], [[],[],[],[],[],[],[],[0,1,2,3],[0,1,2,3]], [], []), (7, [0,3,4], [], [], []), (8, [0,3,4,5], [], [], []), (9, [0,3,4,5,32], [], [], []), (11, [0,3,4,5,44], [[],[],[],[],[],[],[],[0,1,2,3],[0,1,2,3]], [], []), (12, [0,3,4,5], [], [], []), (13, [0,3,4,5], [], [], []), (10, [0,3,4,5], [], [], []), (14, [0,3], [], [], []), (15, [2], [], [], []), (5, [0,3], [], [], []), (16, [2], [], [], [])]
def r_slices_Compact_intint : List RV := [.t 2]
abbrev n_slices_Compact_intint : Nat := 101
theorem k_slices_Compact_intint : Known Pr mu n_slices_Compact_intint m_slices_Compact_intint r_slices_Compact_intint Go.Proofs.Try.f101.ntmps := .of h_slices_Compact_intint hm Go.Proofs.Try.func101
def c103_1 : XC := fun _ => .region [] [xo 4 (.mv (.const (.slice none 0 0)))] [0,1]
def c103_2 : XC := fun _ => .region [] [xo 8 (.mv (xt 0)),
 xo 9 (.mv (xt 1)),
 xo 10 (.call 107 [(xt 8), (xt 9)]),
 xo 5 (.mv (xt 10))] [0,1,5]
def c103_3 : XC := fun _ => .region [] [xo 11 (.mv (xt 5)),
 xo 12 (.bin .eql (xt 11) (xi (-1)))] [0,1,5,12]
def c103_4 : XC := fun _ => .region [] [xo 13 (.mv (xt 0)),
 xo 4 (.mv (xt 13))] [4]
def c103_5 : XC := fun _ => .seq c103_4 (fun _ => .ret)
def c103_6 : XC := fun _ => .cond (xt 12) c103_5 (fun _ => .skip)
def c103_7 : XC := fun _ => .seq c103_3 c103_6
def c103_8 : XC := fun _ => .region [] [xo 14 (.mv (xt 5)),
 xo 15 (.bin .add (xt 14) (xi 1)),
 xo 6 (.mv (xt 15))] [0,1,5,6]
def c103_9 : XC := fun _ => .region [] [xo 16 (.mv (xt 6)),
 xo 17 (.mv (xt 0)),
 xo 18 (.len false (xt 17)),
 xo 19 (.bin .lss (xt 16) (xt 18))] [0,1,5,6,19]
def c103_10 : XC := fun _ => .cond (xt 19) (fun _ => .skip) (fun _ => .exit 0)
def c103_11 : XC := fun _ => .seq c103_9 c103_10
def c103_12 : XC := fun _ => .region [] [xo 22 (.mv (xt 0)),
 xo 23 (.mv (xt 6)),
 xo 24 (.ia (xt 22) (xt 23) 1),
 xo 25 (.ld (xt 24) 1 false),
 xo 7 (.mv (xt 25))] [0,1,5,6,7]
def c103_13 : XC := fun _ => .region [] [xo 26 (.mv (xt 1)),
 xo 27 (.mv (xt 7)),
 xo 28 (.callv (xt 26) [(xt 27)]),
 xo 29 (.not (xt 28))] [0,1,5,6,7,29]
def c103_14 : XC := fun _ => .region [] [xo 30 (.mv (xt 0)),
 xo 31 (.mv (xt 5)),
 xo 32 (.mv (xt 7)),
 xo 33 (.ia (xt 30) (xt 31) 1),
 xn (.sto (xt 33) (xt 32) 1)] [0,1,5,6]
def c103_15 : XC := fun _ => .region [] [xo 34 (.mv (xt 5)),
 xo 35 (.bin .add (xt 34) (xi 1)),
 xo 5 (.mv (xt 35))] [0,1,5,6]
def c103_16 : XC := fun _ => .seq c103_14 c103_15
def c103_17 : XC := fun _ => .cond (xt 29) c103_16 (fun _ => .skip)
def c103_18 : XC := fun _ => .seq c103_13 c103_17
def c103_19 : XC := fun _ => .seq c103_12 c103_18
def c103_20 : XC := fun _ => .block 1 c103_19
def c103_21 : XC := fun _ => .region [] [xo 20 (.mv (xt 6)),
 xo 21 (.bin .add (xt 20) (xi 1)),
 xo 6 (.mv (xt 21))] [0,1,5,6]
def c103_22 : XC := fun _ => .seq c103_20 c103_21
def c103_23 : XC := fun _ => .seq c103_11 c103_22
def c103_24 : XC := fun _ => .loop c103_23
def c103_25 : XC := fun _ => .block 0 c103_24
def c103_26 : XC := fun _ => .seq c103_8 c103_25
def c103_27 : XC := fun _ => .region [] [xo 36 (.mv (xt 0)),
 xo 37 (.mv (xt 5)),
 xo 38 (.slc false (xt 36) (some (xt 37)) none none 1),
 xn (.clr (xt 38) 1 [.int .i64 0])] [0,5]
def c103_28 : XC := fun _ => .region [] [xo 39 (.mv (xt 0)),
 xo 40 (.mv (xt 5)),
 xo 41 (.slc false (xt 39) none (some (xt 40)) none 1),
 xo 4 (.mv (xt 41))] [4]
def c103_29 : XC := fun _ => .seq c103_28 (fun _ => .ret)
def c103_30 : XC := fun _ => .seq c103_27 c103_29
def c103_31 : XC := fun _ => .seq c103_26 c103_30
def c103_32 : XC := fun _ => .seq c103_7 c103_31
def c103_33 : XC := fun _ => .seq c103_2 c103_32
def c103_34 : XC := fun _ => .seq c103_1 c103_33
def m_slices_DeleteFunc_intint : MCode := c103_34 ()
def h_slices_DeleteFunc_intint : Hints := [(0, [0,1], [], [], []), (1, [0,1,5], [], [], []), (2, [0,1,5,12], [], [], []), (3, [4], [], [], []), (4, [0,1,5,6], [], [], []), (5, [0,1,5,6,19], [], [], []), (7, [0,1,5,6,7], [], [], []), (8, [0,1,5,6,7,29], [], [], []), (9, [0,1,5,6], [], [], []), (10, [0,1,5,6], [], [], []), (6, [0,1,5,6], [], [], []), (11, [0,5], [], [], []), (12, [4], [], [], [])]
def r_slices_DeleteFunc_intint : List RV := [.t 4]
abbrev n_slices_DeleteFunc_intint : Nat := 103
theorem k_slices_DeleteFunc_intint : Known Pr mu n_slices_DeleteFunc_intint m_slices_DeleteFunc_intint r_slices_DeleteFunc_intint Go.Proofs.Try.f103.ntmps := .of h_slices_DeleteFunc_intint hm Go.Proofs.Try.func103
def c104_1 : XC := fun _ => .region [] [xo 3 (.mv (xb false))] [0,1]
def c104_2 : XC := fun _ => .region [] [xo 4 (.ld (xt 1) 1 false),
 xo 5 (.mv (xt 0)),
 xo 6 (.call 56 [(xt 4), (xt 5)]),
 xo 3 (.mv (xt 6))] [3]
def c104_3 : XC := fun _ => .seq c104_2 (fun _ => .ret)
def c104_4 : XC := fun _ => .seq c104_1 c104_3
def m_impl_WithoutServers_c1 : MCode := c104_4 ()
def h_impl_WithoutServers_c1 : Hints := [(0, [0,1], [], [], []), (1, [3], [], [], [])]
def r_impl_WithoutServers_c1 : List RV := [.t 3]
abbrev n_impl_WithoutServers_c1 : Nat := 104
theorem k_impl_WithoutServers_c1 : Known Pr mu n_impl_WithoutServers_c1 m_impl_WithoutServers_c1 r_impl_WithoutServers_c1 Go.Proofs.Try.f104.ntmps := .of h_impl_WithoutServers_c1 hm Go.Proofs.Try.func104
def c105_1 : XC := fun _ => .region [] [xo 8 (.mv (xb true))] [0,1,2,3,8]
def c105_2 : XC := fun _ => .region [] [xo 9 (.mv (xb true))] [0,1,2,3,8,9]
def c105_3 : XC := fun _ => .region [] [xo 19 (.mv (xt 2)),
 xo 20 (.mv (xt 1)),
 xo 21 (.bin .sub (xt 19) (xt 20)),
 xo 10 (.mv (xt 21))] [0,1,2,3,8,9,10]
def c105_4 : XC := fun _ => .region [] [xo 22 (.mv (xt 10)),
 xo 23 (.bin .leq (xt 22) (xi 12))] [0,1,2,3,8,9,10,23]
def c105_5 : XC := fun _ => .region [] [xo 24 (.mv (xt 0)),
 xo 25 (.mv (xt 1)),
 xo 26 (.mv (xt 2)),
 xo 27 (.callm 108 [(xt 24), (xt 25), (xt 26)])] []
def c105_6 : XC := fun _ => .seq c105_5 (fun _ => .ret)
def c105_7 : XC := fun _ => .cond (xt 23) c105_6 (fun _ => .skip)
def c105_8 : XC := fun _ => .seq c105_4 c105_7
def c105_9 : XC := fun _ => .region [] [xo 28 (.mv (xt 3)),
 xo 29 (.bin .eql (xt 28) (xi 0))] [0,1,2,3,8,9,10,29]
def c105_10 : XC := fun _ => .region [] [xo 30 (.mv (xt 0)),
 xo 31 (.mv (xt 1)),
 xo 32 (.mv (xt 2)),
 xo 33 (.callm 109 [(xt 30), (xt 31), (xt 32)])] []
def c105_11 : XC := fun _ => .seq c105_10 (fun _ => .ret)
def c105_12 : XC := fun _ => .cond (xt 29) c105_11 (fun _ => .skip)
def c105_13 : XC := fun _ => .seq c105_9 c105_12
def c105_14 : XC := fun _ => .region [] [xo 34 (.mv (xt 8)),
 xo 35 (.not (xt 34))] [0,1,2,3,8,9,10,35]
def c105_15 : XC := fun _ => .region [] [xo 36 (.mv (xt 0)),
 xo 37 (.mv (xt 1)),
 xo 38 (.mv (xt 2)),
 xo 39 (.callm 110 [(xt 36), (xt 37), (xt 38)])] [0,1,2,3,8,9,10]
def c105_16 : XC := fun _ => .region [] [xo 40 (.mv (xt 3)),
 xo 41 (.bin .sub (xt 40) (xi 1)),
 xo 3 (.mv (xt 41))] [0,1,2,3,8,9,10]
def c105_17 : XC := fun _ => .seq c105_15 c105_16
def c105_18 : XC := fun _ => .cond (xt 35) c105_17 (fun _ => .skip)
def c105_19 : XC := fun _ => .seq c105_14 c105_18
def c105_20 : XC := fun _ => .region [] [xo 43 (.mv (xt 0)),
 xo 44 (.mv (xt 1)),
 xo 45 (.mv (xt 2)),
 xo 46 (.call 111 [(xt 43), (xt 44), (xt 45)]),
 xo 42 (.mv (xt 46)),
 xo 47 (.ext (xt 42) 0),
 xo 48 (.ext (xt 42) 1),
 xo 11 (.mv (xt 47)),
 xo 12 (.mv (xt 48))] [0,1,2,3,8,9,10,11,12]
def c105_21 : XC := fun _ => .region [] [xo 49 (.mv (xt 12)),
 xo 50 (.bin .eql (xt 49) (xi 2))] [0,1,2,3,8,9,10,11,12,50]
def c105_22 : XC := fun _ => .region [] [xo 51 (.mv (xt 0)),
 xo 52 (.mv (xt 1)),
 xo 53 (.mv (xt 2)),
 xo 54 (.callm 112 [(xt 51), (xt 52), (xt 53)])] [0,1,2,3,8,9,10,11]
def c105_23 : XC := fun _ => .region [] [xo 55 (.mv (xt 2)),
 xo 56 (.bin .sub (xt 55) (xi 1)),
 xo 57 (.mv (xt 11)),
 xo 58 (.mv (xt 1)),
 xo 59 (.bin .sub (xt 57) (xt 58)),
 xo 60 (.bin .sub (xt 56) (xt 59)),
 xo 11 (.mv (xt 60))] [0,1,2,3,8,9,10,11]
def c105_24 : XC := fun _ => .region [] [xo 12 (.mv (xi 1))] [0,1,2,3,8,9,10,11,12]
def c105_25 : XC := fun _ => .seq c105_23 c105_24
def c105_26 : XC := fun _ => .seq c105_22 c105_25
def c105_27 : XC := fun _ => .cond (xt 50) c105_26 (fun _ => .skip)
def c105_28 : XC := fun _ => .seq c105_21 c105_27
def c105_29 : XC := fun _ => .region [] [xo 61 (.mv (xt 8)),
 xo 62 (.mv (xt 61)),
 ⟨(some 63), .mv (xt 9), (some (62, true)), []⟩,
 xo 64 (.pick (xt 62) (xt 63) (xb false)),
 xo 65 (.mv (xt 64)),
 ⟨(some 66), .mv (xt 12), (some (65, true)), []⟩,
 ⟨(some 67), .bin .eql (xt 66) (xi 1), (some (65, true)), []⟩,
 xo 68 (.pick (xt 65) (xt 67) (xb false))] [0,1,2,3,8,9,10,11,68]
def c105_30 : XC := fun _ => .region [] [xo 69 (.mv (xt 0)),
 xo 70 (.mv (xt 1)),
 xo 71 (.mv (xt 2)),
 xo 72 (.callm 113 [(xt 69), (xt 70), (xt 71)])] [0,1,2,3,8,9,10,11,72]
def c105_31 : XC := fun _ => .cond (xt 72) (fun _ => .ret) (fun _ => .skip)
def c105_32 : XC := fun _ => .seq c105_30 c105_31
def c105_33 : XC := fun _ => .cond (xt 68) c105_32 (fun _ => .skip)
def c105_34 : XC := fun _ => .seq c105_29 c105_33
def c105_35 : XC := fun _ => .region [] [xo 73 (.mv (xt 1)),
 xo 74 (.bin .gtr (xt 73) (xi 0)),
 xo 75 (.mv (xt 74)),
 ⟨(some 76), .mv (xt 0), (some (75, true)), []⟩,
 ⟨(some 77), .mv (xt 1), (some (75, true)), []⟩,
 ⟨(some 78), .bin .sub (xt 77) (xi 1), (some (75, true)), []⟩,
 ⟨(some 79), .ia (xt 76) (xt 78) 1, (some (75, true)), []⟩,
 ⟨(some 80), .ld (xt 79) 1 false, (some (75, true)), []⟩,
 ⟨(some 81), .mv (xt 0), (some (75, true)), []⟩,
 ⟨(some 82), .mv (xt 11), (some (75, true)), []⟩,
 ⟨(some 83), .ia (xt 81) (xt 82) 1, (some (75, true)), [3, 4, 5, 6, 7]⟩,
 ⟨(some 84), .ld (xt 83) 1 false, (some (75, true)), [3, 4, 5, 6, 7]⟩,
 ⟨(some 85), .call 114 [(xt 80), (xt 84)], (some (75, true)), []⟩,
 ⟨(some 86), .not (xt 85), (some (75, true)), []⟩,
 xo 87 (.pick (xt 75) (xt 86) (xb false))] [0,1,2,3,8,9,10,11,87]
def c105_36 : XC := fun _ => .region [] [xo 88 (.mv (xt 0)),
 xo 89 (.mv (xt 1)),
 xo 90 (.mv (xt 2)),
 xo 91 (.mv (xt 11)),
 xo 92 (.callm 115 [(xt 88), (xt 89), (xt 90), (xt 91)]),
 xo 13 (.mv (xt 92))] [0,2,3,8,9,13]
def c105_37 : XC := fun _ => .region [] [xo 93 (.mv (xt 13)),
 xo 1 (.mv (xt 93))] [0,1,2,3,8,9]
def c105_38 : XC := fun _ => .seq c105_37 (fun _ => .exit 1)
def c105_39 : XC := fun _ => .seq c105_36 c105_38
def c105_40 : XC := fun _ => .cond (xt 87) c105_39 (fun _ => .skip)
def c105_41 : XC := fun _ => .seq c105_35 c105_40
def c105_42 : XC := fun _ => .region [] [xo 95 (.mv (xt 0)),
 xo 96 (.mv (xt 1)),
 xo 97 (.mv (xt 2)),
 xo 98 (.mv (xt 11)),
 xo 99 (.callm 116 [(xt 95), (xt 96), (xt 97), (xt 98)]),
 xo 94 (.mv (xt 99)),
 xo 100 (.ext (xt 94) 0),
 xo 101 (.ext (xt 94) 1),
 xo 14 (.mv (xt 100)),
 xo 15 (.mv (xt 101))] [0,1,2,3,10,14,15]
def c105_43 : XC := fun _ => .region [] [xo 102 (.mv (xt 15)),
 xo 9 (.mv (xt 102))] [0,1,2,3,9,10,14]
def c105_44 : XC := fun _ => .region [] [xo 103 (.mv (xt 14)),
 xo 104 (.mv (xt 1)),
 xo 105 (.bin .sub (xt 103) (xt 104)),
 xo 106 (.mv (xt 2)),
 xo 107 (.mv (xt 14)),
 xo 108 (.bin .sub (xt 106) (xt 107)),
 xo 16 (.mv (xt 105)),
 xo 17 (.mv (xt 108))] [0,1,2,3,9,10,14,16,17]
def c105_45 : XC := fun _ => .region [] [xo 109 (.mv (xt 10)),
 xo 110 (.bin .quo (xt 109) (xi 8)),
 xo 18 (.mv (xt 110))] [0,1,2,3,9,14,16,17,18]
def c105_46 : XC := fun _ => .region [] [xo 111 (.mv (xt 16)),
 xo 112 (.mv (xt 17)),
 xo 113 (.bin .lss (xt 111) (xt 112))] [0,1,2,3,9,14,16,17,18,113]
def c105_47 : XC := fun _ => .region [] [xo 114 (.mv (xt 16)),
 xo 115 (.mv (xt 18)),
 xo 116 (.bin .geq (xt 114) (xt 115)),
 xo 8 (.mv (xt 116))] [0,1,2,3,8,9,14]
def c105_48 : XC := fun _ => .region [] [xo 117 (.mv (xt 0)),
 xo 118 (.mv (xt 1)),
 xo 119 (.mv (xt 14)),
 xo 120 (.mv (xt 3)),
 xo 121 (.callm 105 [(xt 117), (xt 118), (xt 119), (xt 120)])] [0,2,3,8,9,14]
def c105_49 : XC := fun _ => .region [] [xo 122 (.mv (xt 14)),
 xo 123 (.bin .add (xt 122) (xi 1)),
 xo 1 (.mv (xt 123))] [0,1,2,3,8,9]
def c105_50 : XC := fun _ => .seq c105_48 c105_49
def c105_51 : XC := fun _ => .seq c105_47 c105_50
def c105_52 : XC := fun _ => .region [] [xo 124 (.mv (xt 17)),
 xo 125 (.mv (xt 18)),
 xo 126 (.bin .geq (xt 124) (xt 125)),
 xo 8 (.mv (xt 126))] [0,1,2,3,8,9,14]
def c105_53 : XC := fun _ => .region [] [xo 127 (.mv (xt 0)),
 xo 128 (.mv (xt 14)),
 xo 129 (.bin .add (xt 128) (xi 1)),
 xo 130 (.mv (xt 2)),
 xo 131 (.mv (xt 3)),
 xo 132 (.callm 105 [(xt 127), (xt 129), (xt 130), (xt 131)])] [0,1,3,8,9,14]
def c105_54 : XC := fun _ => .region [] [xo 133 (.mv (xt 14)),
 xo 2 (.mv (xt 133))] [0,1,2,3,8,9]
def c105_55 : XC := fun _ => .seq c105_53 c105_54
def c105_56 : XC := fun _ => .seq c105_52 c105_55
def c105_57 : XC := fun _ => .cond (xt 113) c105_51 c105_56
def c105_58 : XC := fun _ => .seq c105_46 c105_57
def c105_59 : XC := fun _ => .seq c105_45 c105_58
def c105_60 : XC := fun _ => .seq c105_44 c105_59
def c105_61 : XC := fun _ => .seq c105_43 c105_60
def c105_62 : XC := fun _ => .seq c105_42 c105_61
def c105_63 : XC := fun _ => .seq c105_41 c105_62
def c105_64 : XC := fun _ => .seq c105_34 c105_63
def c105_65 : XC := fun _ => .seq c105_28 c105_64
def c105_66 : XC := fun _ => .seq c105_20 c105_65
def c105_67 : XC := fun _ => .seq c105_19 c105_66
def c105_68 : XC := fun _ => .seq c105_13 c105_67
def c105_69 : XC := fun _ => .seq c105_8 c105_68
def c105_70 : XC := fun _ => .seq c105_3 c105_69
def c105_71 : XC := fun _ => .block 1 c105_70
def c105_72 : XC := fun _ => .loop c105_71
def c105_73 : XC := fun _ => .block 0 c105_72
def c105_74 : XC := fun _ => .seq c105_2 c105_73
def c105_75 : XC := fun _ => .seq c105_1 c105_74
def m_slices_pdqsortOrdered_int : MCode := c105_75 ()
def h_slices_pdqsortOrdered_int : Hints := [(0, [0,1,2,3,8], [], [], []), (1, [0,1,2,3,8,9], [], [], []), (2, [0,1,2,3,8,9,10], [], [], []), (3, [0,1,2,3,8,9,10,23], [], [], []), (4, [], [], [], []), (5, [0,1,2,3,8,9,10,29], [], [], []), (6, [], [], [], []), (7, [0,1,2,3,8,9,10,35], [], [], []), (8, [0,1,2,3,8,9,10], [], [], []), (9, [0,1,2,3,8,9,10], [], [], []), (10, [0,1,2,3,8,9,10,11,12], [], [], []), (11, [0,1,2,3,8,9,10,11,12,50], [], [], []), (12, [0,1,2,3,8,9,10,11], [], [], []), (13, [0,1,2,3,8,9,10,11], [], [], []), (14, [0,1,2,3,8,9,10,11,12], [], [], []), (15, [0,1,2,3,8,9,10,11,68], [], [], []), (16, [0,1,2,3,8,9,10,11,72], [], [], []), (17, [0,1,2,3,8,9,10,11,87], [[],[],[],[],[],[],[],[],[],[],[3,4,5,6,7],[3,4,5,6,7]], [], []), (18, [0,2,3,8,9,13], [], [], []), (19, [0,1,2,3,8,9], [], [], []), (20, [0,1,2,3,10,14,15], [], [], []), (21, [0,1,2,3,9,10,14], [], [], []), (22, [0,1,2,3,9,10,14,16,17], [], [], []), (23, [0,1,2,3,9,14,16,17,18], [], [], []), (24, [0,1,2,3,9,14,16,17,18,113], [], [], []), (25, [0,1,2,3,8,9,14], [], [], []), (26, [0,2,3,8,9,14], [], [], []), (27, [0,1,2,3,8,9], [], [], []), (28, [0,1,2,3,8,9,14], [], [], []), (29, [0,1,3,8,9,14], [], [], []), (30, [0,1,2,3,8,9], [], [], [])]
def r_slices_pdqsortOrdered_int : List RV := []
abbrev n_slices_pdqsortOrdered_int : Nat := 105
theorem k_slices_pdqsortOrdered_int : Known Pr mu n_slices_pdqsortOrdered_int m_slices_pdqsortOrdered_int r_slices_pdqsortOrdered_int Go.Proofs.Try.f105.ntmps := .of h_slices_pdqsortOrdered_int hm Go.Proofs.Try.func105
def c106_1 : XC := fun _ => .region [] [xo 2 (.mv (xi 0))] [0]
def c106_2 : XC := fun _ => .region [] [xo 3 (.mv (xt 0)),
 xo 4 (.conv .u32 (xt 3)),
 xo 5 (.call 117 [(xt 4)]),
 xo 2 (.mv (xt 5))] [2]
def c106_3 : XC := fun _ => .seq c106_2 (fun _ => .ret)
def c106_4 : XC := fun _ => .cond (xb false) c106_3 (fun _ => .skip)
def c106_5 : XC := fun _ => .region [] [xo 6 (.mv (xt 0)),
 xo 7 (.call 118 [(xt 6)]),
 xo 2 (.mv (xt 7))] [2]
def c106_6 : XC := fun _ => .seq c106_5 (fun _ => .ret)
def c106_7 : XC := fun _ => .seq c106_4 c106_6
def c106_8 : XC := fun _ => .seq c106_1 c106_7
def m_math_bits_Len : MCode := c106_8 ()
def h_math_bits_Len : Hints := [(0, [0], [], [], []), (1, [2], [], [], []), (2, [2], [], [], [])]
def r_math_bits_Len : List RV := [.t 2]
abbrev n_math_bits_Len : Nat := 106
theorem k_math_bits_Len : Known Pr mu n_math_bits_Len m_math_bits_Len r_math_bits_Len Go.Proofs.Try.f106.ntmps := .of h_math_bits_Len hm Go.Proofs.Try.func106
def c107_1 : XC := fun _ => .region [] [xo 4 (.mv (xi 0))] [0,1]
def c107_2 : XC := fun _ => .region [] [xo 6 (.mv (xt 0)),
 xo 7 (.len false (xt 6)),
 xo 8 (.mv (xi 0))] [0,1,7,8]
def c107_3 : XC := fun _ => .region [] [xo 9 (.bin .lss (xt 8) (xt 7))] [0,1,7,8,9]
def c107_4 : XC := fun _ => .cond (xt 9) (fun _ => .skip) (fun _ => .exit 0)
def c107_5 : XC := fun _ => .region [] [xo 10 (.mv (xt 8)),
 xo 5 (.mv (xt 10))] [0,1,5,7,8]
def c107_6 : XC := fun _ => .region [] [xo 11 (.mv (xt 1)),
 xo 12 (.mv (xt 0)),
 xo 13 (.mv (xt 5)),
 xo 14 (.ia (xt 12) (xt 13) 1),
 xo 15 (.ld (xt 14) 1 false),
 xo 16 (.callv (xt 11) [(xt 15)])] [0,1,5,7,8,16]
def c107_7 : XC := fun _ => .region [] [xo 17 (.mv (xt 5)),
 xo 4 (.mv (xt 17))] [4]
def c107_8 : XC := fun _ => .seq c107_7 (fun _ => .ret)
def c107_9 : XC := fun _ => .cond (xt 16) c107_8 (fun _ => .skip)
def c107_10 : XC := fun _ => .seq c107_6 c107_9
def c107_11 : XC := fun _ => .seq c107_5 c107_10
def c107_12 : XC := fun _ => .block 1 c107_11
def c107_13 : XC := fun _ => .region [] [xo 18 (.bin .add (xt 8) (xi 1)),
 xo 8 (.mv (xt 18))] [0,1,7,8]
def c107_14 : XC := fun _ => .seq c107_12 c107_13
def c107_15 : XC := fun _ => .seq c107_4 c107_14
def c107_16 : XC := fun _ => .seq c107_3 c107_15
def c107_17 : XC := fun _ => .loop c107_16
def c107_18 : XC := fun _ => .block 0 c107_17
def c107_19 : XC := fun _ => .seq c107_2 c107_18
def c107_20 : XC := fun _ => .region [] [xo 4 (.mv (xi (-1)))] [4]
def c107_21 : XC := fun _ => .seq c107_20 (fun _ => .ret)
def c107_22 : XC := fun _ => .seq c107_19 c107_21
def c107_23 : XC := fun _ => .seq c107_1 c107_22
def m_slices_IndexFunc_intint : MCode := c107_23 ()
def h_slices_IndexFunc_intint : Hints := [(0, [0,1], [], [], []), (1, [0,1,7,8], [], [], []), (2, [0,1,7,8,9], [], [], []), (3, [0,1,5,7,8], [], [], []), (4, [0,1,5,7,8,16], [], [], []), (5, [4], [], [], []), (6, [0,1,7,8], [], [], []), (7, [4], [], [], [])]
def r_slices_IndexFunc_intint : List RV := [.t 4]
abbrev n_slices_IndexFunc_intint : Nat := 107
theorem k_slices_IndexFunc_intint : Known Pr mu n_slices_IndexFunc_intint m_slices_IndexFunc_intint r_slices_IndexFunc_intint Go.Proofs.Try.f107.ntmps := .of h_slices_IndexFunc_intint hm Go.Proofs.Try.func107
def c108_1 : XC := fun _ => .region [] [xo 8 (.mv (xt 1)),
 xo 9 (.bin .add (xt 8) (xi 1)),
 xo 6 (.mv (xt 9))] [0,1,2,6]
def c108_2 : XC := fun _ => .region [] [xo 10 (.mv (xt 6)),
 xo 11 (.mv (xt 2)),
 xo 12 (.bin .lss (xt 10) (xt 11))] [0,1,2,6,12]
def c108_3 : XC := fun _ => .cond (xt 12) (fun _ => .skip) (fun _ => .exit 0)
def c108_4 : XC := fun _ => .seq c108_2 c108_3
def c108_5 : XC := fun _ => .region [] [xo 15 (.mv (xt 6)),
 xo 7 (.mv (xt 15))] [0,1,2,6,7]
def c108_6 : XC := fun _ => .region [] [xo 16 (.mv (xt 7)),
 xo 17 (.mv (xt 1)),
 xo 18 (.bin .gtr (xt 16) (xt 17)),
 xo 19 (.mv (xt 18)),
 ⟨(some 20), .mv (xt 0), (some (19, true)), []⟩,
 ⟨(some 21), .mv (xt 7), (some (19, true)), []⟩,
 ⟨(some 22), .ia (xt 20) (xt 21) 1, (some (19, true)), []⟩,
 ⟨(some 23), .ld (xt 22) 1 false, (some (19, true)), []⟩,
 ⟨(some 24), .mv (xt 0), (some (19, true)), []⟩,
 ⟨(some 25), .mv (xt 7), (some (19, true)), []⟩,
 ⟨(some 26), .bin .sub (xt 25) (xi 1), (some (19, true)), []⟩,
 ⟨(some 27), .ia (xt 24) (xt 26) 1, (some (19, true)), [4, 5, 6, 7]⟩,
 ⟨(some 28), .ld (xt 27) 1 false, (some (19, true)), [4, 5, 6, 7]⟩,
 ⟨(some 29), .call 114 [(xt 23), (xt 28)], (some (19, true)), []⟩,
 xo 30 (.pick (xt 19) (xt 29) (xb false))] [0,1,2,6,7,30]
def c108_7 : XC := fun _ => .cond (xt 30) (fun _ => .skip) (fun _ => .exit 2)
def c108_8 : XC := fun _ => .seq c108_6 c108_7
def c108_9 : XC := fun _ => .region [] [xo 33 (.mv (xt 0)),
 xo 34 (.mv (xt 7)),
 xo 35 (.mv (xt 0)),
 xo 36 (.mv (xt 7)),
 xo 37 (.bin .sub (xt 36) (xi 1)),
 xo 38 (.mv (xt 0)),
 xo 39 (.mv (xt 7)),
 xo 40 (.bin .sub (xt 39) (xi 1)),
 ⟨(some 41), .ia (xt 38) (xt 40) 1, none, [0, 1, 2, 3, 4]⟩,
 ⟨(some 42), .ld (xt 41) 1 false, none, [0, 1, 2, 3, 4]⟩,
 xo 43 (.mv (xt 0)),
 xo 44 (.mv (xt 7)),
 ⟨(some 45), .ia (xt 43) (xt 44) 1, none, [0, 1, 2, 3, 4, 5, 6, 7, 8, 9]⟩,
 ⟨(some 46), .ld (xt 45) 1 false, none, [0, 1, 2, 3, 4, 5, 6, 7, 8, 9]⟩,
 ⟨(some 47), .ia (xt 33) (xt 34) 1, none, [2, 3, 4]⟩,
 xn (.sto (xt 47) (xt 42) 1),
 xo 48 (.ia (xt 35) (xt 37) 1),
 xn (.sto (xt 48) (xt 46) 1)] [0,1,2,6,7]
def c108_10 : XC := fun _ => .block 3 c108_9
def c108_11 : XC := fun _ => .region [] [xo 31 (.mv (xt 7)),
 xo 32 (.bin .sub (xt 31) (xi 1)),
 xo 7 (.mv (xt 32))] [0,1,2,6,7]
def c108_12 : XC := fun _ => .seq c108_10 c108_11
def c108_13 : XC := fun _ => .seq c108_8 c108_12
def c108_14 : XC := fun _ => .loop c108_13
def c108_15 : XC := fun _ => .block 2 c108_14
def c108_16 : XC := fun _ => .seq c108_5 c108_15
def c108_17 : XC := fun _ => .block 1 c108_16
def c108_18 : XC := fun _ => .region [] [xo 13 (.mv (xt 6)),
 xo 14 (.bin .add (xt 13) (xi 1)),
 xo 6 (.mv (xt 14))] [0,1,2,6]
def c108_19 : XC := fun _ => .seq c108_17 c108_18
def c108_20 : XC := fun _ => .seq c108_4 c108_19
def c108_21 : XC := fun _ => .loop c108_20
def c108_22 : XC := fun _ => .block 0 c108_21
def c108_23 : XC := fun _ => .seq c108_1 c108_22
def m_slices_insertionSortOrdered_int : MCode := c108_23 ()
def h_slices_insertionSortOrdered_int : Hints := [(0, [0,1,2,6], [], [], []), (1, [0,1,2,6,12], [], [], []), (3, [0,1,2,6,7], [], [], []), (4, [0,1,2,6,7,30], [[],[],[],[],[],[],[],[],[],[],[],[4,5,6,7],[4,5,6,7]], [], []), (6, [0,1,2,6,7], [[],[],[],[],[],[],[],[],[0,1,2,3,4],[0,1,2,3,4],[],[],[0,1,2,3,4,5,6,7,8,9],[0,1,2,3,4,5,6,7,8,9],[2,3,4]], [], [2,3,4]), (5, [0,1,2,6,7], [], [], []), (2, [0,1,2,6], [], [], [])]
def r_slices_insertionSortOrdered_int : List RV := []
abbrev n_slices_insertionSortOrdered_int : Nat := 108
theorem k_slices_insertionSortOrdered_int : Known Pr mu n_slices_insertionSortOrdered_int m_slices_insertionSortOrdered_int r_slices_insertionSortOrdered_int Go.Proofs.Try.f108.ntmps := .of h_slices_insertionSortOrdered_int hm Go.Proofs.Try.func108
def c114_1 : XC := fun _ => .region [] [xo 4 (.mv (xb false))] [0,1]
def c114_2 : XC := fun _ => .region [] [xo 5 (.mv (xt 0)),
 xo 6 (.call 124 [(xt 5)]),
 xo 7 (.mv (xt 6)),
 ⟨(some 8), .mv (xt 1), (some (7, true)), []⟩,
 ⟨(some 9), .call 124 [(xt 8)], (some (7, true)), []⟩,
 ⟨(some 10), .not (xt 9), (some (7, true)), []⟩,
 xo 11 (.pick (xt 7) (xt 10) (xb false)),
 xo 12 (.mv (xt 11)),
 ⟨(some 13), .mv (xt 0), (some (12, false)), []⟩,
 ⟨(some 14), .mv (xt 1), (some (12, false)), []⟩,
 ⟨(some 15), .bin .lss (xt 13) (xt 14), (some (12, false)), []⟩,
 xo 16 (.pick (xt 12) (xb true) (xt 15)),
 xo 4 (.mv (xt 16))] [4]
def c114_3 : XC := fun _ => .seq c114_2 (fun _ => .ret)
def c114_4 : XC := fun _ => .seq c114_1 c114_3
def m_cmp_Less_int : MCode := c114_4 ()
def h_cmp_Less_int : Hints := [(0, [0,1], [], [], []), (1, [4], [], [], [])]
def r_cmp_Less_int : List RV := [.t 4]
abbrev n_cmp_Less_int : Nat := 114
theorem k_cmp_Less_int : Known Pr mu n_cmp_Less_int m_cmp_Less_int r_cmp_Less_int Go.Proofs.Try.f114.ntmps := .of h_cmp_Less_int hm Go.Proofs.Try.func114
def c118_1 : XC := fun _ => .region [] [xo 2 (.mv (xi 0))] [0,2]
def c118_2 : XC := fun _ => .region [] [xo 3 (.mv (xt 0)),
 xo 4 (.bin .geq (xt 3) (.const (.int .u64 4294967296)))] [0,2,4]
def c118_3 : XC := fun _ => .region [] [xo 5 (.mv (xt 0)),
 xo 6 (.bit .shr (xt 5) (.const (.int .u64 32))),
 xo 0 (.mv (xt 6))] [0]
def c118_4 : XC := fun _ => .region [] [xo 2 (.mv (xi 32))] [0,2]
def c118_5 : XC := fun _ => .seq c118_3 c118_4
def c118_6 : XC := fun _ => .cond (xt 4) c118_5 (fun _ => .skip)
def c118_7 : XC := fun _ => .seq c118_2 c118_6
def c118_8 : XC := fun _ => .region [] [xo 7 (.mv (xt 0)),
 xo 8 (.bin .geq (xt 7) (.const (.int .u64 65536)))] [0,2,8]
def c118_9 : XC := fun _ => .region [] [xo 9 (.mv (xt 0)),
 xo 10 (.bit .shr (xt 9) (.const (.int .u64 16))),
 xo 0 (.mv (xt 10))] [0,2]
def c118_10 : XC := fun _ => .region [] [xo 11 (.mv (xt 2)),
 xo 12 (.bin .add (xt 11) (xi 16)),
 xo 2 (.mv (xt 12))] [0,2]
def c118_11 : XC := fun _ => .seq c118_9 c118_10
def c118_12 : XC := fun _ => .cond (xt 8) c118_11 (fun _ => .skip)
def c118_13 : XC := fun _ => .seq c118_8 c118_12
def c118_14 : XC := fun _ => .region [] [xo 13 (.mv (xt 0)),
 xo 14 (.bin .geq (xt 13) (.const (.int .u64 256)))] [0,2,14]
def c118_15 : XC := fun _ => .region [] [xo 15 (.mv (xt 0)),
 xo 16 (.bit .shr (xt 15) (.const (.int .u64 8))),
 xo 0 (.mv (xt 16))] [0,2]
def c118_16 : XC := fun _ => .region [] [xo 17 (.mv (xt 2)),
 xo 18 (.bin .add (xt 17) (xi 8)),
 xo 2 (.mv (xt 18))] [0,2]
def c118_17 : XC := fun _ => .seq c118_15 c118_16
def c118_18 : XC := fun _ => .cond (xt 14) c118_17 (fun _ => .skip)
def c118_19 : XC := fun _ => .seq c118_14 c118_18
def c118_20 : XC := fun _ => .region [] [xo 19 (.mv (xt 2)),
 xo 20 (.mv (xt 0)),
 xo 21 (.conv .u8 (xt 20)),
 xo 22 (.sidx (.const (.string ⟨#[0, 1, 2, 2, 3, 3, 3, 3, 4, 4, 4, 4, 4, 4, 4, 4, 5, 5, 5, 5, 5, 5, 5, 5, 5, 5, 5, 5, 5, 5, 5, 5, 6, 6, 6, 6, 6, 6, 6, 6, 6, 6, 6, 6, 6, 6, 6, 6, 6, 6, 6, 6, 6, 6, 6, 6, 6, 6, 6, 6, 6, 6, 6, 6, 7, 7, 7, 7, 7, 7, 7, 7, 7, 7, 7, 7, 7, 7, 7, 7, 7, 7, 7, 7, 7, 7, 7, 7, 7, 7, 7, 7, 7, 7, 7, 7, 7, 7, 7, 7, 7, 7, 7, 7, 7, 7, 7, 7, 7, 7, 7, 7, 7, 7, 7, 7, 7, 7, 7, 7, 7, 7, 7, 7, 7, 7, 7, 7, 8, 8, 8, 8, 8, 8, 8, 8, 8, 8, 8, 8, 8, 8, 8, 8, 8, 8, 8, 8, 8, 8, 8, 8, 8, 8, 8, 8, 8, 8, 8, 8, 8, 8, 8, 8, 8, 8, 8, 8, 8, 8, 8, 8, 8, 8, 8, 8, 8, 8, 8, 8, 8, 8, 8, 8, 8, 8, 8, 8, 8, 8, 8, 8, 8, 8, 8, 8, 8, 8, 8, 8, 8, 8, 8, 8, 8, 8, 8, 8, 8, 8, 8, 8, 8, 8, 8, 8, 8, 8, 8, 8, 8, 8, 8, 8, 8, 8, 8, 8, 8, 8, 8, 8, 8, 8, 8, 8, 8, 8, 8, 8, 8, 8, 8, 8, 8, 8, 8, 8, 8, 8, 8, 8, 8, 8, 8, 8]⟩)) (xt 21)),
 xo 23 (.conv .i64 (xt 22)),
 xo 24 (.bin .add (xt 19) (xt 23)),
 xo 2 (.mv (xt 24))] [2]
def c118_21 : XC := fun _ => .seq c118_20 (fun _ => .ret)
def c118_22 : XC := fun _ => .seq c118_19 c118_21
def c118_23 : XC := fun _ => .seq c118_13 c118_22
def c118_24 : XC := fun _ => .seq c118_7 c118_23
def c118_25 : XC := fun _ => .seq c118_1 c118_24
def m_math_bits_Len64 : MCode := c118_25 ()
def h_math_bits_Len64 : Hints := [(0, [0,2], [], [], []), (1, [0,2,4], [], [], []), (2, [0], [], [], []), (3, [0,2], [], [], []), (4, [0,2,8], [], [], []), (5, [0,2], [], [], []), (6, [0,2], [], [], []), (7, [0,2,14], [], [], []), (8, [0,2], [], [], []), (9, [0,2], [], [], []), (10, [2], [], [], [])]
def r_math_bits_Len64 : List RV := [.t 2]
abbrev n_math_bits_Len64 : Nat := 118
theorem k_math_bits_Len64 : Known Pr mu n_math_bits_Len64 m_math_bits_Len64 r_math_bits_Len64 Go.Proofs.Try.f118.ntmps := .of h_math_bits_Len64 hm Go.Proofs.Try.func118
def c124_1 : XC := fun _ => .region [] [xo 2 (.mv (xb false))] [0]
def c124_2 : XC := fun _ => .region [] [xo 3 (.mv (xt 0)),
 xo 4 (.mv (xt 0)),
 xo 5 (.bin .neq (xt 3) (xt 4)),
 xo 2 (.mv (xt 5))] [2]
def c124_3 : XC := fun _ => .seq c124_2 (fun _ => .ret)
def c124_4 : XC := fun _ => .seq c124_1 c124_3
def m_cmp_isNaN_int : MCode := c124_4 ()
def h_cmp_isNaN_int : Hints := [(0, [0], [], [], []), (1, [2], [], [], [])]
def r_cmp_isNaN_int : List RV := [.t 2]
abbrev n_cmp_isNaN_int : Nat := 124
theorem k_cmp_isNaN_int : Known Pr mu n_cmp_isNaN_int m_cmp_isNaN_int r_cmp_isNaN_int Go.Proofs.Try.f124.ntmps := .of h_cmp_isNaN_int hm Go.Proofs.Try.func124
end Go.V.T
