/- The short code of the functions that FnExactTakeSnapshot reaches, held against the program. Conditions: none. -/
import Derived.Test.YtmgaclkdjlhjmaaDoorV6
import Derived.Test.YtmgaclkdjlhjmaaDoorProg
namespace Go.V.T
open Go Go.V
noncomputable abbrev Pr := Go.Proofs.Tryd.prog
def mu : Nat → Bool := fun n => Nat.beq n 10 || Nat.beq n 11 || Nat.beq n 24 || Nat.beq n 38 || Nat.beq n 39 || Nat.beq n 72 || Nat.beq n 4000050
def muc : Nat → Bool := fun n => Nat.beq n 3000000 || mu n
abbrev XC := Unit → MCode
def xt (n : Nat) : Operand := .tmp n
def xi (n : Int) : Operand := .const (.int .i64 n)
def xb (b : Bool) : Operand := .const (.bool b)
def xo (d : Nat) (m : MOp) : MOper := ⟨some d, m, none, []⟩
def xn (m : MOp) : MOper := ⟨none, m, none, []⟩
theorem hm : Pr.follows .mixedOrders = true := by kernel_rfl
def xR : XC := fun _ => .ret
def xS : XC := fun _ => .skip
def xE (n : Nat) : XC := fun _ => .exit n
def xQ (a b : XC) : XC := fun _ => .seq a b
def xC (n : Nat) (a b : XC) : XC := fun _ => .cond (.tmp n) a b
def xB (n : Nat) (a : XC) : XC := fun _ => .block n a
def xL (a : XC) : XC := fun _ => .loop a
def xG (o : List MOper) (l : List Nat) : XC := fun _ => .region [] o l
def xA (n : Nat) (o : Unit → Ord) (l : List Nat) : XC := fun _ => .regionA n o l
def xs (n : Nat) (o : MOper) (r : Unit → Ord) : Unit → Ord := fun _ => .step n o r
def xu (a b : Unit → Ord) : Unit → Ord := fun _ => .both a b
def xf : Unit → Ord := fun _ => .fin
def xm (d s : Nat) : MOper := ⟨some d, .mv (.tmp s), none, []⟩
def xT (d g : Nat) (m : MOp) : MOper := ⟨some d, m, some (g, true), []⟩
def xF (d g : Nat) (m : MOp) : MOper := ⟨some d, m, some (g, false), []⟩
def c3_1 := xG [xo 4 (.mv (xb false))] [0,1]
def c3_2 := xG [xo 5 (.mv (xi 1048576))] [0,1,5]
def c3_3 := xG [xm 16 0,
 xm 17 5,
 xo 18 (.call 4 [xt 16, xt 17]),
 xm 5 18] [0,1,5]
def c3_4 := xG [xm 19 5,
 xo 20 (.bin .lss (xt 19) (xi 0))] [0,1,20]
def c3_5 := xG [xo 4 (.mv (xb true))] [4]
def c3_6 := xQ c3_5 xR
def c3_7 := xC 20 c3_6 xS
def c3_8 := xQ c3_4 c3_7
def c3_9 := xG [xm 22 0,
 xo 23 (.call 6 [xt 22]),
 xm 24 1,
 xo 25 (.call 5 [xt 23, xt 24]),
 xm 21 25,
 xo 26 (.ext (xt 21) 0),
 xo 27 (.ext (xt 21) 1),
 xo 6 (.alloc [.int .i64 0, .int .i64 0, .slice none 0 0, .slice none 0 0]),
 xn (.sto (xt 6) (xt 26) 4),
 xm 7 27] [0,1,6,7]
def c3_10 := xG [xm 28 0,
 xo 29 (.call 6 [xt 28]),
 xm 8 29] [0,1,6,7,8]
def c3_11 := xG [xm 31 8,
 xm 32 1,
 xo 33 (.call 7 [xt 31, xt 32]),
 xm 30 33,
 xo 34 (.ext (xt 30) 0),
 xo 35 (.ext (xt 30) 1),
 xo 9 (.alloc [.int .i64 0, .int .i64 0, .slice none 0 0, .slice none 0 0]),
 xn (.sto (xt 9) (xt 34) 4),
 xm 10 35] [0,1,6,7,8,9,10]
def c3_12 := xG [xo 36 (.ld (xt 9) 4 true),
 xo 37 (.ld (xt 6) 4 true),
 xo 38 (.call 8 [xt 36, xt 37]),
 xo 39 (.not (xt 38)),
 xm 40 39,
 xF 41 40 (.mv (xt 10)),
 xF 42 40 (.mv (xt 7)),
 xF 43 40 (.bbin .neq (xt 41) (xt 42)),
 xo 44 (.pick (xt 40) (xb true) (xt 43))] [0,1,6,7,8,9,10,44]
def c3_13 := xG [xo 4 (.mv (xb false))] [4]
def c3_14 := xQ c3_13 xR
def c3_15 := xC 44 c3_14 xS
def c3_16 := xQ c3_12 c3_15
def c3_17 := xG [xm 45 8,
 xm 46 0,
 xo 47 (.call 6 [xt 46]),
 xo 48 (.call 9 [xt 45, xt 47]),
 xo 49 (.not (xt 48))] [0,1,6,7,8,9,10,49]
def c3_18 := xG [xo 4 (.mv (xb false))] [4]
def c3_19 := xQ c3_18 xR
def c3_20 := xC 49 c3_19 xS
def c3_21 := xQ c3_17 c3_20
def c3_22 := xG [xo 11 (.mv (xi 1))] [0,1,6,7,8,9,10,11]
def c3_23 := xG [xm 50 8,
 xm 51 11,
 xo 52 (.callm 10 [xt 50, xt 51]),
 xm 11 52] [0,1,6,7,9,10,11]
def c3_24 := xG [xm 53 11,
 xo 54 (.bin .lss (xt 53) (xi 0)),
 xm 55 54,
 xF 56 55 (.ld (xt 9) 4 true),
 xF 57 55 (.ld (xt 6) 4 true),
 xF 58 55 (.call 8 [xt 56, xt 57]),
 xF 59 55 (.not (xt 58)),
 xo 60 (.pick (xt 55) (xb true) (xt 59)),
 xm 61 60,
 xF 62 61 (.mv (xt 10)),
 xF 63 61 (.mv (xt 7)),
 xF 64 61 (.bbin .neq (xt 62) (xt 63)),
 xo 65 (.pick (xt 61) (xb true) (xt 64))] [0,1,6,7,9,65]
def c3_25 := xG [xo 4 (.mv (xb false))] [4]
def c3_26 := xQ c3_25 xR
def c3_27 := xC 65 c3_26 xS
def c3_28 := xQ c3_24 c3_27
def c3_29 := xG [xo 12 (.mv (xi 1))] [0,1,6,7,9,12]
def c3_30 := xG [xo 66 (.ld (xt 9) 4 true),
 xm 67 12,
 xo 68 (.callm 11 [xt 66, xt 67]),
 xm 12 68] [0,1,6,7,9,12]
def c3_31 := xG [xo 13 (.mv (xi 1))] [0,1,6,7,9,12,13]
def c3_32 := xG [xo 69 (.ld (xt 9) 4 true),
 xm 70 13,
 xo 71 (.call 12 [xt 69, xt 70]),
 xm 13 71] [0,1,6,7,9,12,13]
def c3_33 := xG [xm 72 13,
 xo 73 (.bin .lss (xt 72) (xi 0))] [0,1,6,7,9,12,13,73]
def c3_34 := xG [xo 4 (.mv (xb false))] [4]
def c3_35 := xQ c3_34 xR
def c3_36 := xC 73 c3_35 xS
def c3_37 := xQ c3_33 c3_36
def c3_38 := xG [xm 74 13,
 xm 75 12,
 xo 76 (.bin .neq (xt 74) (xt 75))] [0,1,6,7,9,12,76]
def c3_39 := xG [xo 4 (.mv (xb false))] [4]
def c3_40 := xQ c3_39 xR
def c3_41 := xC 76 c3_40 xS
def c3_42 := xQ c3_38 c3_41
def c3_43 := xG [xm 78 0,
 xo 79 (.call 6 [xt 78]),
 xm 80 1,
 xo 81 (.call 7 [xt 79, xt 80]),
 xm 77 81,
 xo 82 (.ext (xt 77) 0),
 xo 83 (.ext (xt 77) 1),
 xo 14 (.alloc [.int .i64 0, .int .i64 0, .slice none 0 0, .slice none 0 0]),
 xn (.sto (xt 14) (xt 82) 4),
 xm 15 83] [6,7,9,12,14,15]
def c3_44 := xG [xo 84 (.ld (xt 14) 4 true),
 xo 85 (.ld (xt 6) 4 true),
 xo 86 (.call 8 [xt 84, xt 85]),
 xo 87 (.not (xt 86)),
 xm 88 87,
 xF 89 88 (.mv (xt 15)),
 xF 90 88 (.mv (xt 7)),
 xF 91 88 (.bbin .neq (xt 89) (xt 90)),
 xo 92 (.pick (xt 88) (xb true) (xt 91))] [9,12,92]
def c3_45 := xG [xo 4 (.mv (xb false))] [4]
def c3_46 := xQ c3_45 xR
def c3_47 := xC 92 c3_46 xS
def c3_48 := xQ c3_44 c3_47
def c3_49 := xG [xo 13 (.mv (xi 1))] [9,12,13]
def c3_50 := xG [xo 93 (.ld (xt 9) 4 true),
 xm 94 13,
 xo 95 (.call 12 [xt 93, xt 94]),
 xm 13 95] [12,13]
def c3_51 := xG [xm 96 13,
 xo 97 (.bin .lss (xt 96) (xi 0))] [12,13,97]
def c3_52 := xG [xo 4 (.mv (xb false))] [4]
def c3_53 := xQ c3_52 xR
def c3_54 := xC 97 c3_53 xS
def c3_55 := xQ c3_51 c3_54
def c3_56 := xG [xm 98 13,
 xm 99 12,
 xo 100 (.bin .neq (xt 98) (xt 99))] [100]
def c3_57 := xG [xo 4 (.mv (xb false))] [4]
def c3_58 := xQ c3_57 xR
def c3_59 := xC 100 c3_58 xS
def c3_60 := xQ c3_56 c3_59
def c3_61 := xG [xo 4 (.mv (xb true))] [4]
def c3_62 := xQ c3_61 xR
def c3_63 := xQ c3_60 c3_62
def c3_64 := xQ c3_55 c3_63
def c3_65 := xQ c3_50 c3_64
def c3_66 := xQ c3_49 c3_65
def c3_67 := xQ c3_48 c3_66
def c3_68 := xQ c3_43 c3_67
def c3_69 := xQ c3_42 c3_68
def c3_70 := xQ c3_37 c3_69
def c3_71 := xQ c3_32 c3_70
def c3_72 := xQ c3_31 c3_71
def c3_73 := xQ c3_30 c3_72
def c3_74 := xQ c3_29 c3_73
def c3_75 := xQ c3_28 c3_74
def c3_76 := xQ c3_23 c3_75
def c3_77 := xQ c3_22 c3_76
def c3_78 := xQ c3_21 c3_77
def c3_79 := xQ c3_16 c3_78
def c3_80 := xQ c3_11 c3_79
def c3_81 := xQ c3_10 c3_80
def c3_82 := xQ c3_9 c3_81
def c3_83 := xQ c3_8 c3_82
def c3_84 := xQ c3_3 c3_83
def c3_85 := xQ c3_2 c3_84
def c3_86 := xQ c3_1 c3_85
abbrev n_laws_FnExactTakeSnapshot : Nat := 3
theorem k_laws_FnExactTakeSnapshot : Known Pr mu n_laws_FnExactTakeSnapshot (c3_86 ()) [.t 4] Go.Proofs.Tryd.f3.ntmps := .of [(0, [0,1], [], [], []), (1, [0,1,5], [], [], []), (2, [0,1,5], [], [], []), (3, [0,1,20], [], [], []), (4, [4], [], [], []), (5, [0,1,6,7], [], [], []), (6, [0,1,6,7,8], [], [], []), (7, [0,1,6,7,8,9,10], [], [], []), (8, [0,1,6,7,8,9,10,44], [], [], []), (9, [4], [], [], []), (10, [0,1,6,7,8,9,10,49], [], [], []), (11, [4], [], [], []), (12, [0,1,6,7,8,9,10,11], [], [], []), (13, [0,1,6,7,9,10,11], [], [], []), (14, [0,1,6,7,9,65], [], [], []), (15, [4], [], [], []), (16, [0,1,6,7,9,12], [], [], []), (17, [0,1,6,7,9,12], [], [], []), (18, [0,1,6,7,9,12,13], [], [], []), (19, [0,1,6,7,9,12,13], [], [], []), (20, [0,1,6,7,9,12,13,73], [], [], []), (21, [4], [], [], []), (22, [0,1,6,7,9,12,76], [], [], []), (23, [4], [], [], []), (24, [6,7,9,12,14,15], [], [], []), (25, [9,12,92], [], [], []), (26, [4], [], [], []), (27, [9,12,13], [], [], []), (28, [12,13], [], [], []), (29, [12,13,97], [], [], []), (30, [4], [], [], []), (31, [100], [], [], []), (32, [4], [], [], []), (33, [4], [], [], [])] hm Go.Proofs.Tryd.func3
def c4_1 := xG [xo 4 (.mv (xi 0))] [0,1]
def c4_2 := xG [xm 5 1,
 xm 6 0,
 xo 7 (.len false (xt 6)),
 xo 8 (.bin .sub (xt 5) (xt 7)),
 xm 1 8] [1]
def c4_3 := xG [xm 9 1,
 xo 10 (.bin .lss (xt 9) (xi 0))] [1,10]
def c4_4 := xG [xo 4 (.mv (xi (-1)))] [4]
def c4_5 := xQ c4_4 xR
def c4_6 := xC 10 c4_5 xS
def c4_7 := xQ c4_3 c4_6
def c4_8 := xG [xm 11 1,
 xm 4 11] [4]
def c4_9 := xQ c4_8 xR
def c4_10 := xQ c4_7 c4_9
def c4_11 := xQ c4_2 c4_10
def c4_12 := xQ c4_1 c4_11
abbrev n_laws_szEntryS : Nat := 4
theorem k_laws_szEntryS : Known Pr mu n_laws_szEntryS (c4_12 ()) [.t 4] Go.Proofs.Tryd.f4.ntmps := .of [(0, [0,1], [], [], []), (1, [1], [], [], []), (2, [1,10], [], [], []), (3, [4], [], [], []), (4, [4], [], [], [])] hm Go.Proofs.Tryd.func4
def c5_1 := xG [xo 4 (.alloc [.int .i64 0, .int .i64 0, .slice none 0 0, .slice none 0 0]),
 xo 5 (.mv (xb false))] [0,1,4]
def c5_2 := xG [xm 8 0,
 xo 9 (.call 13 [xt 8]),
 xo 10 (.not (xt 9)),
 xm 11 10,
 xF 12 11 (.mv (xt 1)),
 xF 13 11 (.mv (xt 0)),
 xF 14 11 (.len false (xt 13)),
 xF 15 11 (.call 14 [xt 12, xi 0, xt 14]),
 xF 16 11 (.not (xt 15)),
 xo 17 (.pick (xt 11) (xb true) (xt 16))] [0,1,4,17]
def c5_3 := xG [xo 18 (.bld [.int .i64 0, .int .i64 0, .slice none 0 0, .slice none 0 0] []),
 xn (.sto (xt 4) (xt 18) 4),
 xo 5 (.mv (xb false))] [4,5]
def c5_4 := xQ c5_3 xR
def c5_5 := xC 17 c5_4 xS
def c5_6 := xQ c5_2 c5_5
def c5_7 := xG [xm 20 0,
 xm 21 1,
 xo 22 (.slc false (xt 20) none (some (xt 21)) none 7),
 xo 23 (.call 15 [xt 22]),
 xm 19 23,
 xo 24 (.ext (xt 19) 0),
 xo 25 (.ext (xt 19) 1),
 xo 6 (.alloc [.slice none 0 0, .slice none 0 0]),
 xn (.sto (xt 6) (xt 24) 2),
 xm 7 25] [0,1,4,6]
def c5_8 := xG [xm 26 1,
 xm 27 0,
 xm 28 1,
 ⟨(some 29), .call 16 [xt 27, xt 28], none, [0]⟩,
 ⟨(some 30), .ld (xt 6) 2 true, none, [0, 1, 2, 3]⟩,
 xo 31 (.bld [.int .i64 0, .int .i64 0, .slice none 0 0, .slice none 0 0] [(0, 1, (xt 26)), (1, 1, (xt 29)), (2, 2, (xt 30))]),
 xn (.sto (xt 4) (xt 31) 4),
 xo 5 (.mv (xb true))] [4,5]
def c5_9 := xQ c5_8 xR
def c5_10 := xQ c5_7 c5_9
def c5_11 := xQ c5_6 c5_10
def c5_12 := xQ c5_1 c5_11
abbrev n_spec_TakeSnapshot : Nat := 5
theorem k_spec_TakeSnapshot : Known Pr mu n_spec_TakeSnapshot (c5_12 ()) [.c 4 4 true, .t 5] Go.Proofs.Tryd.f5.ntmps := .of [(0, [0,1,4], [], [], []), (1, [0,1,4,17], [], [], []), (2, [4,5], [], [], []), (3, [0,1,4,6], [], [], []), (4, [4,5], [[],[],[],[0],[0,1,2,3]], [], [])] hm Go.Proofs.Tryd.func5
def c6_1 := xG [xo 2 (.mv (.const (.slice none 0 0)))] [0]
def c6_2 := xG [xm 5 0,
 xo 6 (.len false (xt 5)),
 xo 7 (.mks 7 56 [.int .i64 0, .int .i64 0, .int .i64 0, .int .i64 0, .int .i64 0, .int .i64 0, .int .i64 0] (xt 6) (xt 6)),
 xm 3 7] [0,3]
def c6_3 := xG [xo 4 (.mv (xi 0))] [0,3,4]
def c6_4 := xG [xm 8 4,
 xm 9 0,
 xo 10 (.len false (xt 9)),
 xo 11 (.bin .lss (xt 8) (xt 10))] [0,3,4,11]
def c6_5 := xC 11 xS (xE 0)
def c6_6 := xQ c6_4 c6_5
def c6_7 := xG [xm 14 3,
 xm 15 4,
 xm 16 0,
 xm 17 4,
 xo 18 (.ia (xt 16) (xt 17) 7),
 xo 19 (.ld (xt 18) 7 true),
 xo 20 (.call 17 [xt 19]),
 xo 21 (.ia (xt 14) (xt 15) 7),
 xn (.sto (xt 21) (xt 20) 7)] [0,3,4]
def c6_8 := xB 1 c6_7
def c6_9 := xG [xm 12 4,
 xo 13 (.bin .add (xt 12) (xi 1)),
 xm 4 13] [0,3,4]
def c6_10 := xQ c6_8 c6_9
def c6_11 := xQ c6_6 c6_10
def c6_12 := xL c6_11
def c6_13 := xB 0 c6_12
def c6_14 := xQ c6_3 c6_13
def c6_15 := xG [xm 22 3,
 xm 2 22] [2]
def c6_16 := xQ c6_15 xR
def c6_17 := xQ c6_14 c6_16
def c6_18 := xQ c6_2 c6_17
def c6_19 := xQ c6_1 c6_18
abbrev n_laws_toEntryS : Nat := 6
theorem k_laws_toEntryS : Known Pr mu n_laws_toEntryS (c6_19 ()) [.t 2] Go.Proofs.Tryd.f6.ntmps := .of [(0, [0], [], [], []), (1, [0,3], [], [], []), (2, [0,3,4], [], [], []), (3, [0,3,4,11], [], [], []), (5, [0,3,4], [], [], []), (4, [0,3,4], [], [], []), (6, [2], [], [], [])] hm Go.Proofs.Tryd.func6
def c7_1 := xG [xo 4 (.alloc [.int .i64 0, .int .i64 0, .slice none 0 0, .slice none 0 0]),
 xo 5 (.mv (xb false))] [0,1,4]
def c7_2 := xG [xm 8 0,
 xo 9 (.call 18 [xt 8]),
 xo 10 (.not (xt 9)),
 xm 11 10,
 xF 12 11 (.mv (xt 1)),
 xF 13 11 (.mv (xt 0)),
 xF 14 11 (.len false (xt 13)),
 xF 15 11 (.call 19 [xt 12, xi 0, xt 14]),
 xF 16 11 (.not (xt 15)),
 xo 17 (.pick (xt 11) (xb true) (xt 16))] [0,1,4,17]
def c7_3 := xG [xo 18 (.bld [.int .i64 0, .int .i64 0, .slice none 0 0, .slice none 0 0] []),
 xn (.sto (xt 4) (xt 18) 4),
 xo 5 (.mv (xb false))] [4,5]
def c7_4 := xQ c7_3 xR
def c7_5 := xC 17 c7_4 xS
def c7_6 := xQ c7_2 c7_5
def c7_7 := xG [xm 20 0,
 xm 21 1,
 xo 22 (.slc false (xt 20) none (some (xt 21)) none 7),
 xo 23 (.call 20 [xt 22]),
 xm 19 23,
 xo 24 (.ext (xt 19) 0),
 xo 25 (.ext (xt 19) 1),
 xo 6 (.alloc [.slice none 0 0, .slice none 0 0]),
 xn (.sto (xt 6) (xt 24) 2),
 xm 7 25] [0,1,4,6]
def c7_8 := xG [xm 26 1,
 xm 27 0,
 xm 28 1,
 ⟨(some 29), .call 21 [xt 27, xt 28], none, [0]⟩,
 ⟨(some 30), .ld (xt 6) 2 true, none, [0, 1, 2, 3]⟩,
 xo 31 (.bld [.int .i64 0, .int .i64 0, .slice none 0 0, .slice none 0 0] [(0, 1, (xt 26)), (1, 1, (xt 29)), (2, 2, (xt 30))]),
 xn (.sto (xt 4) (xt 31) 4),
 xo 5 (.mv (xb true))] [4,5]
def c7_9 := xQ c7_8 xR
def c7_10 := xQ c7_7 c7_9
def c7_11 := xQ c7_6 c7_10
def c7_12 := xQ c7_1 c7_11
abbrev n_impl_TakeSnapshot : Nat := 7
theorem k_impl_TakeSnapshot : Known Pr mu n_impl_TakeSnapshot (c7_12 ()) [.c 4 4 true, .t 5] Go.Proofs.Tryd.f7.ntmps := .of [(0, [0,1,4], [], [], []), (1, [0,1,4,17], [], [], []), (2, [4,5], [], [], []), (3, [0,1,4,6], [], [], []), (4, [4,5], [[],[],[],[0],[0,1,2,3]], [], [])] hm Go.Proofs.Tryd.func7
def c8_1 := xG [xo 2 (.box (xt 0)),
 xo 3 (.box (xt 1)),
 xo 4 (.mv (xb false))] [2,3]
def c8_2 := xG [xo 5 (.fa (xt 2) 0),
 xo 6 (.ld (xt 5) 1 false),
 xo 7 (.fa (xt 3) 0),
 xo 8 (.ld (xt 7) 1 false),
 xo 9 (.bin .neq (xt 6) (xt 8))] [2,3,9]
def c8_3 := xG [xo 4 (.mv (xb false))] [4]
def c8_4 := xQ c8_3 xR
def c8_5 := xC 9 c8_4 xS
def c8_6 := xQ c8_2 c8_5
def c8_7 := xG [xo 10 (.fa (xt 2) 1),
 xo 11 (.ld (xt 10) 1 false),
 xo 12 (.fa (xt 3) 1),
 xo 13 (.ld (xt 12) 1 false),
 xo 14 (.bin .neq (xt 11) (xt 13))] [2,3,14]
def c8_8 := xG [xo 4 (.mv (xb false))] [4]
def c8_9 := xQ c8_8 xR
def c8_10 := xC 14 c8_9 xS
def c8_11 := xQ c8_7 c8_10
def c8_12 := xG [xo 15 (.fa (xt 2) 2),
 xo 16 (.ld (xt 15) 2 true),
 xo 17 (.fa (xt 3) 2),
 xo 18 (.ld (xt 17) 2 true),
 xo 19 (.call 22 [xt 16, xt 18]),
 xo 20 (.not (xt 19))] [20]
def c8_13 := xG [xo 4 (.mv (xb false))] [4]
def c8_14 := xQ c8_13 xR
def c8_15 := xC 20 c8_14 xS
def c8_16 := xQ c8_12 c8_15
def c8_17 := xG [xo 4 (.mv (xb true))] [4]
def c8_18 := xQ c8_17 xR
def c8_19 := xQ c8_16 c8_18
def c8_20 := xQ c8_11 c8_19
def c8_21 := xQ c8_6 c8_20
def c8_22 := xQ c8_1 c8_21
abbrev n_laws_eqSnapshot : Nat := 8
theorem k_laws_eqSnapshot : Known Pr mu n_laws_eqSnapshot (c8_22 ()) [.t 4] Go.Proofs.Tryd.f8.ntmps := .of [(0, [2,3], [], [], []), (1, [2,3,9], [], [], []), (2, [4], [], [], []), (3, [2,3,14], [], [], []), (4, [4], [], [], []), (5, [20], [], [], []), (6, [4], [], [], []), (7, [4], [], [], [])] hm Go.Proofs.Tryd.func8
def c9_1 := xG [xo 4 (.mv (xb false))] [0,1]
def c9_2 := xG [xm 6 0,
 xo 7 (.len false (xt 6)),
 xm 8 1,
 xo 9 (.len false (xt 8)),
 xo 10 (.bin .neq (xt 7) (xt 9))] [0,1,10]
def c9_3 := xG [xo 4 (.mv (xb false))] [4]
def c9_4 := xQ c9_3 xR
def c9_5 := xC 10 c9_4 xS
def c9_6 := xQ c9_2 c9_5
def c9_7 := xG [xo 5 (.mv (xi 0))] [0,1,5]
def c9_8 := xG [xm 11 5,
 xm 12 0,
 xo 13 (.len false (xt 12)),
 xo 14 (.bin .lss (xt 11) (xt 13))] [0,1,5,14]
def c9_9 := xC 14 xS (xE 0)
def c9_10 := xQ c9_8 c9_9
def c9_11 := xG [xm 17 0,
 xm 18 5,
 xo 19 (.ia (xt 17) (xt 18) 7),
 xo 20 (.ld (xt 19) 7 true),
 xm 21 1,
 xm 22 5,
 ⟨(some 23), .ia (xt 21) (xt 22) 7, none, [0, 1, 2, 3]⟩,
 ⟨(some 24), .ld (xt 23) 7 true, none, [0, 1, 2, 3]⟩,
 xo 25 (.call 23 [xt 20, xt 24]),
 xo 26 (.not (xt 25))] [0,1,5,26]
def c9_12 := xG [xo 4 (.mv (xb false))] [4]
def c9_13 := xQ c9_12 xR
def c9_14 := xC 26 c9_13 xS
def c9_15 := xQ c9_11 c9_14
def c9_16 := xB 1 c9_15
def c9_17 := xG [xm 15 5,
 xo 16 (.bin .add (xt 15) (xi 1)),
 xm 5 16] [0,1,5]
def c9_18 := xQ c9_16 c9_17
def c9_19 := xQ c9_10 c9_18
def c9_20 := xL c9_19
def c9_21 := xB 0 c9_20
def c9_22 := xQ c9_7 c9_21
def c9_23 := xG [xo 4 (.mv (xb true))] [4]
def c9_24 := xQ c9_23 xR
def c9_25 := xQ c9_22 c9_24
def c9_26 := xQ c9_6 c9_25
def c9_27 := xQ c9_1 c9_26
abbrev n_laws_eqEntryS : Nat := 9
theorem k_laws_eqEntryS : Known Pr mu n_laws_eqEntryS (c9_27 ()) [.t 4] Go.Proofs.Tryd.f9.ntmps := .of [(0, [0,1], [], [], []), (1, [0,1,10], [], [], []), (2, [4], [], [], []), (3, [0,1,5], [], [], []), (4, [0,1,5,14], [], [], []), (6, [0,1,5,26], [[],[],[],[],[],[],[0,1,2,3],[0,1,2,3]], [], []), (7, [4], [], [], []), (5, [0,1,5], [], [], []), (8, [4], [], [], [])] hm Go.Proofs.Tryd.func9
def c10_1 := xG [xo 4 (.mv (xi 0))] [0,1]
def c10_2 := xG [xo 5 (.mv (xi 0))] [0,1,5]
def c10_3 := xG [xm 6 5,
 xm 7 0,
 xo 8 (.len false (xt 7)),
 xo 9 (.bin .lss (xt 6) (xt 8))] [0,1,5,9]
def c10_4 := xC 9 xS (xE 0)
def c10_5 := xQ c10_3 c10_4
def c10_6 := xG [xm 12 0,
 xm 13 5,
 xm 14 1,
 xo 15 (.ia (xt 12) (xt 13) 7),
 xo 16 (.fa (xt 15) 0),
 xn (.sto (xt 16) (xt 14) 1)] [0,1,5]
def c10_7 := xG [xm 17 1,
 xo 18 (.bin .add (xt 17) (xi 1)),
 xm 1 18] [0,1,5]
def c10_8 := xG [xm 19 0,
 xm 20 5,
 xm 21 1,
 xo 22 (.ia (xt 19) (xt 20) 7),
 xo 23 (.fa (xt 22) 1),
 xo 24 (.fa (xt 23) 0),
 xn (.sto (xt 24) (xt 21) 1)] [0,1,5]
def c10_9 := xG [xm 25 1,
 xo 26 (.bin .add (xt 25) (xi 1)),
 xm 1 26] [0,1,5]
def c10_10 := xG [xm 27 0,
 xm 28 5,
 xm 29 1,
 xo 30 (.ia (xt 27) (xt 28) 7),
 xo 31 (.fa (xt 30) 1),
 xo 32 (.fa (xt 31) 1),
 xn (.sto (xt 32) (xt 29) 1)] [0,1,5]
def c10_11 := xG [xm 33 1,
 xo 34 (.bin .add (xt 33) (xi 1)),
 xm 1 34] [0,1,5]
def c10_12 := xG [xm 35 0,
 xm 36 5,
 xm 37 1,
 xo 38 (.ia (xt 35) (xt 36) 7),
 xo 39 (.fa (xt 38) 1),
 xo 40 (.fa (xt 39) 2),
 xn (.sto (xt 40) (xt 37) 1)] [0,1,5]
def c10_13 := xG [xm 41 1,
 xo 42 (.bin .add (xt 41) (xi 1)),
 xm 1 42] [0,1,5]
def c10_14 := xG [xm 43 0,
 xm 44 5,
 xm 45 1,
 xo 46 (.ia (xt 43) (xt 44) 7),
 xo 47 (.fa (xt 46) 1),
 xo 48 (.fa (xt 47) 3),
 xn (.sto (xt 48) (xt 45) 1)] [0,1,5]
def c10_15 := xG [xm 49 1,
 xo 50 (.bin .add (xt 49) (xi 1)),
 xm 1 50] [0,1,5]
def c10_16 := xG [xm 51 0,
 xm 52 5,
 xm 53 1,
 xo 54 (.ia (xt 51) (xt 52) 7),
 xo 55 (.fa (xt 54) 1),
 xo 56 (.fa (xt 55) 4),
 xn (.sto (xt 56) (xt 53) 1)] [0,1,5]
def c10_17 := xG [xm 57 1,
 xo 58 (.bin .add (xt 57) (xi 1)),
 xm 1 58] [0,1,5]
def c10_18 := xG [xm 59 0,
 xm 60 5,
 xm 61 1,
 xo 62 (.ia (xt 59) (xt 60) 7),
 xo 63 (.fa (xt 62) 1),
 xo 64 (.fa (xt 63) 5),
 xn (.sto (xt 64) (xt 61) 1)] [0,1,5]
def c10_19 := xG [xm 65 1,
 xo 66 (.bin .add (xt 65) (xi 1)),
 xm 1 66] [0,1,5]
def c10_20 := xQ c10_18 c10_19
def c10_21 := xQ c10_17 c10_20
def c10_22 := xQ c10_16 c10_21
def c10_23 := xQ c10_15 c10_22
def c10_24 := xQ c10_14 c10_23
def c10_25 := xQ c10_13 c10_24
def c10_26 := xQ c10_12 c10_25
def c10_27 := xQ c10_11 c10_26
def c10_28 := xQ c10_10 c10_27
def c10_29 := xQ c10_9 c10_28
def c10_30 := xQ c10_8 c10_29
def c10_31 := xQ c10_7 c10_30
def c10_32 := xQ c10_6 c10_31
def c10_33 := xB 1 c10_32
def c10_34 := xG [xm 10 5,
 xo 11 (.bin .add (xt 10) (xi 1)),
 xm 5 11] [0,1,5]
def c10_35 := xQ c10_33 c10_34
def c10_36 := xQ c10_5 c10_35
def c10_37 := xL c10_36
def c10_38 := xB 0 c10_37
def c10_39 := xQ c10_2 c10_38
def c10_40 := xG [xm 67 1,
 xm 4 67] [4]
def c10_41 := xQ c10_40 xR
def c10_42 := xQ c10_39 c10_41
def c10_43 := xQ c10_1 c10_42
abbrev n_laws_markEntryS : Nat := 10
theorem k_laws_markEntryS : Known Pr mu n_laws_markEntryS (c10_43 ()) [.t 4] Go.Proofs.Tryd.f10.ntmps := .of [(0, [0,1], [], [], []), (1, [0,1,5], [], [], []), (2, [0,1,5,9], [], [], []), (4, [0,1,5], [], [], []), (5, [0,1,5], [], [], []), (6, [0,1,5], [], [], []), (7, [0,1,5], [], [], []), (8, [0,1,5], [], [], []), (9, [0,1,5], [], [], []), (10, [0,1,5], [], [], []), (11, [0,1,5], [], [], []), (12, [0,1,5], [], [], []), (13, [0,1,5], [], [], []), (14, [0,1,5], [], [], []), (15, [0,1,5], [], [], []), (16, [0,1,5], [], [], []), (17, [0,1,5], [], [], []), (3, [0,1,5], [], [], []), (18, [4], [], [], [])] hm Go.Proofs.Tryd.func10
def c11_1 := xG [xo 2 (.box (xt 0)),
 xo 4 (.mv (xi 0))] [1,2]
def c11_2 := xG [xo 5 (.fa (xt 2) 2),
 xo 6 (.ld (xt 5) 2 true),
 xm 7 1,
 xo 8 (.callm 24 [xt 6, xt 7]),
 xm 1 8] [1]
def c11_3 := xG [xm 9 1,
 xm 4 9] [4]
def c11_4 := xQ c11_3 xR
def c11_5 := xQ c11_2 c11_4
def c11_6 := xQ c11_1 c11_5
abbrev n_laws_markSnapshot : Nat := 11
theorem k_laws_markSnapshot : Known Pr mu n_laws_markSnapshot (c11_6 ()) [.t 4] Go.Proofs.Tryd.f11.ntmps := .of [(0, [1,2], [], [], []), (1, [1], [], [], []), (2, [4], [], [], [])] hm Go.Proofs.Tryd.func11
def c12_1 := xG [xo 2 (.box (xt 0)),
 xo 4 (.mv (xi 0))] [1,2]
def c12_2 := xG [xo 5 (.fa (xt 2) 2),
 xo 6 (.ld (xt 5) 2 true),
 xm 7 1,
 xo 8 (.call 25 [xt 6, xt 7]),
 xm 1 8] [1]
def c12_3 := xG [xm 9 1,
 xo 10 (.bin .lss (xt 9) (xi 0))] [1,10]
def c12_4 := xG [xo 4 (.mv (xi (-1)))] [4]
def c12_5 := xQ c12_4 xR
def c12_6 := xC 10 c12_5 xS
def c12_7 := xQ c12_3 c12_6
def c12_8 := xG [xm 11 1,
 xm 4 11] [4]
def c12_9 := xQ c12_8 xR
def c12_10 := xQ c12_7 c12_9
def c12_11 := xQ c12_2 c12_10
def c12_12 := xQ c12_1 c12_11
abbrev n_laws_heldSnapshot : Nat := 12
theorem k_laws_heldSnapshot : Known Pr mu n_laws_heldSnapshot (c12_12 ()) [.t 4] Go.Proofs.Tryd.f12.ntmps := .of [(0, [1,2], [], [], []), (1, [1], [], [], []), (2, [1,10], [], [], []), (3, [4], [], [], []), (4, [4], [], [], [])] hm Go.Proofs.Tryd.func12
def c13_1 := xG [xo 2 (.mv (xb false))] [0]
def c13_2 := xG [xo 3 (.mv (xi 0))] [0,3]
def c13_3 := xG [xm 4 3,
 xm 5 0,
 xo 6 (.len false (xt 5)),
 xo 7 (.bin .lss (xt 4) (xt 6))] [0,3,7]
def c13_4 := xC 7 xS (xE 0)
def c13_5 := xQ c13_3 c13_4
def c13_6 := xG [xm 10 0,
 xm 11 3,
 xo 12 (.ia (xt 10) (xt 11) 7),
 xo 13 (.fa (xt 12) 0),
 xo 14 (.ld (xt 13) 1 false),
 xo 15 (.call 14 [xt 14, xi 1, xi 20]),
 xo 16 (.not (xt 15)),
 xm 17 16,
 xF 18 17 (.mv (xt 0)),
 xF 19 17 (.mv (xt 3)),
 xF 20 17 (.ia (xt 18) (xt 19) 7),
 xF 21 17 (.fa (xt 20) 1),
 xF 22 17 (.ld (xt 21) 6 true),
 xF 23 17 (.call 26 [xt 22]),
 xF 24 17 (.not (xt 23)),
 xo 25 (.pick (xt 17) (xb true) (xt 24)),
 xm 26 25,
 xF 27 26 (.mv (xt 3)),
 xF 28 26 (.bin .gtr (xt 27) (xi 0)),
 xF 29 26 (.mv (xt 28)),
 xT 30 29 (.mv (xt 0)),
 xT 31 29 (.mv (xt 3)),
 xT 32 29 (.bin .sub (xt 31) (xi 1)),
 xT 33 29 (.ia (xt 30) (xt 32) 7),
 xT 34 29 (.fa (xt 33) 0),
 xT 35 29 (.ld (xt 34) 1 false),
 xT 36 29 (.mv (xt 0)),
 xT 37 29 (.mv (xt 3)),
 ⟨(some 38), .ia (xt 36) (xt 37) 7, (some (29, true)), [20, 21, 22, 23, 24, 25]⟩,
 ⟨(some 39), .fa (xt 38) 0, (some (29, true)), [20, 21, 22, 23, 24, 25]⟩,
 ⟨(some 40), .ld (xt 39) 1 false, (some (29, true)), [20, 21, 22, 23, 24, 25]⟩,
 xT 41 29 (.bin .gtr (xt 35) (xt 40)),
 xF 42 26 (.pick (xt 29) (xt 41) (xb false)),
 xo 43 (.pick (xt 26) (xb true) (xt 42))] [0,3,43]
def c13_7 := xG [xo 2 (.mv (xb false))] [2]
def c13_8 := xQ c13_7 xR
def c13_9 := xC 43 c13_8 xS
def c13_10 := xQ c13_6 c13_9
def c13_11 := xB 1 c13_10
def c13_12 := xG [xm 8 3,
 xo 9 (.bin .add (xt 8) (xi 1)),
 xm 3 9] [0,3]
def c13_13 := xQ c13_11 c13_12
def c13_14 := xQ c13_5 c13_13
def c13_15 := xL c13_14
def c13_16 := xB 0 c13_15
def c13_17 := xQ c13_2 c13_16
def c13_18 := xG [xm 44 0,
 xo 45 (.len false (xt 44)),
 xo 46 (.bin .leq (xt 45) (xi 16)),
 xm 2 46] [2]
def c13_19 := xQ c13_18 xR
def c13_20 := xQ c13_17 c13_19
def c13_21 := xQ c13_1 c13_20
abbrev n_spec_IsLog : Nat := 13
theorem k_spec_IsLog : Known Pr mu n_spec_IsLog (c13_21 ()) [.t 2] Go.Proofs.Tryd.f13.ntmps := .of [(0, [0], [], [], []), (1, [0,3], [], [], []), (2, [0,3,7], [], [], []), (4, [0,3,43], [[],[],[],[],[],[],[],[],[],[],[],[],[],[],[],[],[],[],[],[],[],[],[],[],[],[],[],[],[20,21,22,23,24,25],[20,21,22,23,24,25],[20,21,22,23,24,25]], [], []), (5, [2], [], [], []), (3, [0,3], [], [], []), (6, [2], [], [], [])] hm Go.Proofs.Tryd.func13
def c14_1 := xG [xo 6 (.mv (xb false))] [0,1,2]
def c14_2 := xG [xm 7 0,
 xm 8 1,
 xo 9 (.bin .geq (xt 7) (xt 8)),
 xm 10 9,
 xT 11 10 (.mv (xt 0)),
 xT 12 10 (.mv (xt 2)),
 xT 13 10 (.bin .leq (xt 11) (xt 12)),
 xo 14 (.pick (xt 10) (xt 13) (xb false)),
 xm 6 14] [6]
def c14_3 := xQ c14_2 xR
def c14_4 := xQ c14_1 c14_3
abbrev n_spec_l1In : Nat := 14
theorem k_spec_l1In : Known Pr mu n_spec_l1In (c14_4 ()) [.t 6] Go.Proofs.Tryd.f14.ntmps := .of [(0, [0,1,2], [], [], []), (1, [6], [], [], [])] hm Go.Proofs.Tryd.func14
def c15_1 := xG [xo 2 (.alloc [.slice none 0 0, .slice none 0 0]),
 xo 3 (.mv (xb false))] [0,2]
def c15_2 := xG [xo 6 (.call 27 []),
 xo 4 (.alloc [.slice none 0 0, .slice none 0 0]),
 xn (.sto (xt 4) (xt 6) 2)] [0,2,4]
def c15_3 := xG [xm 7 0,
 xo 8 (.call 13 [xt 7]),
 xo 9 (.not (xt 8))] [0,2,4,9]
def c15_4 := xG [xo 10 (.bld [.slice none 0 0, .slice none 0 0] []),
 xn (.sto (xt 2) (xt 10) 2),
 xo 3 (.mv (xb false))] [2,3]
def c15_5 := xQ c15_4 xR
def c15_6 := xC 9 c15_5 xS
def c15_7 := xQ c15_3 c15_6
def c15_8 := xG [xo 5 (.mv (xi 0))] [0,2,4,5]
def c15_9 := xG [xm 11 5,
 xm 12 0,
 xo 13 (.len false (xt 12)),
 xo 14 (.bin .lss (xt 11) (xt 13))] [0,2,4,5,14]
def c15_10 := xC 14 xS (xE 0)
def c15_11 := xQ c15_9 c15_10
def c15_12 := xG [xo 18 (.ld (xt 4) 2 true),
 xm 19 0,
 xm 20 5,
 ⟨(some 21), .ia (xt 19) (xt 20) 7, none, [0]⟩,
 ⟨(some 22), .fa (xt 21) 1, none, [0]⟩,
 ⟨(some 23), .ld (xt 22) 6 true, none, [0]⟩,
 xo 24 (.call 28 [xt 18, xt 23]),
 xm 17 24,
 xo 25 (.ext (xt 17) 0),
 xo 26 (.ext (xt 17) 1),
 xo 27 (.ext (xt 17) 2),
 xn (.sto (xt 4) (xt 25) 2)] [0,2,4,5]
def c15_13 := xB 1 c15_12
def c15_14 := xG [xm 15 5,
 xo 16 (.bin .add (xt 15) (xi 1)),
 xm 5 16] [0,2,4,5]
def c15_15 := xQ c15_13 c15_14
def c15_16 := xQ c15_11 c15_15
def c15_17 := xL c15_16
def c15_18 := xB 0 c15_17
def c15_19 := xQ c15_8 c15_18
def c15_20 := xG [xo 28 (.ld (xt 4) 2 true),
 xn (.sto (xt 2) (xt 28) 2),
 xo 3 (.mv (xb true))] [2,3]
def c15_21 := xQ c15_20 xR
def c15_22 := xQ c15_19 c15_21
def c15_23 := xQ c15_7 c15_22
def c15_24 := xQ c15_2 c15_23
def c15_25 := xQ c15_1 c15_24
abbrev n_spec_ReplayLog : Nat := 15
theorem k_spec_ReplayLog : Known Pr mu n_spec_ReplayLog (c15_25 ()) [.c 2 2 true, .t 3] Go.Proofs.Tryd.f15.ntmps := .of [(0, [0,2], [], [], []), (1, [0,2,4], [], [], []), (2, [0,2,4,9], [], [], []), (3, [2,3], [], [], []), (4, [0,2,4,5], [], [], []), (5, [0,2,4,5,14], [], [], []), (7, [0,2,4,5], [[],[],[],[0],[0],[0]], [], [9,10]), (6, [0,2,4,5], [], [], []), (8, [2,3], [], [], [])] hm Go.Proofs.Tryd.func15
def c16_1 := xG [xo 4 (.mv (xi 0))] [0,1]
def c16_2 := xG [xm 6 0,
 xo 7 (.call 29 [xt 6]),
 xm 5 7] [1,5]
def c16_3 := xG [xm 8 1,
 xm 9 5,
 xo 10 (.len false (xt 9)),
 xo 11 (.bin .sub (xt 10) (xi 1)),
 xo 12 (.call 14 [xt 8, xi 0, xt 11]),
 xo 13 (.not (xt 12))] [1,5,13]
def c16_4 := xG [xo 4 (.mv (xi (-1)))] [4]
def c16_5 := xQ c16_4 xR
def c16_6 := xC 13 c16_5 xS
def c16_7 := xQ c16_3 c16_6
def c16_8 := xG [xm 14 5,
 xm 15 1,
 xo 16 (.ia (xt 14) (xt 15) 1),
 xo 17 (.ld (xt 16) 1 false),
 xm 4 17] [4]
def c16_9 := xQ c16_8 xR
def c16_10 := xQ c16_7 c16_9
def c16_11 := xQ c16_2 c16_10
def c16_12 := xQ c16_1 c16_11
abbrev n_spec_DigestOf : Nat := 16
theorem k_spec_DigestOf : Known Pr mu n_spec_DigestOf (c16_12 ()) [.t 4] Go.Proofs.Tryd.f16.ntmps := .of [(0, [0,1], [], [], []), (1, [1,5], [], [], []), (2, [1,5,13], [], [], []), (3, [4], [], [], []), (4, [4], [], [], [])] hm Go.Proofs.Tryd.func16
def c17_1 := xG [xo 1 (.box (xt 0)),
 xo 2 (.alloc [.int .i64 0, .int .i64 0, .int .i64 0, .int .i64 0, .int .i64 0, .int .i64 0, .int .i64 0])] [1,2]
def c17_2 := xG [xo 3 (.alloc [.int .i64 0, .int .i64 0, .int .i64 0, .int .i64 0, .int .i64 0, .int .i64 0, .int .i64 0])] [1,2,3]
def c17_3 := xG [xo 4 (.fa (xt 1) 0),
 xo 5 (.ld (xt 4) 1 false),
 xo 6 (.fa (xt 3) 0),
 xn (.sto (xt 6) (xt 5) 1)] [1,2,3]
def c17_4 := xG [xo 7 (.fa (xt 1) 1),
 xo 8 (.ld (xt 7) 6 true),
 xo 9 (.call 30 [xt 8]),
 xo 10 (.fa (xt 3) 1),
 xn (.sto (xt 10) (xt 9) 6)] [2,3]
def c17_5 := xG [xo 11 (.ld (xt 3) 7 true),
 xn (.sto (xt 2) (xt 11) 7)] [2]
def c17_6 := xQ c17_5 xR
def c17_7 := xQ c17_4 c17_6
def c17_8 := xQ c17_3 c17_7
def c17_9 := xQ c17_2 c17_8
def c17_10 := xQ c17_1 c17_9
abbrev n_laws_toEntry : Nat := 17
theorem k_laws_toEntry : Known Pr mu n_laws_toEntry (c17_10 ()) [.c 2 7 true] Go.Proofs.Tryd.f17.ntmps := .of [(0, [1,2], [], [], []), (1, [1,2,3], [], [], []), (2, [1,2,3], [], [], []), (3, [2,3], [], [], []), (4, [2], [], [], [])] hm Go.Proofs.Tryd.func17
def c18_1 := xG [xo 2 (.mv (xb false))] [0]
def c18_2 := xG [xm 5 0,
 xo 6 (.len false (xt 5)),
 xo 7 (.mv (xi 0))] [0,5,6,7]
def c18_3 := xG [xo 8 (.bin .lss (xt 7) (xt 6))] [0,5,6,7,8]
def c18_4 := xC 8 xS (xE 0)
def c18_5 := xG [xm 9 7,
 xo 10 (.ia (xt 5) (xt 7) 7),
 xo 11 (.ld (xt 10) 7 true),
 xo 4 (.alloc [.int .i64 0, .int .i64 0, .int .i64 0, .int .i64 0, .int .i64 0, .int .i64 0, .int .i64 0]),
 xm 3 9,
 xn (.sto (xt 4) (xt 11) 7)] [0,3,4,5,6,7]
def c18_6 := xG [xo 12 (.fa (xt 4) 0),
 xo 13 (.ld (xt 12) 1 false),
 xo 14 (.call 19 [xt 13, xi 1, xi 20]),
 xo 15 (.not (xt 14)),
 xm 16 15,
 xF 17 16 (.mv (xt 3)),
 xF 18 16 (.bin .gtr (xt 17) (xi 0)),
 xF 19 16 (.mv (xt 18)),
 xT 20 19 (.fa (xt 4) 0),
 xT 21 19 (.ld (xt 20) 1 false),
 xT 22 19 (.mv (xt 0)),
 xT 23 19 (.mv (xt 3)),
 xT 24 19 (.bin .sub (xt 23) (xi 1)),
 ⟨(some 25), .ia (xt 22) (xt 24) 7, (some (19, true)), [8, 9]⟩,
 ⟨(some 26), .fa (xt 25) 0, (some (19, true)), [8, 9]⟩,
 ⟨(some 27), .ld (xt 26) 1 false, (some (19, true)), [8, 9]⟩,
 xT 28 19 (.bin .lss (xt 21) (xt 27)),
 xF 29 16 (.pick (xt 19) (xt 28) (xb false)),
 xo 30 (.pick (xt 16) (xb true) (xt 29)),
 xm 31 30,
 xF 32 31 (.fa (xt 4) 1),
 xF 33 31 (.ld (xt 32) 6 true),
 xF 34 31 (.call 31 [xt 33]),
 xF 35 31 (.not (xt 34)),
 xo 36 (.pick (xt 31) (xb true) (xt 35))] [0,5,6,7,36]
def c18_7 := xG [xo 2 (.mv (xb false))] [2]
def c18_8 := xQ c18_7 xR
def c18_9 := xC 36 c18_8 xS
def c18_10 := xQ c18_6 c18_9
def c18_11 := xQ c18_5 c18_10
def c18_12 := xB 1 c18_11
def c18_13 := xG [xo 37 (.bin .add (xt 7) (xi 1)),
 xm 7 37] [0,5,6,7]
def c18_14 := xQ c18_12 c18_13
def c18_15 := xQ c18_4 c18_14
def c18_16 := xQ c18_3 c18_15
def c18_17 := xL c18_16
def c18_18 := xB 0 c18_17
def c18_19 := xQ c18_2 c18_18
def c18_20 := xG [xm 38 0,
 xo 39 (.len false (xt 38)),
 xo 40 (.bin .leq (xt 39) (xi 16)),
 xm 2 40] [2]
def c18_21 := xQ c18_20 xR
def c18_22 := xQ c18_19 c18_21
def c18_23 := xQ c18_1 c18_22
abbrev n_impl_IsLog : Nat := 18
theorem k_impl_IsLog : Known Pr mu n_impl_IsLog (c18_23 ()) [.t 2] Go.Proofs.Tryd.f18.ntmps := .of [(0, [0], [], [], []), (1, [0,5,6,7], [], [], []), (2, [0,5,6,7,8], [], [], []), (3, [0,3,4,5,6,7], [], [], []), (4, [0,5,6,7,36], [[],[],[],[],[],[],[],[],[],[],[],[],[],[8,9],[8,9],[8,9]], [], []), (5, [2], [], [], []), (6, [0,5,6,7], [], [], []), (7, [2], [], [], [])] hm Go.Proofs.Tryd.func18
def c19_1 := xG [xo 6 (.mv (xb false))] [0,1,2]
def c19_2 := xG [xm 7 1,
 xm 8 0,
 xo 9 (.bin .leq (xt 7) (xt 8)),
 xm 10 9,
 xT 11 10 (.mv (xt 0)),
 xT 12 10 (.mv (xt 2)),
 xT 13 10 (.bin .leq (xt 11) (xt 12)),
 xo 14 (.pick (xt 10) (xt 13) (xb false)),
 xm 6 14] [6]
def c19_3 := xQ c19_2 xR
def c19_4 := xQ c19_1 c19_3
abbrev n_impl_within : Nat := 19
theorem k_impl_within : Known Pr mu n_impl_within (c19_4 ()) [.t 6] Go.Proofs.Tryd.f19.ntmps := .of [(0, [0,1,2], [], [], []), (1, [6], [], [], [])] hm Go.Proofs.Tryd.func19
def c20_1 := xG [xo 2 (.alloc [.slice none 0 0, .slice none 0 0]),
 xo 3 (.mv (xb false))] [0,2]
def c20_2 := xG [xm 7 0,
 xo 8 (.call 18 [xt 7]),
 xo 9 (.not (xt 8))] [0,2,9]
def c20_3 := xG [xo 10 (.bld [.slice none 0 0, .slice none 0 0] []),
 xn (.sto (xt 2) (xt 10) 2),
 xo 3 (.mv (xb false))] [2,3]
def c20_4 := xQ c20_3 xR
def c20_5 := xC 9 c20_4 xS
def c20_6 := xQ c20_2 c20_5
def c20_7 := xG [xo 11 (.call 32 []),
 xo 4 (.alloc [.slice none 0 0, .slice none 0 0]),
 xn (.sto (xt 4) (xt 11) 2)] [0,2,4]
def c20_8 := xG [xm 12 0,
 xo 13 (.len false (xt 12)),
 xo 14 (.mv (xi 0))] [2,4,12,13,14]
def c20_9 := xG [xo 15 (.bin .lss (xt 14) (xt 13))] [2,4,12,13,14,15]
def c20_10 := xC 15 xS (xE 0)
def c20_11 := xG [xo 16 (.ia (xt 12) (xt 14) 7),
 xo 17 (.ld (xt 16) 7 true),
 xo 6 (.alloc [.int .i64 0, .int .i64 0, .int .i64 0, .int .i64 0, .int .i64 0, .int .i64 0, .int .i64 0]),
 xn (.sto (xt 6) (xt 17) 7)] [2,4,6,12,13,14]
def c20_12 := xG [xo 19 (.ld (xt 4) 2 true),
 xo 20 (.fa (xt 6) 1),
 xo 21 (.ld (xt 20) 6 true),
 xo 22 (.call 33 [xt 19, xt 21]),
 xm 18 22,
 xo 23 (.ext (xt 18) 0),
 xo 24 (.ext (xt 18) 1),
 xo 25 (.ext (xt 18) 2),
 xn (.sto (xt 4) (xt 23) 2)] [2,4,12,13,14]
def c20_13 := xQ c20_11 c20_12
def c20_14 := xB 1 c20_13
def c20_15 := xG [xo 26 (.bin .add (xt 14) (xi 1)),
 xm 14 26] [2,4,12,13,14]
def c20_16 := xQ c20_14 c20_15
def c20_17 := xQ c20_10 c20_16
def c20_18 := xQ c20_9 c20_17
def c20_19 := xL c20_18
def c20_20 := xB 0 c20_19
def c20_21 := xQ c20_8 c20_20
def c20_22 := xG [xo 27 (.ld (xt 4) 2 true),
 xn (.sto (xt 2) (xt 27) 2),
 xo 3 (.mv (xb true))] [2,3]
def c20_23 := xQ c20_22 xR
def c20_24 := xQ c20_21 c20_23
def c20_25 := xQ c20_7 c20_24
def c20_26 := xQ c20_6 c20_25
def c20_27 := xQ c20_1 c20_26
abbrev n_impl_ReplayLog : Nat := 20
theorem k_impl_ReplayLog : Known Pr mu n_impl_ReplayLog (c20_27 ()) [.c 2 2 true, .t 3] Go.Proofs.Tryd.f20.ntmps := .of [(0, [0,2], [], [], []), (1, [0,2,9], [], [], []), (2, [2,3], [], [], []), (3, [0,2,4], [], [], []), (4, [2,4,12,13,14], [], [], []), (5, [2,4,12,13,14,15], [], [], []), (6, [2,4,6,12,13,14], [], [], []), (7, [2,4,12,13,14], [], [], []), (8, [2,4,12,13,14], [], [], []), (9, [2,3], [], [], [])] hm Go.Proofs.Tryd.func20
def c21_1 := xG [xo 4 (.mv (xi 0))] [0,1]
def c21_2 := xG [xm 6 0,
 xo 7 (.call 34 [xt 6]),
 xm 5 7] [1,5]
def c21_3 := xG [xm 8 1,
 xm 9 5,
 xo 10 (.len false (xt 9)),
 xo 11 (.bin .sub (xt 10) (xi 1)),
 xo 12 (.call 19 [xt 8, xi 0, xt 11]),
 xo 13 (.not (xt 12))] [1,5,13]
def c21_4 := xG [xo 4 (.mv (xi (-1)))] [4]
def c21_5 := xQ c21_4 xR
def c21_6 := xC 13 c21_5 xS
def c21_7 := xQ c21_3 c21_6
def c21_8 := xG [xm 14 5,
 xm 15 1,
 xo 16 (.ia (xt 14) (xt 15) 1),
 xo 17 (.ld (xt 16) 1 false),
 xm 4 17] [4]
def c21_9 := xQ c21_8 xR
def c21_10 := xQ c21_7 c21_9
def c21_11 := xQ c21_2 c21_10
def c21_12 := xQ c21_1 c21_11
abbrev n_impl_DigestOf : Nat := 21
theorem k_impl_DigestOf : Known Pr mu n_impl_DigestOf (c21_12 ()) [.t 4] Go.Proofs.Tryd.f21.ntmps := .of [(0, [0,1], [], [], []), (1, [1,5], [], [], []), (2, [1,5,13], [], [], []), (3, [4], [], [], []), (4, [4], [], [], [])] hm Go.Proofs.Tryd.func21
def c22_1 := xG [xo 2 (.box (xt 0)),
 xo 3 (.box (xt 1)),
 xo 4 (.mv (xb false))] [2,3]
def c22_2 := xG [xo 5 (.fa (xt 2) 0),
 xo 6 (.ld (xt 5) 1 false),
 xo 7 (.fa (xt 3) 0),
 xo 8 (.ld (xt 7) 1 false),
 xo 9 (.call 35 [xt 6, xt 8]),
 xo 10 (.not (xt 9))] [2,3,10]
def c22_3 := xG [xo 4 (.mv (xb false))] [4]
def c22_4 := xQ c22_3 xR
def c22_5 := xC 10 c22_4 xS
def c22_6 := xQ c22_2 c22_5
def c22_7 := xG [xo 11 (.fa (xt 2) 1),
 xo 12 (.ld (xt 11) 1 false),
 xo 13 (.fa (xt 3) 1),
 xo 14 (.ld (xt 13) 1 false),
 xo 15 (.call 36 [xt 12, xt 14]),
 xo 16 (.not (xt 15))] [16]
def c22_8 := xG [xo 4 (.mv (xb false))] [4]
def c22_9 := xQ c22_8 xR
def c22_10 := xC 16 c22_9 xS
def c22_11 := xQ c22_7 c22_10
def c22_12 := xG [xo 4 (.mv (xb true))] [4]
def c22_13 := xQ c22_12 xR
def c22_14 := xQ c22_11 c22_13
def c22_15 := xQ c22_6 c22_14
def c22_16 := xQ c22_1 c22_15
abbrev n_laws_eqMachine : Nat := 22
theorem k_laws_eqMachine : Known Pr mu n_laws_eqMachine (c22_16 ()) [.t 4] Go.Proofs.Tryd.f22.ntmps := .of [(0, [2,3], [], [], []), (1, [2,3,10], [], [], []), (2, [4], [], [], []), (3, [16], [], [], []), (4, [4], [], [], []), (5, [4], [], [], [])] hm Go.Proofs.Tryd.func22
def c23_1 := xG [xo 2 (.box (xt 0)),
 xo 3 (.box (xt 1)),
 xo 4 (.mv (xb false))] [2,3]
def c23_2 := xG [xo 5 (.fa (xt 2) 0),
 xo 6 (.ld (xt 5) 1 false),
 xo 7 (.fa (xt 3) 0),
 xo 8 (.ld (xt 7) 1 false),
 xo 9 (.bin .neq (xt 6) (xt 8))] [2,3,9]
def c23_3 := xG [xo 4 (.mv (xb false))] [4]
def c23_4 := xQ c23_3 xR
def c23_5 := xC 9 c23_4 xS
def c23_6 := xQ c23_2 c23_5
def c23_7 := xG [xo 10 (.fa (xt 2) 1),
 xo 11 (.ld (xt 10) 6 true),
 xo 12 (.fa (xt 3) 1),
 xo 13 (.ld (xt 12) 6 true),
 xo 14 (.call 37 [xt 11, xt 13]),
 xo 15 (.not (xt 14))] [15]
def c23_8 := xG [xo 4 (.mv (xb false))] [4]
def c23_9 := xQ c23_8 xR
def c23_10 := xC 15 c23_9 xS
def c23_11 := xQ c23_7 c23_10
def c23_12 := xG [xo 4 (.mv (xb true))] [4]
def c23_13 := xQ c23_12 xR
def c23_14 := xQ c23_11 c23_13
def c23_15 := xQ c23_6 c23_14
def c23_16 := xQ c23_1 c23_15
abbrev n_laws_eqEntry : Nat := 23
theorem k_laws_eqEntry : Known Pr mu n_laws_eqEntry (c23_16 ()) [.t 4] Go.Proofs.Tryd.f23.ntmps := .of [(0, [2,3], [], [], []), (1, [2,3,9], [], [], []), (2, [4], [], [], []), (3, [15], [], [], []), (4, [4], [], [], []), (5, [4], [], [], [])] hm Go.Proofs.Tryd.func23
def c24_1 := xG [xo 2 (.box (xt 0)),
 xo 4 (.mv (xi 0))] [1,2]
def c24_2 := xG [xo 5 (.fa (xt 2) 0),
 xo 6 (.ld (xt 5) 1 false),
 xm 7 1,
 xo 8 (.callm 38 [xt 6, xt 7]),
 xm 1 8] [1,2]
def c24_3 := xG [xo 9 (.fa (xt 2) 1),
 xo 10 (.ld (xt 9) 1 false),
 xm 11 1,
 xo 12 (.callm 39 [xt 10, xt 11]),
 xm 1 12] [1]
def c24_4 := xG [xm 13 1,
 xm 4 13] [4]
def c24_5 := xQ c24_4 xR
def c24_6 := xQ c24_3 c24_5
def c24_7 := xQ c24_2 c24_6
def c24_8 := xQ c24_1 c24_7
abbrev n_laws_markMachine : Nat := 24
theorem k_laws_markMachine : Known Pr mu n_laws_markMachine (c24_8 ()) [.t 4] Go.Proofs.Tryd.f24.ntmps := .of [(0, [1,2], [], [], []), (1, [1,2], [], [], []), (2, [1], [], [], []), (3, [4], [], [], [])] hm Go.Proofs.Tryd.func24
def c25_1 := xG [xo 2 (.box (xt 0)),
 xo 4 (.mv (xi 0))] [1,2]
def c25_2 := xG [xo 5 (.fa (xt 2) 0),
 xo 6 (.ld (xt 5) 1 false),
 xm 7 1,
 xo 8 (.call 40 [xt 6, xt 7]),
 xm 1 8] [1,2]
def c25_3 := xG [xm 9 1,
 xo 10 (.bin .lss (xt 9) (xi 0))] [1,2,10]
def c25_4 := xG [xo 4 (.mv (xi (-1)))] [4]
def c25_5 := xQ c25_4 xR
def c25_6 := xC 10 c25_5 xS
def c25_7 := xQ c25_3 c25_6
def c25_8 := xG [xo 11 (.fa (xt 2) 1),
 xo 12 (.ld (xt 11) 1 false),
 xm 13 1,
 xo 14 (.call 41 [xt 12, xt 13]),
 xm 1 14] [1]
def c25_9 := xG [xm 15 1,
 xo 16 (.bin .lss (xt 15) (xi 0))] [1,16]
def c25_10 := xG [xo 4 (.mv (xi (-1)))] [4]
def c25_11 := xQ c25_10 xR
def c25_12 := xC 16 c25_11 xS
def c25_13 := xQ c25_9 c25_12
def c25_14 := xG [xm 17 1,
 xm 4 17] [4]
def c25_15 := xQ c25_14 xR
def c25_16 := xQ c25_13 c25_15
def c25_17 := xQ c25_8 c25_16
def c25_18 := xQ c25_7 c25_17
def c25_19 := xQ c25_2 c25_18
def c25_20 := xQ c25_1 c25_19
abbrev n_laws_heldMachine : Nat := 25
theorem k_laws_heldMachine : Known Pr mu n_laws_heldMachine (c25_20 ()) [.t 4] Go.Proofs.Tryd.f25.ntmps := .of [(0, [1,2], [], [], []), (1, [1,2], [], [], []), (2, [1,2,10], [], [], []), (3, [4], [], [], []), (4, [1], [], [], []), (5, [1,16], [], [], []), (6, [4], [], [], []), (7, [4], [], [], [])] hm Go.Proofs.Tryd.func25
def c26_1 := xG [xo 1 (.box (xt 0)),
 xo 2 (.mv (xb false))] [1]
def c26_2 := xG [xo 3 (.fa (xt 1) 0),
 xo 4 (.ld (xt 3) 1 false),
 xo 5 (.call 14 [xt 4, xi 0, xi 2]),
 xo 6 (.not (xt 5)),
 xm 7 6,
 xF 8 7 (.fa (xt 1) 1),
 xF 9 7 (.ld (xt 8) 1 false),
 xF 10 7 (.call 14 [xt 9, xi 1, xi 99]),
 xF 11 7 (.not (xt 10)),
 xo 12 (.pick (xt 7) (xb true) (xt 11)),
 xm 13 12,
 xF 14 13 (.fa (xt 1) 3),
 xF 15 13 (.ld (xt 14) 1 false),
 xF 16 13 (.call 14 [xt 15, xi 0, xi 2]),
 xF 17 13 (.not (xt 16)),
 xo 18 (.pick (xt 13) (xb true) (xt 17)),
 xm 19 18,
 xF 20 19 (.fa (xt 1) 5),
 xF 21 19 (.ld (xt 20) 1 false),
 xF 22 19 (.call 14 [xt 21, xi 0, xi 9]),
 xF 23 19 (.not (xt 22)),
 xo 24 (.pick (xt 19) (xb true) (xt 23))] [1,24]
def c26_3 := xG [xo 2 (.mv (xb false))] [2]
def c26_4 := xQ c26_3 xR
def c26_5 := xC 24 c26_4 xS
def c26_6 := xQ c26_2 c26_5
def c26_7 := xG [xo 25 (.fa (xt 1) 2),
 xo 26 (.ld (xt 25) 1 false),
 xo 27 (.bin .eql (xt 26) (xi 1)),
 xm 28 27,
 xT 29 28 (.fa (xt 1) 4),
 xT 30 28 (.ld (xt 29) 1 false),
 xT 31 28 (.bin .eql (xt 30) (xi 0)),
 xo 32 (.pick (xt 28) (xt 31) (xb false)),
 xm 33 32,
 xF 34 33 (.fa (xt 1) 2),
 xF 35 33 (.ld (xt 34) 1 false),
 xF 36 33 (.bin .eql (xt 35) (xi 2)),
 xF 37 33 (.mv (xt 36)),
 xT 38 37 (.fa (xt 1) 4),
 xT 39 37 (.ld (xt 38) 1 false),
 xT 40 37 (.call 14 [xt 39, xi 0, xi 9]),
 xF 41 33 (.pick (xt 37) (xt 40) (xb false)),
 xo 42 (.pick (xt 33) (xb true) (xt 41)),
 xm 2 42] [2]
def c26_8 := xQ c26_7 xR
def c26_9 := xQ c26_6 c26_8
def c26_10 := xQ c26_1 c26_9
abbrev n_spec_IsValidOp : Nat := 26
theorem k_spec_IsValidOp : Known Pr mu n_spec_IsValidOp (c26_10 ()) [.t 2] Go.Proofs.Tryd.f26.ntmps := .of [(0, [1], [], [], []), (1, [1,24], [], [], []), (2, [2], [], [], []), (3, [2], [], [], [])] hm Go.Proofs.Tryd.func26
def c27_1 := xG [xo 0 (.alloc [.slice none 0 0, .slice none 0 0])] [0]
def c27_2 := xG [xo 1 (.bsl 1 3 [.int .i64 0] [(0, (xi 0)), (1, (xi 0)), (2, (xi 0))]),
 xo 2 (.bld [.slice none 0 0, .slice none 0 0] [(0, 1, (xt 1))]),
 xn (.sto (xt 0) (xt 2) 2)] [0]
def c27_3 := xQ c27_2 xR
def c27_4 := xQ c27_1 c27_3
abbrev n_spec_NewMachine : Nat := 27
theorem k_spec_NewMachine : Known Pr mu n_spec_NewMachine (c27_4 ()) [.c 0 2 true] Go.Proofs.Tryd.f27.ntmps := .of [(0, [0], [], [], []), (1, [0], [], [], [])] hm Go.Proofs.Tryd.func27
def c28_1 := xG [xo 2 (.box (xt 0)),
 xo 3 (.box (xt 1)),
 xo 4 (.alloc [.slice none 0 0, .slice none 0 0]),
 xo 5 (.alloc [.bool false, .int .i64 0]),
 xo 6 (.mv (xb false))] [2,3,4,5]
def c28_2 := xG [xo 14 (.ld (xt 2) 2 true),
 xo 15 (.call 42 [xt 14]),
 xo 7 (.alloc [.slice none 0 0, .slice none 0 0]),
 xn (.sto (xt 7) (xt 15) 2)] [2,3,4,5,7]
def c28_3 := xG [xo 16 (.ld (xt 2) 2 true),
 xo 17 (.call 43 [xt 16]),
 xo 18 (.not (xt 17)),
 xm 19 18,
 xF 20 19 (.ld (xt 3) 6 true),
 xF 21 19 (.call 26 [xt 20]),
 xF 22 19 (.not (xt 21)),
 xo 23 (.pick (xt 19) (xb true) (xt 22))] [2,3,4,5,7,23]
def c28_4 := xG [xo 24 (.ld (xt 7) 2 true),
 xo 25 (.bld [.bool false, .int .i64 0] []),
 xn (.sto (xt 4) (xt 24) 2),
 xn (.sto (xt 5) (xt 25) 2),
 xo 6 (.mv (xb false))] [4,5,6]
def c28_5 := xQ c28_4 xR
def c28_6 := xC 23 c28_5 xS
def c28_7 := xQ c28_3 c28_6
def c28_8 := xG [xo 27 (.ld (xt 2) 2 true),
 xo 28 (.fa (xt 3) 0),
 xo 29 (.ld (xt 28) 1 false),
 xo 30 (.call 44 [xt 27, xt 29]),
 xm 26 30,
 xo 31 (.ext (xt 26) 0),
 xo 32 (.ext (xt 26) 1),
 xo 8 (.alloc [.int .i64 0, .int .i64 0, .bool false, .int .i64 0]),
 xn (.sto (xt 8) (xt 31) 4),
 xm 9 32] [2,3,4,5,7,8,9]
def c28_9 := xG [xm 33 9,
 xm 34 33,
 xT 35 34 (.fa (xt 8) 1),
 xT 36 34 (.ld (xt 35) 1 false),
 xT 37 34 (.fa (xt 3) 1),
 xT 38 34 (.ld (xt 37) 1 false),
 xT 39 34 (.bin .eql (xt 36) (xt 38)),
 xo 40 (.pick (xt 34) (xt 39) (xb false))] [2,3,4,5,7,8,9,40]
def o28_6_0 : MOper := ⟨(some 41), .ld (xt 7) 2 true, none, []⟩
def o28_6_1 : MOper := xo 42 (.faf (xt 8) 2)
def o28_6_2 : MOper := ⟨(some 43), .ld (xt 42) 2 true, none, []⟩
def o28_6_3 : MOper := ⟨none, .sto (xt 4) (xt 41) 2, none, []⟩
def o28_6_4 : MOper := ⟨none, .sto (xt 5) (xt 43) 2, none, []⟩
def o28_6_5 : MOper := ⟨(some 6), .mv (xb true), none, []⟩
def c28_10 := xA 6 (xs 0 o28_6_1 (xu (xs 1 o28_6_2 (xs 2 o28_6_0 (xs 3 o28_6_3 (xs 4 o28_6_4 (xs 5 o28_6_5 xf))))) (xs 1 o28_6_0 (xu (xs 2 o28_6_3 (xs 3 o28_6_2 (xs 4 o28_6_4 (xs 5 o28_6_5 xf)))) (xs 2 o28_6_2 (xs 3 o28_6_3 (xs 4 o28_6_4 (xs 5 o28_6_5 xf)))))))) [4,5,6]
def c28_11 := xQ c28_10 xR
def c28_12 := xC 40 c28_11 xS
def c28_13 := xQ c28_9 c28_12
def c28_14 := xG [xm 44 9,
 xm 45 44,
 xT 46 45 (.fa (xt 8) 1),
 xT 47 45 (.ld (xt 46) 1 false),
 xT 48 45 (.fa (xt 3) 1),
 xT 49 45 (.ld (xt 48) 1 false),
 xT 50 45 (.bin .gtr (xt 47) (xt 49)),
 xo 51 (.pick (xt 45) (xt 50) (xb false))] [2,3,4,5,7,9,51]
def c28_15 := xG [xo 52 (.ld (xt 7) 2 true),
 xo 53 (.bld [.bool false, .int .i64 0] []),
 xn (.sto (xt 4) (xt 52) 2),
 xn (.sto (xt 5) (xt 53) 2),
 xo 6 (.mv (xb false))] [4,5,6]
def c28_16 := xQ c28_15 xR
def c28_17 := xC 51 c28_16 xS
def c28_18 := xQ c28_14 c28_17
def c28_19 := xG [xo 54 (.fa (xt 2) 0),
 xo 55 (.ld (xt 54) 1 false),
 xo 56 (.fa (xt 3) 3),
 xo 57 (.ld (xt 56) 1 false),
 xo 58 (.ia (xt 55) (xt 57) 1),
 xo 59 (.ld (xt 58) 1 false),
 xm 10 59] [3,4,5,7,9,10]
def c28_20 := xG [xo 60 (.fa (xt 3) 2),
 xo 61 (.ld (xt 60) 1 false),
 xo 62 (.bin .eql (xt 61) (xi 1)),
 xm 63 62,
 xF 64 63 (.mv (xt 10)),
 xF 65 63 (.fa (xt 3) 4),
 xF 66 63 (.ld (xt 65) 1 false),
 xF 67 63 (.bin .eql (xt 64) (xt 66)),
 xo 68 (.pick (xt 63) (xb true) (xt 67)),
 xm 69 10,
 xo 70 (.bld [.bool false, .int .i64 0] [(0, 1, (xt 68)), (1, 1, (xt 69))]),
 xo 11 (.alloc [.bool false, .int .i64 0]),
 xn (.sto (xt 11) (xt 70) 2)] [3,4,5,7,9,11]
def c28_21 := xG [xo 71 (.fa (xt 11) 0),
 xo 72 (.ld (xt 71) 1 false)] [3,4,5,7,9,11,72]
def c28_22 := xG [xo 73 (.fa (xt 7) 0),
 xo 74 (.ld (xt 73) 1 false),
 xo 75 (.fa (xt 3) 3),
 xo 76 (.ld (xt 75) 1 false),
 xo 77 (.fa (xt 3) 5),
 xo 78 (.ld (xt 77) 1 false),
 xo 79 (.ia (xt 74) (xt 76) 1),
 xn (.sto (xt 79) (xt 78) 1)] [3,4,5,7,9,11]
def c28_23 := xC 72 c28_22 xS
def c28_24 := xQ c28_21 c28_23
def c28_25 := xG [xo 12 (.mv (xi 0))] [3,4,5,7,9,11,12]
def c28_26 := xG [xm 80 12,
 ⟨(some 81), .fa (xt 7) 1, none, [0]⟩,
 ⟨(some 82), .ld (xt 81) 1 false, none, [0]⟩,
 xo 83 (.len false (xt 82)),
 xo 84 (.bin .lss (xt 80) (xt 83)),
 xm 85 84,
 xT 86 85 (.fa (xt 7) 1),
 xT 87 85 (.ld (xt 86) 1 false),
 xT 88 85 (.mv (xt 12)),
 xT 89 85 (.ia (xt 87) (xt 88) 4),
 xT 90 85 (.fa (xt 89) 0),
 xT 91 85 (.ld (xt 90) 1 false),
 ⟨(some 92), .fa (xt 3) 0, (some (85, true)), [6, 7, 8, 9, 10, 11]⟩,
 ⟨(some 93), .ld (xt 92) 1 false, (some (85, true)), [6, 7, 8, 9, 10, 11]⟩,
 xT 94 85 (.bin .lss (xt 91) (xt 93)),
 xo 95 (.pick (xt 85) (xt 94) (xb false))] [3,4,5,7,9,11,12,95]
def c28_27 := xC 95 xS (xE 0)
def c28_28 := xQ c28_26 c28_27
def c28_29 := xG [xm 96 12,
 xo 97 (.bin .add (xt 96) (xi 1)),
 xm 12 97] [3,4,5,7,9,11,12]
def c28_30 := xB 1 c28_29
def c28_31 := xQ c28_28 c28_30
def c28_32 := xL c28_31
def c28_33 := xB 0 c28_32
def c28_34 := xG [xo 98 (.fa (xt 7) 1),
 xo 99 (.ld (xt 98) 1 false),
 xm 100 12,
 xo 101 (.slc false (xt 99) (some (xt 100)) none none 4),
 xm 13 101] [3,4,5,7,9,11,12,13]
def c28_35 := xG [xm 102 9] [3,4,5,7,11,12,13,102]
def c28_36 := xG [xo 103 (.fa (xt 7) 1),
 xo 104 (.ld (xt 103) 1 false),
 xm 105 12,
 xo 106 (.bin .add (xt 105) (xi 1)),
 xo 107 (.slc false (xt 104) (some (xt 106)) none none 4),
 xm 13 107] [3,4,5,7,11,12,13]
def c28_37 := xC 102 c28_36 xS
def c28_38 := xQ c28_35 c28_37
def c28_39 : XC := fun _ => .region [xm 122 13] [xo 108 (.bsl 4 0 [.int .i64 0, .int .i64 0, .bool false, .int .i64 0] []),
 ⟨(some 109), .fa (xt 7) 1, none, [0]⟩,
 ⟨(some 110), .ld (xt 109) 1 false, none, [0]⟩,
 xm 111 12,
 ⟨(some 112), .slc false (xt 110) none (some (xt 111)) none 4, none, [0]⟩,
 ⟨(some 113), .appn (xt 108) (xt 112) 4 32, none, [1000000]⟩,
 ⟨(some 114), .fa (xt 3) 0, none, [0, 1, 2, 3, 4, 5]⟩,
 ⟨(some 115), .ld (xt 114) 1 false, none, [0, 1, 2, 3, 4, 5]⟩,
 ⟨(some 116), .fa (xt 3) 1, none, [0, 1, 2, 3, 4, 5, 6, 7]⟩,
 ⟨(some 117), .ld (xt 116) 1 false, none, [0, 1, 2, 3, 4, 5, 6, 7]⟩,
 ⟨(some 118), .ld (xt 11) 2 true, none, [0, 1, 2, 3, 4, 5, 6, 7, 8, 9]⟩,
 xo 119 (.bld [.int .i64 0, .int .i64 0, .bool false, .int .i64 0] [(0, 1, (xt 115)), (1, 1, (xt 117)), (2, 2, (xt 118))]),
 xo 120 (.bsl 4 1 [.int .i64 0, .int .i64 0, .bool false, .int .i64 0] [(0, (xt 119))]),
 xo 121 (.app (xt 113) (xt 120) 4 32),
 ⟨(some 122), .mv (xt 122), none, []⟩,
 xo 123 (.app (xt 121) (xt 122) 4 32),
 xo 124 (.fa (xt 7) 1),
 xn (.sto (xt 124) (xt 123) 1)] [4,5,7,11]
def o28_20_0 : MOper := ⟨(some 125), .ld (xt 7) 2 true, none, []⟩
def o28_20_1 : MOper := ⟨(some 126), .ld (xt 11) 2 true, none, []⟩
def o28_20_2 : MOper := ⟨none, .sto (xt 4) (xt 125) 2, none, []⟩
def o28_20_3 : MOper := ⟨none, .sto (xt 5) (xt 126) 2, none, []⟩
def o28_20_4 : MOper := ⟨(some 6), .mv (xb true), none, []⟩
def c28_40 := xA 5 (xu (xs 0 o28_20_1 (xs 1 o28_20_0 (xs 2 o28_20_2 (xs 3 o28_20_3 (xs 4 o28_20_4 xf))))) (xs 0 o28_20_0 (xu (xs 1 o28_20_2 (xs 2 o28_20_1 (xs 3 o28_20_3 (xs 4 o28_20_4 xf)))) (xs 1 o28_20_1 (xs 2 o28_20_2 (xs 3 o28_20_3 (xs 4 o28_20_4 xf))))))) [4,5,6]
def c28_41 := xQ c28_40 xR
def c28_42 := xQ c28_39 c28_41
def c28_43 := xQ c28_38 c28_42
def c28_44 := xQ c28_34 c28_43
def c28_45 := xQ c28_33 c28_44
def c28_46 := xQ c28_25 c28_45
def c28_47 := xQ c28_24 c28_46
def c28_48 := xQ c28_20 c28_47
def c28_49 := xQ c28_19 c28_48
def c28_50 := xQ c28_18 c28_49
def c28_51 := xQ c28_13 c28_50
def c28_52 := xQ c28_8 c28_51
def c28_53 := xQ c28_7 c28_52
def c28_54 := xQ c28_2 c28_53
def c28_55 := xQ c28_1 c28_54
abbrev n_spec_ApplyOp : Nat := 28
theorem k_spec_ApplyOp : Known Pr mu n_spec_ApplyOp (c28_55 ()) [.c 4 2 true, .c 5 2 true, .t 6] Go.Proofs.Tryd.f28.ntmps := .of [(0, [2,3,4,5], [], [], []), (1, [2,3,4,5,7], [], [], []), (2, [2,3,4,5,7,23], [], [], []), (3, [4,5,6], [], [], []), (4, [2,3,4,5,7,8,9], [], [], []), (5, [2,3,4,5,7,8,9,40], [], [], []), (6, [4,5,6], [], [9999], [1]), (7, [2,3,4,5,7,9,51], [], [], []), (8, [4,5,6], [], [], []), (9, [3,4,5,7,9,10], [], [], []), (10, [3,4,5,7,9,11], [], [], []), (11, [3,4,5,7,9,11,72], [], [], []), (12, [3,4,5,7,9,11], [], [], []), (13, [3,4,5,7,9,11,12], [], [], []), (14, [3,4,5,7,9,11,12,95], [[],[0],[0],[],[],[],[],[],[],[],[],[],[6,7,8,9,10,11],[6,7,8,9,10,11]], [], []), (15, [3,4,5,7,9,11,12], [], [], []), (16, [3,4,5,7,9,11,12,13], [], [], []), (17, [3,4,5,7,11,12,13,102], [], [], []), (18, [3,4,5,7,11,12,13], [], [], []), (19, [4,5,7,11], [[],[0],[0],[],[0],[1000000],[0,1,2,3,4,5],[0,1,2,3,4,5],[0,1,2,3,4,5,6,7],[0,1,2,3,4,5,6,7],[0,1,2,3,4,5,6,7,8,9]], [14], []), (20, [4,5,6], [], [9999], [])] hm Go.Proofs.Tryd.func28
def c29_1 := xG [xo 2 (.mv (.const (.slice none 0 0)))] [0]
def c29_2 := xG [xo 6 (.bsl 1 0 [.int .i64 0] []),
 xm 3 6] [0,3]
def c29_3 := xG [xm 7 0,
 xo 8 (.call 13 [xt 7]),
 xo 9 (.not (xt 8))] [0,3,9]
def c29_4 := xG [xm 10 3,
 xm 2 10] [2]
def c29_5 := xQ c29_4 xR
def c29_6 := xC 9 c29_5 xS
def c29_7 := xQ c29_3 c29_6
def c29_8 := xG [xo 4 (.mv (xi 11))] [0,3,4]
def c29_9 := xG [xm 11 3,
 xm 12 4,
 xo 13 (.bsl 1 1 [.int .i64 0] [(0, (xt 12))]),
 xo 14 (.app (xt 11) (xt 13) 1 8),
 xm 3 14] [0,3,4]
def c29_10 := xG [xo 5 (.mv (xi 0))] [0,3,4,5]
def c29_11 := xG [xm 15 5,
 xm 16 0,
 xo 17 (.len false (xt 16)),
 xo 18 (.bin .lss (xt 15) (xt 17))] [0,3,4,5,18]
def c29_12 := xC 18 xS (xE 0)
def c29_13 := xQ c29_11 c29_12
def c29_14 := xG [xm 21 4,
 xo 22 (.bin .mul (xt 21) (xi 31)),
 xm 23 0,
 xm 24 5,
 xm 25 5,
 xo 26 (.bin .add (xt 25) (xi 1)),
 xo 27 (.slc false (xt 23) (some (xt 24)) (some (xt 26)) none 7),
 xo 28 (.call 46 [xt 27]),
 xo 29 (.call 45 [xt 28]),
 xo 30 (.bin .add (xt 22) (xt 29)),
 xo 31 (.bin .rem (xt 30) (xi 9973)),
 xm 4 31] [0,3,4,5]
def c29_15 := xG [xm 32 3,
 xm 33 4,
 xo 34 (.bsl 1 1 [.int .i64 0] [(0, (xt 33))]),
 xo 35 (.app (xt 32) (xt 34) 1 8),
 xm 3 35] [0,3,4,5]
def c29_16 := xQ c29_14 c29_15
def c29_17 := xB 1 c29_16
def c29_18 := xG [xm 19 5,
 xo 20 (.bin .add (xt 19) (xi 1)),
 xm 5 20] [0,3,4,5]
def c29_19 := xQ c29_17 c29_18
def c29_20 := xQ c29_13 c29_19
def c29_21 := xL c29_20
def c29_22 := xB 0 c29_21
def c29_23 := xQ c29_10 c29_22
def c29_24 := xG [xm 36 3,
 xm 2 36] [2]
def c29_25 := xQ c29_24 xR
def c29_26 := xQ c29_23 c29_25
def c29_27 := xQ c29_9 c29_26
def c29_28 := xQ c29_8 c29_27
def c29_29 := xQ c29_7 c29_28
def c29_30 := xQ c29_2 c29_29
def c29_31 := xQ c29_1 c29_30
abbrev n_spec_DigestList : Nat := 29
theorem k_spec_DigestList : Known Pr mu n_spec_DigestList (c29_31 ()) [.t 2] Go.Proofs.Tryd.f29.ntmps := .of [(0, [0], [], [], []), (1, [0,3], [], [], []), (2, [0,3,9], [], [], []), (3, [2], [], [], []), (4, [0,3,4], [], [], []), (5, [0,3,4], [], [], []), (6, [0,3,4,5], [], [], []), (7, [0,3,4,5,18], [], [], []), (9, [0,3,4,5], [], [], []), (10, [0,3,4,5], [], [], []), (8, [0,3,4,5], [], [], []), (11, [2], [], [], [])] hm Go.Proofs.Tryd.func29
def c30_1 := xG [xo 1 (.box (xt 0)),
 xo 2 (.alloc [.int .i64 0, .int .i64 0, .int .i64 0, .int .i64 0, .int .i64 0, .int .i64 0])] [1,2]
def c30_2 := xG [xo 3 (.alloc [.int .i64 0, .int .i64 0, .int .i64 0, .int .i64 0, .int .i64 0, .int .i64 0])] [1,2,3]
def c30_3 := xG [xo 4 (.fa (xt 1) 0),
 xo 5 (.ld (xt 4) 1 false),
 xo 6 (.fa (xt 3) 0),
 xn (.sto (xt 6) (xt 5) 1)] [1,2,3]
def c30_4 := xG [xo 7 (.fa (xt 1) 1),
 xo 8 (.ld (xt 7) 1 false),
 xo 9 (.fa (xt 3) 1),
 xn (.sto (xt 9) (xt 8) 1)] [1,2,3]
def c30_5 := xG [xo 10 (.fa (xt 1) 2),
 xo 11 (.ld (xt 10) 1 false),
 xo 12 (.fa (xt 3) 2),
 xn (.sto (xt 12) (xt 11) 1)] [1,2,3]
def c30_6 := xG [xo 13 (.fa (xt 1) 3),
 xo 14 (.ld (xt 13) 1 false),
 xo 15 (.fa (xt 3) 3),
 xn (.sto (xt 15) (xt 14) 1)] [1,2,3]
def c30_7 := xG [xo 16 (.fa (xt 1) 4),
 xo 17 (.ld (xt 16) 1 false),
 xo 18 (.fa (xt 3) 4),
 xn (.sto (xt 18) (xt 17) 1)] [1,2,3]
def c30_8 := xG [xo 19 (.fa (xt 1) 5),
 xo 20 (.ld (xt 19) 1 false),
 xo 21 (.fa (xt 3) 5),
 xn (.sto (xt 21) (xt 20) 1)] [2,3]
def c30_9 := xG [xo 22 (.ld (xt 3) 6 true),
 xn (.sto (xt 2) (xt 22) 6)] [2]
def c30_10 := xQ c30_9 xR
def c30_11 := xQ c30_8 c30_10
def c30_12 := xQ c30_7 c30_11
def c30_13 := xQ c30_6 c30_12
def c30_14 := xQ c30_5 c30_13
def c30_15 := xQ c30_4 c30_14
def c30_16 := xQ c30_3 c30_15
def c30_17 := xQ c30_2 c30_16
def c30_18 := xQ c30_1 c30_17
abbrev n_laws_toOp : Nat := 30
theorem k_laws_toOp : Known Pr mu n_laws_toOp (c30_18 ()) [.c 2 6 true] Go.Proofs.Tryd.f30.ntmps := .of [(0, [1,2], [], [], []), (1, [1,2,3], [], [], []), (2, [1,2,3], [], [], []), (3, [1,2,3], [], [], []), (4, [1,2,3], [], [], []), (5, [1,2,3], [], [], []), (6, [1,2,3], [], [], []), (7, [2,3], [], [], []), (8, [2], [], [], [])] hm Go.Proofs.Tryd.func30
def c31_1 := xG [xo 1 (.box (xt 0)),
 xo 2 (.mv (xb false))] [1]
def c31_2 := xG [xo 3 (.fa (xt 1) 0),
 xo 4 (.ld (xt 3) 1 false),
 xo 5 (.call 19 [xt 4, xi 0, xi 2]),
 xo 6 (.not (xt 5)),
 xm 7 6,
 xF 8 7 (.fa (xt 1) 1),
 xF 9 7 (.ld (xt 8) 1 false),
 xF 10 7 (.call 19 [xt 9, xi 1, xi 99]),
 xF 11 7 (.not (xt 10)),
 xo 12 (.pick (xt 7) (xb true) (xt 11)),
 xm 13 12,
 xF 14 13 (.fa (xt 1) 3),
 xF 15 13 (.ld (xt 14) 1 false),
 xF 16 13 (.call 19 [xt 15, xi 0, xi 2]),
 xF 17 13 (.not (xt 16)),
 xo 18 (.pick (xt 13) (xb true) (xt 17)),
 xm 19 18,
 xF 20 19 (.fa (xt 1) 5),
 xF 21 19 (.ld (xt 20) 1 false),
 xF 22 19 (.call 19 [xt 21, xi 0, xi 9]),
 xF 23 19 (.not (xt 22)),
 xo 24 (.pick (xt 19) (xb true) (xt 23))] [1,24]
def c31_3 := xG [xo 2 (.mv (xb false))] [2]
def c31_4 := xQ c31_3 xR
def c31_5 := xC 24 c31_4 xS
def c31_6 := xQ c31_2 c31_5
def c31_7 := xG [xo 25 (.fa (xt 1) 2),
 xo 26 (.ld (xt 25) 1 false),
 xo 27 (.bin .eql (xt 26) (xi 1)),
 xm 28 27,
 xT 29 28 (.fa (xt 1) 4),
 xT 30 28 (.ld (xt 29) 1 false),
 xT 31 28 (.bin .eql (xt 30) (xi 0)),
 xo 32 (.pick (xt 28) (xt 31) (xb false)),
 xm 33 32,
 xF 34 33 (.fa (xt 1) 2),
 xF 35 33 (.ld (xt 34) 1 false),
 xF 36 33 (.bin .eql (xt 35) (xi 2)),
 xF 37 33 (.mv (xt 36)),
 xT 38 37 (.fa (xt 1) 4),
 xT 39 37 (.ld (xt 38) 1 false),
 xT 40 37 (.call 19 [xt 39, xi 0, xi 9]),
 xF 41 33 (.pick (xt 37) (xt 40) (xb false)),
 xo 42 (.pick (xt 33) (xb true) (xt 41)),
 xm 2 42] [2]
def c31_8 := xQ c31_7 xR
def c31_9 := xQ c31_6 c31_8
def c31_10 := xQ c31_1 c31_9
abbrev n_impl_IsValidOp : Nat := 31
theorem k_impl_IsValidOp : Known Pr mu n_impl_IsValidOp (c31_10 ()) [.t 2] Go.Proofs.Tryd.f31.ntmps := .of [(0, [1], [], [], []), (1, [1,24], [], [], []), (2, [2], [], [], []), (3, [2], [], [], [])] hm Go.Proofs.Tryd.func31
def c32_1 := xG [xo 0 (.alloc [.slice none 0 0, .slice none 0 0])] [0]
def c32_2 := xG [xo 1 (.mks 1 8 [.int .i64 0] (xi 3) (xi 3)),
 xo 2 (.bld [.slice none 0 0, .slice none 0 0] [(0, 1, (xt 1))]),
 xn (.sto (xt 0) (xt 2) 2)] [0]
def c32_3 := xQ c32_2 xR
def c32_4 := xQ c32_1 c32_3
abbrev n_impl_NewMachine : Nat := 32
theorem k_impl_NewMachine : Known Pr mu n_impl_NewMachine (c32_4 ()) [.c 0 2 true] Go.Proofs.Tryd.f32.ntmps := .of [(0, [0], [], [], []), (1, [0], [], [], [])] hm Go.Proofs.Tryd.func32
def c33_1 := xG [xo 2 (.box (xt 0)),
 xo 3 (.box (xt 1)),
 xo 4 (.alloc [.slice none 0 0, .slice none 0 0]),
 xo 5 (.alloc [.bool false, .int .i64 0]),
 xo 6 (.mv (xb false))] [2,3,4,5]
def c33_2 := xG [xo 13 (.ld (xt 2) 2 true),
 xo 14 (.call 47 [xt 13]),
 xo 7 (.alloc [.slice none 0 0, .slice none 0 0]),
 xn (.sto (xt 7) (xt 14) 2)] [2,3,4,5,7]
def c33_3 := xG [xo 16 (.ld (xt 2) 2 true),
 xo 17 (.fa (xt 3) 0),
 xo 18 (.ld (xt 17) 1 false),
 xo 19 (.call 48 [xt 16, xt 18]),
 xm 15 19,
 xo 20 (.ext (xt 15) 0),
 xo 21 (.ext (xt 15) 1),
 xo 8 (.alloc [.int .i64 0, .int .i64 0, .bool false, .int .i64 0]),
 xn (.sto (xt 8) (xt 20) 4),
 xm 9 21] [2,3,4,5,7,8,9]
def c33_4 := xG [xo 23 (.ld (xt 2) 2 true),
 xo 24 (.call 49 [xt 23]),
 xo 25 (.not (xt 24)),
 xm 26 25,
 xF 27 26 (.ld (xt 3) 6 true),
 xF 28 26 (.call 31 [xt 27]),
 xF 29 26 (.not (xt 28)),
 xo 30 (.pick (xt 26) (xb true) (xt 29)),
 xm 31 30,
 xF 32 31 (.mv (xt 9)),
 xF 33 31 (.mv (xt 32)),
 xT 34 33 (.fa (xt 8) 1),
 xT 35 33 (.ld (xt 34) 1 false),
 xT 36 33 (.fa (xt 3) 1),
 xT 37 33 (.ld (xt 36) 1 false),
 xT 38 33 (.bin .gtr (xt 35) (xt 37)),
 xF 39 31 (.pick (xt 33) (xt 38) (xb false)),
 xo 40 (.pick (xt 31) (xb true) (xt 39)),
 xm 22 40] [2,3,4,5,7,8,9,22]
def c33_5 := xG [xo 41 (.ld (xt 7) 2 true),
 xo 42 (.bld [.bool false, .int .i64 0] []),
 xn (.sto (xt 4) (xt 41) 2),
 xn (.sto (xt 5) (xt 42) 2),
 xo 6 (.mv (xb false))] [4,5,6]
def c33_6 := xQ c33_5 xR
def c33_7 := xG [xm 44 9,
 xm 45 44,
 xT 46 45 (.fa (xt 8) 1),
 xT 47 45 (.ld (xt 46) 1 false),
 xT 48 45 (.fa (xt 3) 1),
 xT 49 45 (.ld (xt 48) 1 false),
 xT 50 45 (.bin .eql (xt 47) (xt 49)),
 xo 51 (.pick (xt 45) (xt 50) (xb false)),
 xm 43 51] [2,3,4,5,7,8,9,43]
def o33_6_0 : MOper := ⟨(some 52), .ld (xt 7) 2 true, none, []⟩
def o33_6_1 : MOper := xo 53 (.faf (xt 8) 2)
def o33_6_2 : MOper := ⟨(some 54), .ld (xt 53) 2 true, none, []⟩
def o33_6_3 : MOper := ⟨none, .sto (xt 4) (xt 52) 2, none, []⟩
def o33_6_4 : MOper := ⟨none, .sto (xt 5) (xt 54) 2, none, []⟩
def o33_6_5 : MOper := ⟨(some 6), .mv (xb true), none, []⟩
def c33_8 := xA 6 (xs 0 o33_6_1 (xu (xs 1 o33_6_2 (xs 2 o33_6_0 (xs 3 o33_6_3 (xs 4 o33_6_4 (xs 5 o33_6_5 xf))))) (xs 1 o33_6_0 (xu (xs 2 o33_6_3 (xs 3 o33_6_2 (xs 4 o33_6_4 (xs 5 o33_6_5 xf)))) (xs 2 o33_6_2 (xs 3 o33_6_3 (xs 4 o33_6_4 (xs 5 o33_6_5 xf)))))))) [4,5,6]
def c33_9 := xQ c33_8 xR
def c33_10 := xC 43 c33_9 xS
def c33_11 := xQ c33_7 c33_10
def c33_12 := xC 22 c33_6 c33_11
def c33_13 := xQ c33_4 c33_12
def c33_14 := xB 0 c33_13
def c33_15 := xG [xo 55 (.fa (xt 2) 0),
 xo 56 (.ld (xt 55) 1 false),
 xo 57 (.fa (xt 3) 3),
 xo 58 (.ld (xt 57) 1 false),
 xo 59 (.ia (xt 56) (xt 58) 1),
 xo 60 (.ld (xt 59) 1 false),
 xm 10 60] [3,4,5,7,9,10]
def c33_16 := xG [xo 61 (.fa (xt 3) 2),
 xo 62 (.ld (xt 61) 1 false),
 xo 63 (.bin .eql (xt 62) (xi 1)),
 xm 64 63,
 xF 65 64 (.mv (xt 10)),
 xF 66 64 (.fa (xt 3) 4),
 xF 67 64 (.ld (xt 66) 1 false),
 xF 68 64 (.bin .eql (xt 65) (xt 67)),
 xo 69 (.pick (xt 64) (xb true) (xt 68)),
 xm 70 10,
 xo 71 (.bld [.bool false, .int .i64 0] [(0, 1, (xt 69)), (1, 1, (xt 70))]),
 xo 11 (.alloc [.bool false, .int .i64 0]),
 xn (.sto (xt 11) (xt 71) 2)] [3,4,5,7,9,11]
def c33_17 := xG [xo 72 (.fa (xt 11) 0),
 xo 73 (.ld (xt 72) 1 false)] [3,4,5,7,9,11,73]
def c33_18 := xG [xo 74 (.fa (xt 7) 0),
 xo 75 (.ld (xt 74) 1 false),
 xo 76 (.fa (xt 3) 3),
 xo 77 (.ld (xt 76) 1 false),
 xo 78 (.fa (xt 3) 5),
 xo 79 (.ld (xt 78) 1 false),
 xo 80 (.ia (xt 75) (xt 77) 1),
 xn (.sto (xt 80) (xt 79) 1)] [3,4,5,7,9,11]
def c33_19 := xC 73 c33_18 xS
def c33_20 := xQ c33_17 c33_19
def c33_21 := xG [xo 12 (.mv (xi 0))] [3,4,5,7,9,11,12]
def c33_22 := xG [xm 81 12,
 ⟨(some 82), .fa (xt 7) 1, none, [0]⟩,
 ⟨(some 83), .ld (xt 82) 1 false, none, [0]⟩,
 xo 84 (.len false (xt 83)),
 xo 85 (.bin .lss (xt 81) (xt 84)),
 xm 86 85,
 xT 87 86 (.fa (xt 7) 1),
 xT 88 86 (.ld (xt 87) 1 false),
 xT 89 86 (.mv (xt 12)),
 xT 90 86 (.ia (xt 88) (xt 89) 4),
 xT 91 86 (.fa (xt 90) 0),
 xT 92 86 (.ld (xt 91) 1 false),
 ⟨(some 93), .fa (xt 3) 0, (some (86, true)), [6, 7, 8, 9, 10, 11]⟩,
 ⟨(some 94), .ld (xt 93) 1 false, (some (86, true)), [6, 7, 8, 9, 10, 11]⟩,
 xT 95 86 (.bin .lss (xt 92) (xt 94)),
 xo 96 (.pick (xt 86) (xt 95) (xb false))] [3,4,5,7,9,11,12,96]
def c33_23 := xC 96 xS (xE 1)
def c33_24 := xQ c33_22 c33_23
def c33_25 := xG [xm 97 12,
 xo 98 (.bin .add (xt 97) (xi 1)),
 xm 12 98] [3,4,5,7,9,11,12]
def c33_26 := xB 2 c33_25
def c33_27 := xQ c33_24 c33_26
def c33_28 := xL c33_27
def c33_29 := xB 1 c33_28
def c33_30 := xG [xm 99 9,
 xo 100 (.not (xt 99))] [3,4,5,7,11,12,100]
def c33_31 := xG [xo 101 (.fa (xt 7) 1),
 xo 102 (.ld (xt 101) 1 false),
 xm 103 12,
 xo 104 (.bld [.int .i64 0, .int .i64 0, .bool false, .int .i64 0] []),
 xo 105 (.bsl 4 1 [.int .i64 0, .int .i64 0, .bool false, .int .i64 0] [(0, (xt 104))]),
 xo 106 (.ins 50 (xt 102) (xt 103) (xt 105)),
 xo 107 (.fa (xt 7) 1),
 xn (.sto (xt 107) (xt 106) 1)] [3,4,5,7,11,12]
def c33_32 := xC 100 c33_31 xS
def c33_33 := xQ c33_30 c33_32
def c33_34 := xG [xo 108 (.fa (xt 7) 1),
 xo 109 (.ld (xt 108) 1 false),
 xm 110 12,
 xo 111 (.fa (xt 3) 0),
 xo 112 (.ld (xt 111) 1 false),
 xo 113 (.fa (xt 3) 1),
 xo 114 (.ld (xt 113) 1 false),
 xo 115 (.ld (xt 11) 2 true),
 xo 116 (.bld [.int .i64 0, .int .i64 0, .bool false, .int .i64 0] [(0, 1, (xt 112)), (1, 1, (xt 114)), (2, 2, (xt 115))]),
 xo 117 (.ia (xt 109) (xt 110) 4),
 xn (.sto (xt 117) (xt 116) 4)] [4,5,7,11]
def o33_17_0 : MOper := ⟨(some 118), .ld (xt 7) 2 true, none, []⟩
def o33_17_1 : MOper := ⟨(some 119), .ld (xt 11) 2 true, none, []⟩
def o33_17_2 : MOper := ⟨none, .sto (xt 4) (xt 118) 2, none, []⟩
def o33_17_3 : MOper := ⟨none, .sto (xt 5) (xt 119) 2, none, []⟩
def o33_17_4 : MOper := ⟨(some 6), .mv (xb true), none, []⟩
def c33_35 := xA 5 (xu (xs 0 o33_17_1 (xs 1 o33_17_0 (xs 2 o33_17_2 (xs 3 o33_17_3 (xs 4 o33_17_4 xf))))) (xs 0 o33_17_0 (xu (xs 1 o33_17_2 (xs 2 o33_17_1 (xs 3 o33_17_3 (xs 4 o33_17_4 xf)))) (xs 1 o33_17_1 (xs 2 o33_17_2 (xs 3 o33_17_3 (xs 4 o33_17_4 xf))))))) [4,5,6]
def c33_36 := xQ c33_35 xR
def c33_37 := xQ c33_34 c33_36
def c33_38 := xQ c33_33 c33_37
def c33_39 := xQ c33_29 c33_38
def c33_40 := xQ c33_21 c33_39
def c33_41 := xQ c33_20 c33_40
def c33_42 := xQ c33_16 c33_41
def c33_43 := xQ c33_15 c33_42
def c33_44 := xQ c33_14 c33_43
def c33_45 := xQ c33_3 c33_44
def c33_46 := xQ c33_2 c33_45
def c33_47 := xQ c33_1 c33_46
abbrev n_impl_ApplyOp : Nat := 33
theorem k_impl_ApplyOp : Known Pr mu n_impl_ApplyOp (c33_47 ()) [.c 4 2 true, .c 5 2 true, .t 6] Go.Proofs.Tryd.f33.ntmps := .of [(0, [2,3,4,5], [], [], []), (1, [2,3,4,5,7], [], [], []), (2, [2,3,4,5,7,8,9], [], [], []), (3, [2,3,4,5,7,8,9,22], [], [], []), (4, [4,5,6], [], [], []), (5, [2,3,4,5,7,8,9,43], [], [], []), (6, [4,5,6], [], [9999], [1]), (7, [3,4,5,7,9,10], [], [], []), (8, [3,4,5,7,9,11], [], [], []), (9, [3,4,5,7,9,11,73], [], [], []), (10, [3,4,5,7,9,11], [], [], []), (11, [3,4,5,7,9,11,12], [], [], []), (12, [3,4,5,7,9,11,12,96], [[],[0],[0],[],[],[],[],[],[],[],[],[],[6,7,8,9,10,11],[6,7,8,9,10,11]], [], []), (13, [3,4,5,7,9,11,12], [], [], []), (14, [3,4,5,7,11,12,100], [], [], []), (15, [3,4,5,7,11,12], [], [], []), (16, [4,5,7,11], [], [], []), (17, [4,5,6], [], [9999], [])] hm Go.Proofs.Tryd.func33
def c34_1 := xG [xo 2 (.mv (.const (.slice none 0 0)))] [0]
def c34_2 := xG [xm 5 0,
 xo 6 (.call 18 [xt 5]),
 xo 7 (.not (xt 6))] [0,7]
def c34_3 := xG [xo 8 (.bsl 1 0 [.int .i64 0] []),
 xm 2 8] [2]
def c34_4 := xQ c34_3 xR
def c34_5 := xC 7 c34_4 xS
def c34_6 := xQ c34_2 c34_5
def c34_7 := xG [xo 9 (.bsl 1 1 [.int .i64 0] [(0, (xi 11))]),
 xm 3 9] [0,3]
def c34_8 := xG [xm 10 0,
 xo 11 (.len false (xt 10)),
 xo 12 (.mv (xi 0))] [0,3,11,12]
def c34_9 := xG [xo 13 (.bin .lss (xt 12) (xt 11))] [0,3,11,12,13]
def c34_10 := xC 13 xS (xE 0)
def c34_11 := xG [xm 14 12,
 xm 4 14] [0,3,4,11,12]
def c34_12 := xG [xm 15 3,
 xm 16 3,
 xm 17 4,
 ⟨(some 18), .ia (xt 16) (xt 17) 1, none, [0]⟩,
 ⟨(some 19), .ld (xt 18) 1 false, none, [0]⟩,
 xo 20 (.bin .mul (xi 31) (xt 19)),
 xm 21 0,
 xm 22 4,
 xm 23 4,
 xo 24 (.bin .add (xt 23) (xi 1)),
 ⟨(some 25), .slc false (xt 21) (some (xt 22)) (some (xt 24)) none 7, none, [0, 1, 2, 3, 4, 5]⟩,
 ⟨(some 26), .call 52 [xt 25], none, [0, 1, 2, 3, 4, 5]⟩,
 ⟨(some 27), .call 51 [xt 26], none, [0, 1, 2, 3, 4, 5]⟩,
 xo 28 (.bin .add (xt 20) (xt 27)),
 xo 29 (.bin .rem (xt 28) (xi 9973)),
 xo 30 (.bsl 1 1 [.int .i64 0] [(0, (xt 29))]),
 xo 31 (.app (xt 15) (xt 30) 1 8),
 xm 3 31] [0,3,11,12]
def c34_13 := xQ c34_11 c34_12
def c34_14 := xB 1 c34_13
def c34_15 := xG [xo 32 (.bin .add (xt 12) (xi 1)),
 xm 12 32] [0,3,11,12]
def c34_16 := xQ c34_14 c34_15
def c34_17 := xQ c34_10 c34_16
def c34_18 := xQ c34_9 c34_17
def c34_19 := xL c34_18
def c34_20 := xB 0 c34_19
def c34_21 := xQ c34_8 c34_20
def c34_22 := xG [xm 33 3,
 xm 2 33] [2]
def c34_23 := xQ c34_22 xR
def c34_24 := xQ c34_21 c34_23
def c34_25 := xQ c34_7 c34_24
def c34_26 := xQ c34_6 c34_25
def c34_27 := xQ c34_1 c34_26
abbrev n_impl_DigestList : Nat := 34
theorem k_impl_DigestList : Known Pr mu n_impl_DigestList (c34_27 ()) [.t 2] Go.Proofs.Tryd.f34.ntmps := .of [(0, [0], [], [], []), (1, [0,7], [], [], []), (2, [2], [], [], []), (3, [0,3], [], [], []), (4, [0,3,11,12], [], [], []), (5, [0,3,11,12,13], [], [], []), (6, [0,3,4,11,12], [], [], []), (7, [0,3,11,12], [[],[],[],[0],[0],[],[],[],[],[],[0,1,2,3,4,5],[0,1,2,3,4,5],[0,1,2,3,4,5]], [], []), (8, [0,3,11,12], [], [], []), (9, [2], [], [], [])] hm Go.Proofs.Tryd.func34
def c35_1 := xG [xo 4 (.mv (xb false))] [0,1]
def c35_2 := xG [xm 6 0,
 xo 7 (.len false (xt 6)),
 xm 8 1,
 xo 9 (.len false (xt 8)),
 xo 10 (.bin .neq (xt 7) (xt 9))] [0,1,10]
def c35_3 := xG [xo 4 (.mv (xb false))] [4]
def c35_4 := xQ c35_3 xR
def c35_5 := xC 10 c35_4 xS
def c35_6 := xQ c35_2 c35_5
def c35_7 := xG [xo 5 (.mv (xi 0))] [0,1,5]
def c35_8 := xG [xm 11 5,
 xm 12 0,
 xo 13 (.len false (xt 12)),
 xo 14 (.bin .lss (xt 11) (xt 13))] [0,1,5,14]
def c35_9 := xC 14 xS (xE 0)
def c35_10 := xQ c35_8 c35_9
def c35_11 := xG [xm 17 0,
 xm 18 5,
 xo 19 (.ia (xt 17) (xt 18) 1),
 xo 20 (.ld (xt 19) 1 false),
 xm 21 1,
 xm 22 5,
 ⟨(some 23), .ia (xt 21) (xt 22) 1, none, [0, 1, 2, 3]⟩,
 ⟨(some 24), .ld (xt 23) 1 false, none, [0, 1, 2, 3]⟩,
 xo 25 (.bin .neq (xt 20) (xt 24))] [0,1,5,25]
def c35_12 := xG [xo 4 (.mv (xb false))] [4]
def c35_13 := xQ c35_12 xR
def c35_14 := xC 25 c35_13 xS
def c35_15 := xQ c35_11 c35_14
def c35_16 := xB 1 c35_15
def c35_17 := xG [xm 15 5,
 xo 16 (.bin .add (xt 15) (xi 1)),
 xm 5 16] [0,1,5]
def c35_18 := xQ c35_16 c35_17
def c35_19 := xQ c35_10 c35_18
def c35_20 := xL c35_19
def c35_21 := xB 0 c35_20
def c35_22 := xQ c35_7 c35_21
def c35_23 := xG [xo 4 (.mv (xb true))] [4]
def c35_24 := xQ c35_23 xR
def c35_25 := xQ c35_22 c35_24
def c35_26 := xQ c35_6 c35_25
def c35_27 := xQ c35_1 c35_26
abbrev n_laws_eqIntS : Nat := 35
theorem k_laws_eqIntS : Known Pr mu n_laws_eqIntS (c35_27 ()) [.t 4] Go.Proofs.Tryd.f35.ntmps := .of [(0, [0,1], [], [], []), (1, [0,1,10], [], [], []), (2, [4], [], [], []), (3, [0,1,5], [], [], []), (4, [0,1,5,14], [], [], []), (6, [0,1,5,25], [[],[],[],[],[],[],[0,1,2,3],[0,1,2,3]], [], []), (7, [4], [], [], []), (5, [0,1,5], [], [], []), (8, [4], [], [], [])] hm Go.Proofs.Tryd.func35
def c36_1 := xG [xo 4 (.mv (xb false))] [0,1]
def c36_2 := xG [xm 6 0,
 xo 7 (.len false (xt 6)),
 xm 8 1,
 xo 9 (.len false (xt 8)),
 xo 10 (.bin .neq (xt 7) (xt 9))] [0,1,10]
def c36_3 := xG [xo 4 (.mv (xb false))] [4]
def c36_4 := xQ c36_3 xR
def c36_5 := xC 10 c36_4 xS
def c36_6 := xQ c36_2 c36_5
def c36_7 := xG [xo 5 (.mv (xi 0))] [0,1,5]
def c36_8 := xG [xm 11 5,
 xm 12 0,
 xo 13 (.len false (xt 12)),
 xo 14 (.bin .lss (xt 11) (xt 13))] [0,1,5,14]
def c36_9 := xC 14 xS (xE 0)
def c36_10 := xQ c36_8 c36_9
def c36_11 := xG [xm 17 0,
 xm 18 5,
 xo 19 (.ia (xt 17) (xt 18) 4),
 xo 20 (.ld (xt 19) 4 true),
 xm 21 1,
 xm 22 5,
 ⟨(some 23), .ia (xt 21) (xt 22) 4, none, [0, 1, 2, 3]⟩,
 ⟨(some 24), .ld (xt 23) 4 true, none, [0, 1, 2, 3]⟩,
 xo 25 (.call 53 [xt 20, xt 24]),
 xo 26 (.not (xt 25))] [0,1,5,26]
def c36_12 := xG [xo 4 (.mv (xb false))] [4]
def c36_13 := xQ c36_12 xR
def c36_14 := xC 26 c36_13 xS
def c36_15 := xQ c36_11 c36_14
def c36_16 := xB 1 c36_15
def c36_17 := xG [xm 15 5,
 xo 16 (.bin .add (xt 15) (xi 1)),
 xm 5 16] [0,1,5]
def c36_18 := xQ c36_16 c36_17
def c36_19 := xQ c36_10 c36_18
def c36_20 := xL c36_19
def c36_21 := xB 0 c36_20
def c36_22 := xQ c36_7 c36_21
def c36_23 := xG [xo 4 (.mv (xb true))] [4]
def c36_24 := xQ c36_23 xR
def c36_25 := xQ c36_22 c36_24
def c36_26 := xQ c36_6 c36_25
def c36_27 := xQ c36_1 c36_26
abbrev n_laws_eqSessionS : Nat := 36
theorem k_laws_eqSessionS : Known Pr mu n_laws_eqSessionS (c36_27 ()) [.t 4] Go.Proofs.Tryd.f36.ntmps := .of [(0, [0,1], [], [], []), (1, [0,1,10], [], [], []), (2, [4], [], [], []), (3, [0,1,5], [], [], []), (4, [0,1,5,14], [], [], []), (6, [0,1,5,26], [[],[],[],[],[],[],[0,1,2,3],[0,1,2,3]], [], []), (7, [4], [], [], []), (5, [0,1,5], [], [], []), (8, [4], [], [], [])] hm Go.Proofs.Tryd.func36
def c37_1 := xG [xo 2 (.box (xt 0)),
 xo 3 (.box (xt 1)),
 xo 4 (.mv (xb false))] [2,3]
def c37_2 := xG [xo 5 (.fa (xt 2) 0),
 xo 6 (.ld (xt 5) 1 false),
 xo 7 (.fa (xt 3) 0),
 xo 8 (.ld (xt 7) 1 false),
 xo 9 (.bin .neq (xt 6) (xt 8))] [2,3,9]
def c37_3 := xG [xo 4 (.mv (xb false))] [4]
def c37_4 := xQ c37_3 xR
def c37_5 := xC 9 c37_4 xS
def c37_6 := xQ c37_2 c37_5
def c37_7 := xG [xo 10 (.fa (xt 2) 1),
 xo 11 (.ld (xt 10) 1 false),
 xo 12 (.fa (xt 3) 1),
 xo 13 (.ld (xt 12) 1 false),
 xo 14 (.bin .neq (xt 11) (xt 13))] [2,3,14]
def c37_8 := xG [xo 4 (.mv (xb false))] [4]
def c37_9 := xQ c37_8 xR
def c37_10 := xC 14 c37_9 xS
def c37_11 := xQ c37_7 c37_10
def c37_12 := xG [xo 15 (.fa (xt 2) 2),
 xo 16 (.ld (xt 15) 1 false),
 xo 17 (.fa (xt 3) 2),
 xo 18 (.ld (xt 17) 1 false),
 xo 19 (.bin .neq (xt 16) (xt 18))] [2,3,19]
def c37_13 := xG [xo 4 (.mv (xb false))] [4]
def c37_14 := xQ c37_13 xR
def c37_15 := xC 19 c37_14 xS
def c37_16 := xQ c37_12 c37_15
def c37_17 := xG [xo 20 (.fa (xt 2) 3),
 xo 21 (.ld (xt 20) 1 false),
 xo 22 (.fa (xt 3) 3),
 xo 23 (.ld (xt 22) 1 false),
 xo 24 (.bin .neq (xt 21) (xt 23))] [2,3,24]
def c37_18 := xG [xo 4 (.mv (xb false))] [4]
def c37_19 := xQ c37_18 xR
def c37_20 := xC 24 c37_19 xS
def c37_21 := xQ c37_17 c37_20
def c37_22 := xG [xo 25 (.fa (xt 2) 4),
 xo 26 (.ld (xt 25) 1 false),
 xo 27 (.fa (xt 3) 4),
 xo 28 (.ld (xt 27) 1 false),
 xo 29 (.bin .neq (xt 26) (xt 28))] [2,3,29]
def c37_23 := xG [xo 4 (.mv (xb false))] [4]
def c37_24 := xQ c37_23 xR
def c37_25 := xC 29 c37_24 xS
def c37_26 := xQ c37_22 c37_25
def c37_27 := xG [xo 30 (.fa (xt 2) 5),
 xo 31 (.ld (xt 30) 1 false),
 xo 32 (.fa (xt 3) 5),
 xo 33 (.ld (xt 32) 1 false),
 xo 34 (.bin .neq (xt 31) (xt 33))] [34]
def c37_28 := xG [xo 4 (.mv (xb false))] [4]
def c37_29 := xQ c37_28 xR
def c37_30 := xC 34 c37_29 xS
def c37_31 := xQ c37_27 c37_30
def c37_32 := xG [xo 4 (.mv (xb true))] [4]
def c37_33 := xQ c37_32 xR
def c37_34 := xQ c37_31 c37_33
def c37_35 := xQ c37_26 c37_34
def c37_36 := xQ c37_21 c37_35
def c37_37 := xQ c37_16 c37_36
def c37_38 := xQ c37_11 c37_37
def c37_39 := xQ c37_6 c37_38
def c37_40 := xQ c37_1 c37_39
abbrev n_laws_eqOp : Nat := 37
theorem k_laws_eqOp : Known Pr mu n_laws_eqOp (c37_40 ()) [.t 4] Go.Proofs.Tryd.f37.ntmps := .of [(0, [2,3], [], [], []), (1, [2,3,9], [], [], []), (2, [4], [], [], []), (3, [2,3,14], [], [], []), (4, [4], [], [], []), (5, [2,3,19], [], [], []), (6, [4], [], [], []), (7, [2,3,24], [], [], []), (8, [4], [], [], []), (9, [2,3,29], [], [], []), (10, [4], [], [], []), (11, [34], [], [], []), (12, [4], [], [], []), (13, [4], [], [], [])] hm Go.Proofs.Tryd.func37
def c38_1 := xG [xo 4 (.mv (xi 0))] [0,1]
def c38_2 := xG [xo 5 (.mv (xi 0))] [0,1,5]
def c38_3 := xG [xm 6 5,
 xm 7 0,
 xo 8 (.len false (xt 7)),
 xo 9 (.bin .lss (xt 6) (xt 8))] [0,1,5,9]
def c38_4 := xC 9 xS (xE 0)
def c38_5 := xQ c38_3 c38_4
def c38_6 := xG [xm 12 0,
 xm 13 5,
 xm 14 1,
 xo 15 (.ia (xt 12) (xt 13) 1),
 xn (.sto (xt 15) (xt 14) 1)] [0,1,5]
def c38_7 := xG [xm 16 1,
 xo 17 (.bin .add (xt 16) (xi 1)),
 xm 1 17] [0,1,5]
def c38_8 := xQ c38_6 c38_7
def c38_9 := xB 1 c38_8
def c38_10 := xG [xm 10 5,
 xo 11 (.bin .add (xt 10) (xi 1)),
 xm 5 11] [0,1,5]
def c38_11 := xQ c38_9 c38_10
def c38_12 := xQ c38_5 c38_11
def c38_13 := xL c38_12
def c38_14 := xB 0 c38_13
def c38_15 := xQ c38_2 c38_14
def c38_16 := xG [xm 18 1,
 xm 4 18] [4]
def c38_17 := xQ c38_16 xR
def c38_18 := xQ c38_15 c38_17
def c38_19 := xQ c38_1 c38_18
abbrev n_laws_markIntS : Nat := 38
theorem k_laws_markIntS : Known Pr mu n_laws_markIntS (c38_19 ()) [.t 4] Go.Proofs.Tryd.f38.ntmps := .of [(0, [0,1], [], [], []), (1, [0,1,5], [], [], []), (2, [0,1,5,9], [], [], []), (4, [0,1,5], [], [], []), (5, [0,1,5], [], [], []), (3, [0,1,5], [], [], []), (6, [4], [], [], [])] hm Go.Proofs.Tryd.func38
def c39_1 := xG [xo 4 (.mv (xi 0))] [0,1]
def c39_2 := xG [xo 5 (.mv (xi 0))] [0,1,5]
def c39_3 := xG [xm 6 5,
 xm 7 0,
 xo 8 (.len false (xt 7)),
 xo 9 (.bin .lss (xt 6) (xt 8))] [0,1,5,9]
def c39_4 := xC 9 xS (xE 0)
def c39_5 := xQ c39_3 c39_4
def c39_6 := xG [xm 12 0,
 xm 13 5,
 xm 14 1,
 xo 15 (.ia (xt 12) (xt 13) 4),
 xo 16 (.fa (xt 15) 0),
 xn (.sto (xt 16) (xt 14) 1)] [0,1,5]
def c39_7 := xG [xm 17 1,
 xo 18 (.bin .add (xt 17) (xi 1)),
 xm 1 18] [0,1,5]
def c39_8 := xG [xm 19 0,
 xm 20 5,
 xm 21 1,
 xo 22 (.ia (xt 19) (xt 20) 4),
 xo 23 (.fa (xt 22) 1),
 xn (.sto (xt 23) (xt 21) 1)] [0,1,5]
def c39_9 := xG [xm 24 1,
 xo 25 (.bin .add (xt 24) (xi 1)),
 xm 1 25] [0,1,5]
def c39_10 := xG [xm 26 0,
 xm 27 5,
 xm 28 1,
 xo 29 (.bin .rem (xt 28) (xi 3)),
 xo 30 (.bin .eql (xt 29) (xi 0)),
 xo 31 (.ia (xt 26) (xt 27) 4),
 xo 32 (.fa (xt 31) 2),
 xo 33 (.fa (xt 32) 0),
 xn (.sto (xt 33) (xt 30) 1)] [0,1,5]
def c39_11 := xG [xm 34 1,
 xo 35 (.bin .add (xt 34) (xi 1)),
 xm 1 35] [0,1,5]
def c39_12 := xG [xm 36 0,
 xm 37 5,
 xm 38 1,
 xo 39 (.ia (xt 36) (xt 37) 4),
 xo 40 (.fa (xt 39) 2),
 xo 41 (.fa (xt 40) 1),
 xn (.sto (xt 41) (xt 38) 1)] [0,1,5]
def c39_13 := xG [xm 42 1,
 xo 43 (.bin .add (xt 42) (xi 1)),
 xm 1 43] [0,1,5]
def c39_14 := xQ c39_12 c39_13
def c39_15 := xQ c39_11 c39_14
def c39_16 := xQ c39_10 c39_15
def c39_17 := xQ c39_9 c39_16
def c39_18 := xQ c39_8 c39_17
def c39_19 := xQ c39_7 c39_18
def c39_20 := xQ c39_6 c39_19
def c39_21 := xB 1 c39_20
def c39_22 := xG [xm 10 5,
 xo 11 (.bin .add (xt 10) (xi 1)),
 xm 5 11] [0,1,5]
def c39_23 := xQ c39_21 c39_22
def c39_24 := xQ c39_5 c39_23
def c39_25 := xL c39_24
def c39_26 := xB 0 c39_25
def c39_27 := xQ c39_2 c39_26
def c39_28 := xG [xm 44 1,
 xm 4 44] [4]
def c39_29 := xQ c39_28 xR
def c39_30 := xQ c39_27 c39_29
def c39_31 := xQ c39_1 c39_30
abbrev n_laws_markSessionS : Nat := 39
theorem k_laws_markSessionS : Known Pr mu n_laws_markSessionS (c39_31 ()) [.t 4] Go.Proofs.Tryd.f39.ntmps := .of [(0, [0,1], [], [], []), (1, [0,1,5], [], [], []), (2, [0,1,5,9], [], [], []), (4, [0,1,5], [], [], []), (5, [0,1,5], [], [], []), (6, [0,1,5], [], [], []), (7, [0,1,5], [], [], []), (8, [0,1,5], [], [], []), (9, [0,1,5], [], [], []), (10, [0,1,5], [], [], []), (11, [0,1,5], [], [], []), (3, [0,1,5], [], [], []), (12, [4], [], [], [])] hm Go.Proofs.Tryd.func39
def c40_1 := xG [xo 4 (.mv (xi 0))] [0,1]
def c40_2 := xG [xo 5 (.mv (xi 0))] [0,1,5]
def c40_3 := xG [xm 6 5,
 xm 7 0,
 xo 8 (.len false (xt 7)),
 xo 9 (.bin .lss (xt 6) (xt 8))] [0,1,5,9]
def c40_4 := xC 9 xS (xE 0)
def c40_5 := xQ c40_3 c40_4
def c40_6 := xG [xm 12 0,
 xm 13 5,
 xo 14 (.ia (xt 12) (xt 13) 1),
 xo 15 (.ld (xt 14) 1 false),
 xm 16 1,
 xo 17 (.bin .neq (xt 15) (xt 16))] [0,1,5,17]
def c40_7 := xG [xo 4 (.mv (xi (-1)))] [4]
def c40_8 := xQ c40_7 xR
def c40_9 := xC 17 c40_8 xS
def c40_10 := xQ c40_6 c40_9
def c40_11 := xG [xm 18 1,
 xo 19 (.bin .add (xt 18) (xi 1)),
 xm 1 19] [0,1,5]
def c40_12 := xQ c40_10 c40_11
def c40_13 := xB 1 c40_12
def c40_14 := xG [xm 10 5,
 xo 11 (.bin .add (xt 10) (xi 1)),
 xm 5 11] [0,1,5]
def c40_15 := xQ c40_13 c40_14
def c40_16 := xQ c40_5 c40_15
def c40_17 := xL c40_16
def c40_18 := xB 0 c40_17
def c40_19 := xQ c40_2 c40_18
def c40_20 := xG [xm 20 1,
 xm 4 20] [4]
def c40_21 := xQ c40_20 xR
def c40_22 := xQ c40_19 c40_21
def c40_23 := xQ c40_1 c40_22
abbrev n_laws_heldIntS : Nat := 40
theorem k_laws_heldIntS : Known Pr mu n_laws_heldIntS (c40_23 ()) [.t 4] Go.Proofs.Tryd.f40.ntmps := .of [(0, [0,1], [], [], []), (1, [0,1,5], [], [], []), (2, [0,1,5,9], [], [], []), (4, [0,1,5,17], [], [], []), (5, [4], [], [], []), (6, [0,1,5], [], [], []), (3, [0,1,5], [], [], []), (7, [4], [], [], [])] hm Go.Proofs.Tryd.func40
def c41_1 := xG [xo 4 (.mv (xi 0))] [0,1]
def c41_2 := xG [xo 5 (.mv (xi 0))] [0,1,5]
def c41_3 := xG [xm 6 5,
 xm 7 0,
 xo 8 (.len false (xt 7)),
 xo 9 (.bin .lss (xt 6) (xt 8))] [0,1,5,9]
def c41_4 := xC 9 xS (xE 0)
def c41_5 := xQ c41_3 c41_4
def c41_6 := xG [xm 12 0,
 xm 13 5,
 xo 14 (.ia (xt 12) (xt 13) 4),
 xo 15 (.fa (xt 14) 0),
 xo 16 (.ld (xt 15) 1 false),
 xm 17 1,
 xo 18 (.bin .neq (xt 16) (xt 17))] [0,1,5,18]
def c41_7 := xG [xo 4 (.mv (xi (-1)))] [4]
def c41_8 := xQ c41_7 xR
def c41_9 := xC 18 c41_8 xS
def c41_10 := xQ c41_6 c41_9
def c41_11 := xG [xm 19 1,
 xo 20 (.bin .add (xt 19) (xi 1)),
 xm 1 20] [0,1,5]
def c41_12 := xG [xm 21 0,
 xm 22 5,
 xo 23 (.ia (xt 21) (xt 22) 4),
 xo 24 (.fa (xt 23) 1),
 xo 25 (.ld (xt 24) 1 false),
 xm 26 1,
 xo 27 (.bin .neq (xt 25) (xt 26))] [0,1,5,27]
def c41_13 := xG [xo 4 (.mv (xi (-1)))] [4]
def c41_14 := xQ c41_13 xR
def c41_15 := xC 27 c41_14 xS
def c41_16 := xQ c41_12 c41_15
def c41_17 := xG [xm 28 1,
 xo 29 (.bin .add (xt 28) (xi 1)),
 xm 1 29] [0,1,5]
def c41_18 := xG [xm 30 0,
 xm 31 5,
 xo 32 (.ia (xt 30) (xt 31) 4),
 xo 33 (.fa (xt 32) 2),
 xo 34 (.fa (xt 33) 0),
 xo 35 (.ld (xt 34) 1 false),
 xm 36 1,
 xo 37 (.bin .rem (xt 36) (xi 3)),
 xo 38 (.bin .eql (xt 37) (xi 0)),
 xo 39 (.bbin .neq (xt 35) (xt 38))] [0,1,5,39]
def c41_19 := xG [xo 4 (.mv (xi (-1)))] [4]
def c41_20 := xQ c41_19 xR
def c41_21 := xC 39 c41_20 xS
def c41_22 := xQ c41_18 c41_21
def c41_23 := xG [xm 40 1,
 xo 41 (.bin .add (xt 40) (xi 1)),
 xm 1 41] [0,1,5]
def c41_24 := xG [xm 42 0,
 xm 43 5,
 xo 44 (.ia (xt 42) (xt 43) 4),
 xo 45 (.fa (xt 44) 2),
 xo 46 (.fa (xt 45) 1),
 xo 47 (.ld (xt 46) 1 false),
 xm 48 1,
 xo 49 (.bin .neq (xt 47) (xt 48))] [0,1,5,49]
def c41_25 := xG [xo 4 (.mv (xi (-1)))] [4]
def c41_26 := xQ c41_25 xR
def c41_27 := xC 49 c41_26 xS
def c41_28 := xQ c41_24 c41_27
def c41_29 := xG [xm 50 1,
 xo 51 (.bin .add (xt 50) (xi 1)),
 xm 1 51] [0,1,5]
def c41_30 := xQ c41_28 c41_29
def c41_31 := xQ c41_23 c41_30
def c41_32 := xQ c41_22 c41_31
def c41_33 := xQ c41_17 c41_32
def c41_34 := xQ c41_16 c41_33
def c41_35 := xQ c41_11 c41_34
def c41_36 := xQ c41_10 c41_35
def c41_37 := xB 1 c41_36
def c41_38 := xG [xm 10 5,
 xo 11 (.bin .add (xt 10) (xi 1)),
 xm 5 11] [0,1,5]
def c41_39 := xQ c41_37 c41_38
def c41_40 := xQ c41_5 c41_39
def c41_41 := xL c41_40
def c41_42 := xB 0 c41_41
def c41_43 := xQ c41_2 c41_42
def c41_44 := xG [xm 52 1,
 xm 4 52] [4]
def c41_45 := xQ c41_44 xR
def c41_46 := xQ c41_43 c41_45
def c41_47 := xQ c41_1 c41_46
abbrev n_laws_heldSessionS : Nat := 41
theorem k_laws_heldSessionS : Known Pr mu n_laws_heldSessionS (c41_47 ()) [.t 4] Go.Proofs.Tryd.f41.ntmps := .of [(0, [0,1], [], [], []), (1, [0,1,5], [], [], []), (2, [0,1,5,9], [], [], []), (4, [0,1,5,18], [], [], []), (5, [4], [], [], []), (6, [0,1,5], [], [], []), (7, [0,1,5,27], [], [], []), (8, [4], [], [], []), (9, [0,1,5], [], [], []), (10, [0,1,5,39], [], [], []), (11, [4], [], [], []), (12, [0,1,5], [], [], []), (13, [0,1,5,49], [], [], []), (14, [4], [], [], []), (15, [0,1,5], [], [], []), (3, [0,1,5], [], [], []), (16, [4], [], [], [])] hm Go.Proofs.Tryd.func41
def c42_1 := xG [xo 1 (.box (xt 0)),
 xo 2 (.alloc [.slice none 0 0, .slice none 0 0])] [1,2]
def c42_2 := xG [xo 3 (.bsl 1 0 [.int .i64 0] []),
 ⟨(some 4), .fa (xt 1) 0, none, [0]⟩,
 ⟨(some 5), .ld (xt 4) 1 false, none, [0]⟩,
 ⟨(some 6), .appn (xt 3) (xt 5) 1 8, none, [1000000]⟩,
 xo 7 (.bsl 4 0 [.int .i64 0, .int .i64 0, .bool false, .int .i64 0] []),
 ⟨(some 8), .fa (xt 1) 1, none, [0, 1, 2, 3, 4]⟩,
 ⟨(some 9), .ld (xt 8) 1 false, none, [0, 1, 2, 3, 4]⟩,
 ⟨(some 10), .appn (xt 7) (xt 9) 4 32, none, [1000000]⟩,
 xo 11 (.bld [.slice none 0 0, .slice none 0 0] [(0, 1, (xt 6)), (1, 1, (xt 10))]),
 xn (.sto (xt 2) (xt 11) 2)] [2]
def c42_3 := xQ c42_2 xR
def c42_4 := xQ c42_1 c42_3
abbrev n_spec_l4Copy : Nat := 42
theorem k_spec_l4Copy : Known Pr mu n_spec_l4Copy (c42_4 ()) [.c 2 2 true] Go.Proofs.Tryd.f42.ntmps := .of [(0, [1,2], [], [], []), (1, [2], [[],[0],[0],[1000000],[],[0,1,2,3,4],[0,1,2,3,4],[1000000]], [], [])] hm Go.Proofs.Tryd.func42
def c43_1 := xG [xo 1 (.box (xt 0)),
 xo 2 (.mv (xb false))] [1]
def c43_2 := xG [xo 3 (.mv (xi 0))] [1,3]
def c43_3 := xG [xm 6 3,
 xo 7 (.fa (xt 1) 0),
 xo 8 (.ld (xt 7) 1 false),
 xo 9 (.len false (xt 8)),
 xo 10 (.bin .lss (xt 6) (xt 9))] [1,3,10]
def c43_4 := xC 10 xS (xE 0)
def c43_5 := xQ c43_3 c43_4
def c43_6 := xG [xo 13 (.fa (xt 1) 0),
 xo 14 (.ld (xt 13) 1 false),
 xm 15 3,
 xo 16 (.ia (xt 14) (xt 15) 1),
 xo 17 (.ld (xt 16) 1 false),
 xo 18 (.call 14 [xt 17, xi 0, xi 9]),
 xo 19 (.not (xt 18))] [1,3,19]
def c43_7 := xG [xo 2 (.mv (xb false))] [2]
def c43_8 := xQ c43_7 xR
def c43_9 := xC 19 c43_8 xS
def c43_10 := xQ c43_6 c43_9
def c43_11 := xB 1 c43_10
def c43_12 := xG [xm 11 3,
 xo 12 (.bin .add (xt 11) (xi 1)),
 xm 3 12] [1,3]
def c43_13 := xQ c43_11 c43_12
def c43_14 := xQ c43_5 c43_13
def c43_15 := xL c43_14
def c43_16 := xB 0 c43_15
def c43_17 := xQ c43_2 c43_16
def c43_18 := xG [xo 4 (.mv (xi 0))] [1,4]
def c43_19 := xG [xm 20 4,
 xo 21 (.fa (xt 1) 1),
 xo 22 (.ld (xt 21) 1 false),
 xo 23 (.len false (xt 22)),
 xo 24 (.bin .lss (xt 20) (xt 23))] [1,4,24]
def c43_20 := xC 24 xS (xE 2)
def c43_21 := xQ c43_19 c43_20
def c43_22 := xG [xo 27 (.fa (xt 1) 1),
 xo 28 (.ld (xt 27) 1 false),
 xm 29 4,
 xo 30 (.ia (xt 28) (xt 29) 4),
 xo 31 (.ld (xt 30) 4 true),
 xo 5 (.alloc [.int .i64 0, .int .i64 0, .bool false, .int .i64 0]),
 xn (.sto (xt 5) (xt 31) 4)] [1,4,5]
def c43_23 := xG [xo 32 (.fa (xt 5) 0),
 xo 33 (.ld (xt 32) 1 false),
 xo 34 (.call 14 [xt 33, xi 0, xi 2]),
 xo 35 (.not (xt 34)),
 xm 36 35,
 xF 37 36 (.fa (xt 5) 1),
 xF 38 36 (.ld (xt 37) 1 false),
 xF 39 36 (.call 14 [xt 38, xi 1, xi 99]),
 xF 40 36 (.not (xt 39)),
 xo 41 (.pick (xt 36) (xb true) (xt 40)),
 xm 42 41,
 xF 43 42 (.fa (xt 5) 2),
 xF 44 42 (.fa (xt 43) 1),
 xF 45 42 (.ld (xt 44) 1 false),
 xF 46 42 (.call 14 [xt 45, xi 0, xi 9]),
 xF 47 42 (.not (xt 46)),
 xo 48 (.pick (xt 42) (xb true) (xt 47)),
 xm 49 48,
 xF 50 49 (.mv (xt 4)),
 xF 51 49 (.bin .gtr (xt 50) (xi 0)),
 xF 52 49 (.mv (xt 51)),
 xT 53 52 (.fa (xt 1) 1),
 xT 54 52 (.ld (xt 53) 1 false),
 xT 55 52 (.mv (xt 4)),
 xT 56 52 (.bin .sub (xt 55) (xi 1)),
 xT 57 52 (.ia (xt 54) (xt 56) 4),
 xT 58 52 (.fa (xt 57) 0),
 xT 59 52 (.ld (xt 58) 1 false),
 ⟨(some 60), .fa (xt 5) 0, (some (52, true)), [21, 22, 23, 24, 25, 26, 27]⟩,
 ⟨(some 61), .ld (xt 60) 1 false, (some (52, true)), [21, 22, 23, 24, 25, 26, 27]⟩,
 xT 62 52 (.bin .geq (xt 59) (xt 61)),
 xF 63 49 (.pick (xt 52) (xt 62) (xb false)),
 xo 64 (.pick (xt 49) (xb true) (xt 63))] [1,4,64]
def c43_24 := xG [xo 2 (.mv (xb false))] [2]
def c43_25 := xQ c43_24 xR
def c43_26 := xC 64 c43_25 xS
def c43_27 := xQ c43_23 c43_26
def c43_28 := xQ c43_22 c43_27
def c43_29 := xB 3 c43_28
def c43_30 := xG [xm 25 4,
 xo 26 (.bin .add (xt 25) (xi 1)),
 xm 4 26] [1,4]
def c43_31 := xQ c43_29 c43_30
def c43_32 := xQ c43_21 c43_31
def c43_33 := xL c43_32
def c43_34 := xB 2 c43_33
def c43_35 := xQ c43_18 c43_34
def c43_36 := xG [xo 65 (.fa (xt 1) 0),
 xo 66 (.ld (xt 65) 1 false),
 xo 67 (.len false (xt 66)),
 xo 68 (.bin .eql (xt 67) (xi 3)),
 xm 2 68] [2]
def c43_37 := xQ c43_36 xR
def c43_38 := xQ c43_35 c43_37
def c43_39 := xQ c43_17 c43_38
def c43_40 := xQ c43_1 c43_39
abbrev n_spec_IsValidMachine : Nat := 43
theorem k_spec_IsValidMachine : Known Pr mu n_spec_IsValidMachine (c43_40 ()) [.t 2] Go.Proofs.Tryd.f43.ntmps := .of [(0, [1], [], [], []), (1, [1,3], [], [], []), (2, [1,3,10], [], [], []), (4, [1,3,19], [], [], []), (5, [2], [], [], []), (3, [1,3], [], [], []), (6, [1,4], [], [], []), (7, [1,4,24], [], [], []), (9, [1,4,5], [], [], []), (10, [1,4,64], [[],[],[],[],[],[],[],[],[],[],[],[],[],[],[],[],[],[],[],[],[],[],[],[],[],[],[],[],[21,22,23,24,25,26,27],[21,22,23,24,25,26,27]], [], []), (11, [2], [], [], []), (8, [1,4], [], [], []), (12, [2], [], [], [])] hm Go.Proofs.Tryd.func43
def c44_1 := xG [xo 2 (.box (xt 0)),
 xo 4 (.alloc [.int .i64 0, .int .i64 0, .bool false, .int .i64 0]),
 xo 5 (.mv (xb false))] [1,2,4]
def c44_2 := xG [xo 6 (.mv (xi 0))] [1,2,4,6]
def c44_3 := xG [xm 7 6,
 xo 8 (.fa (xt 2) 1),
 xo 9 (.ld (xt 8) 1 false),
 xo 10 (.len false (xt 9)),
 xo 11 (.bin .lss (xt 7) (xt 10))] [1,2,4,6,11]
def c44_4 := xC 11 xS (xE 0)
def c44_5 := xQ c44_3 c44_4
def c44_6 := xG [xo 14 (.fa (xt 2) 1),
 xo 15 (.ld (xt 14) 1 false),
 xm 16 6,
 xo 17 (.ia (xt 15) (xt 16) 4),
 xo 18 (.fa (xt 17) 0),
 xo 19 (.ld (xt 18) 1 false),
 xm 20 1,
 xo 21 (.bin .eql (xt 19) (xt 20))] [1,2,4,6,21]
def c44_7 := xG [xo 22 (.fa (xt 2) 1),
 xo 23 (.ld (xt 22) 1 false),
 xm 24 6,
 xo 25 (.ia (xt 23) (xt 24) 4),
 xo 26 (.ld (xt 25) 4 true),
 xn (.sto (xt 4) (xt 26) 4),
 xo 5 (.mv (xb true))] [4,5]
def c44_8 := xQ c44_7 xR
def c44_9 := xC 21 c44_8 xS
def c44_10 := xQ c44_6 c44_9
def c44_11 := xB 1 c44_10
def c44_12 := xG [xm 12 6,
 xo 13 (.bin .add (xt 12) (xi 1)),
 xm 6 13] [1,2,4,6]
def c44_13 := xQ c44_11 c44_12
def c44_14 := xQ c44_5 c44_13
def c44_15 := xL c44_14
def c44_16 := xB 0 c44_15
def c44_17 := xQ c44_2 c44_16
def c44_18 := xG [xo 27 (.bld [.int .i64 0, .int .i64 0, .bool false, .int .i64 0] []),
 xn (.sto (xt 4) (xt 27) 4),
 xo 5 (.mv (xb false))] [4,5]
def c44_19 := xQ c44_18 xR
def c44_20 := xQ c44_17 c44_19
def c44_21 := xQ c44_1 c44_20
abbrev n_spec_SessionOf : Nat := 44
theorem k_spec_SessionOf : Known Pr mu n_spec_SessionOf (c44_21 ()) [.c 4 4 true, .t 5] Go.Proofs.Tryd.f44.ntmps := .of [(0, [1,2,4], [], [], []), (1, [1,2,4,6], [], [], []), (2, [1,2,4,6,11], [], [], []), (4, [1,2,4,6,21], [], [], []), (5, [4,5], [], [], []), (3, [1,2,4,6], [], [], []), (6, [4,5], [], [], [])] hm Go.Proofs.Tryd.func44
def c45_1 := xG [xo 2 (.mv (xi 0))] [0]
def c45_2 := xG [xo 3 (.mv (xi 5))] [0,3]
def c45_3 := xG [xo 4 (.mv (xi 0))] [0,3,4]
def c45_4 := xG [xm 5 4,
 xm 6 0,
 xo 7 (.len true (xt 6)),
 xo 8 (.bin .lss (xt 5) (xt 7))] [0,3,4,8]
def c45_5 := xC 8 xS (xE 0)
def c45_6 := xQ c45_4 c45_5
def c45_7 := xG [xm 11 3,
 xo 12 (.bin .mul (xt 11) (xi 257)),
 xm 13 0,
 xm 14 4,
 xo 15 (.sidx (xt 13) (xt 14)),
 xo 16 (.conv .i64 (xt 15)),
 xo 17 (.bin .add (xt 12) (xt 16)),
 xo 18 (.bin .add (xt 17) (xi 1)),
 xo 19 (.bin .rem (xt 18) (xi 9949)),
 xm 3 19] [0,3,4]
def c45_8 := xB 1 c45_7
def c45_9 := xG [xm 9 4,
 xo 10 (.bin .add (xt 9) (xi 1)),
 xm 4 10] [0,3,4]
def c45_10 := xQ c45_8 c45_9
def c45_11 := xQ c45_6 c45_10
def c45_12 := xL c45_11
def c45_13 := xB 0 c45_12
def c45_14 := xQ c45_3 c45_13
def c45_15 := xG [xm 20 3,
 xm 2 20] [2]
def c45_16 := xQ c45_15 xR
def c45_17 := xQ c45_14 c45_16
def c45_18 := xQ c45_2 c45_17
def c45_19 := xQ c45_1 c45_18
abbrev n_spec_Checksum : Nat := 45
theorem k_spec_Checksum : Known Pr mu n_spec_Checksum (c45_19 ()) [.t 2] Go.Proofs.Tryd.f45.ntmps := .of [(0, [0], [], [], []), (1, [0,3], [], [], []), (2, [0,3,4], [], [], []), (3, [0,3,4,8], [], [], []), (5, [0,3,4], [], [], []), (4, [0,3,4], [], [], []), (6, [2], [], [], [])] hm Go.Proofs.Tryd.func45
def c46_1 := xG [xo 2 (.mv (.const (.string ⟨#[]⟩)))] [0]
def c46_2 := xG [xm 5 0,
 xo 6 (.call 13 [xt 5]),
 xo 7 (.not (xt 6))] [0,7]
def c46_3 := xG [xo 2 (.mv (.const (.string ⟨#[]⟩)))] [2]
def c46_4 := xQ c46_3 xR
def c46_5 := xC 7 c46_4 xS
def c46_6 := xQ c46_2 c46_5
def c46_7 := xG [xm 8 0,
 xo 9 (.len false (xt 8)),
 xo 10 (.bin .eql (xt 9) (xi 0))] [0,10]
def c46_8 := xG [xo 2 (.mv (.const (.string ⟨#[110, 111, 110, 101]⟩)))] [2]
def c46_9 := xQ c46_8 xR
def c46_10 := xC 10 c46_9 xS
def c46_11 := xQ c46_7 c46_10
def c46_12 := xG [xo 3 (.mv (.const (.string ⟨#[]⟩)))] [0,3]
def c46_13 := xG [xo 4 (.mv (xi 0))] [0,3,4]
def c46_14 := xG [xm 11 4,
 xm 12 0,
 xo 13 (.len false (xt 12)),
 xo 14 (.bin .lss (xt 11) (xt 13))] [0,3,4,14]
def c46_15 := xC 14 xS (xE 0)
def c46_16 := xQ c46_14 c46_15
def c46_17 := xG [xm 17 4,
 xo 18 (.bin .gtr (xt 17) (xi 0))] [0,3,4,18]
def c46_18 := xG [xm 19 3,
 xo 20 (.bin .add (xt 19) (.const (.string ⟨#[59]⟩))),
 xm 3 20] [0,3,4]
def c46_19 := xC 18 c46_18 xS
def c46_20 := xQ c46_17 c46_19
def c46_21 := xG [xm 21 3,
 xm 22 0,
 xm 23 4,
 ⟨(some 24), .ia (xt 22) (xt 23) 7, none, [0]⟩,
 ⟨(some 25), .fa (xt 24) 0, none, [0]⟩,
 ⟨(some 26), .ld (xt 25) 1 false, none, [0]⟩,
 ⟨(some 27), .call 54 [xt 26], none, [0]⟩,
 xo 28 (.bin .add (xt 21) (xt 27)),
 xo 29 (.bin .add (xt 28) (.const (.string ⟨#[58]⟩))),
 xm 30 0,
 xm 31 4,
 ⟨(some 32), .ia (xt 30) (xt 31) 7, none, [0, 1, 2, 3, 4, 5, 6, 7, 8]⟩,
 ⟨(some 33), .fa (xt 32) 1, none, [0, 1, 2, 3, 4, 5, 6, 7, 8]⟩,
 ⟨(some 34), .ld (xt 33) 6 true, none, [0, 1, 2, 3, 4, 5, 6, 7, 8]⟩,
 ⟨(some 35), .call 55 [xt 34], none, [0, 7, 8]⟩,
 xo 36 (.bin .add (xt 29) (xt 35)),
 xm 3 36] [0,3,4]
def c46_22 := xQ c46_20 c46_21
def c46_23 := xB 1 c46_22
def c46_24 := xG [xm 15 4,
 xo 16 (.bin .add (xt 15) (xi 1)),
 xm 4 16] [0,3,4]
def c46_25 := xQ c46_23 c46_24
def c46_26 := xQ c46_16 c46_25
def c46_27 := xL c46_26
def c46_28 := xB 0 c46_27
def c46_29 := xQ c46_13 c46_28
def c46_30 := xG [xm 37 3,
 xm 2 37] [2]
def c46_31 := xQ c46_30 xR
def c46_32 := xQ c46_29 c46_31
def c46_33 := xQ c46_12 c46_32
def c46_34 := xQ c46_11 c46_33
def c46_35 := xQ c46_6 c46_34
def c46_36 := xQ c46_1 c46_35
abbrev n_spec_FormatLog : Nat := 46
theorem k_spec_FormatLog : Known Pr mu n_spec_FormatLog (c46_36 ()) [.t 2] Go.Proofs.Tryd.f46.ntmps := .of [(0, [0], [], [], []), (1, [0,7], [], [], []), (2, [2], [], [], []), (3, [0,10], [], [], []), (4, [2], [], [], []), (5, [0,3], [], [], []), (6, [0,3,4], [], [], []), (7, [0,3,4,14], [], [], []), (9, [0,3,4,18], [], [], []), (10, [0,3,4], [], [], []), (11, [0,3,4], [[],[],[],[0],[0],[0],[0],[],[],[],[],[0,1,2,3,4,5,6,7,8],[0,1,2,3,4,5,6,7,8],[0,1,2,3,4,5,6,7,8],[0,7,8]], [], []), (8, [0,3,4], [], [], []), (12, [2], [], [], [])] hm Go.Proofs.Tryd.func46
def c47_1 := xG [xo 1 (.box (xt 0)),
 xo 2 (.alloc [.slice none 0 0, .slice none 0 0])] [1,2]
def c47_2 := xG [xo 3 (.fa (xt 1) 0),
 xo 4 (.ld (xt 3) 1 false),
 xo 5 (.call 56 [xt 4]),
 ⟨(some 6), .fa (xt 1) 1, none, [0, 1, 2]⟩,
 ⟨(some 7), .ld (xt 6) 1 false, none, [0, 1, 2]⟩,
 xo 8 (.call 57 [xt 7]),
 xo 9 (.bld [.slice none 0 0, .slice none 0 0] [(0, 1, (xt 5)), (1, 1, (xt 8))]),
 xn (.sto (xt 2) (xt 9) 2)] [2]
def c47_3 := xQ c47_2 xR
def c47_4 := xQ c47_1 c47_3
abbrev n_impl_machineCopy : Nat := 47
theorem k_impl_machineCopy : Known Pr mu n_impl_machineCopy (c47_4 ()) [.c 2 2 true] Go.Proofs.Tryd.f47.ntmps := .of [(0, [1,2], [], [], []), (1, [2], [[],[],[],[0,1,2],[0,1,2]], [], [])] hm Go.Proofs.Tryd.func47
def c48_1 := xG [xo 2 (.box (xt 0)),
 xo 4 (.alloc [.int .i64 0, .int .i64 0, .bool false, .int .i64 0]),
 xo 5 (.mv (xb false))] [1,2,4]
def c48_2 := xG [xo 8 (.fa (xt 2) 1),
 xo 9 (.ld (xt 8) 1 false),
 xo 10 (.len false (xt 9)),
 xo 11 (.mv (xi 0))] [1,4,9,10,11]
def c48_3 := xG [xo 12 (.bin .lss (xt 11) (xt 10))] [1,4,9,10,11,12]
def c48_4 := xC 12 xS (xE 0)
def c48_5 := xG [xo 13 (.ia (xt 9) (xt 11) 4),
 xo 14 (.ld (xt 13) 4 true),
 xo 7 (.alloc [.int .i64 0, .int .i64 0, .bool false, .int .i64 0]),
 xn (.sto (xt 7) (xt 14) 4)] [1,4,7,9,10,11]
def c48_6 := xG [xo 15 (.fa (xt 7) 0),
 xo 16 (.ld (xt 15) 1 false),
 xm 17 1,
 xo 18 (.bin .eql (xt 16) (xt 17))] [1,4,7,9,10,11,18]
def c48_7 := xG [xo 19 (.ld (xt 7) 4 true),
 xn (.sto (xt 4) (xt 19) 4),
 xo 5 (.mv (xb true))] [4,5]
def c48_8 := xQ c48_7 xR
def c48_9 := xC 18 c48_8 xS
def c48_10 := xQ c48_6 c48_9
def c48_11 := xQ c48_5 c48_10
def c48_12 := xB 1 c48_11
def c48_13 := xG [xo 20 (.bin .add (xt 11) (xi 1)),
 xm 11 20] [1,4,9,10,11]
def c48_14 := xQ c48_12 c48_13
def c48_15 := xQ c48_4 c48_14
def c48_16 := xQ c48_3 c48_15
def c48_17 := xL c48_16
def c48_18 := xB 0 c48_17
def c48_19 := xQ c48_2 c48_18
def c48_20 := xG [xo 21 (.bld [.int .i64 0, .int .i64 0, .bool false, .int .i64 0] []),
 xn (.sto (xt 4) (xt 21) 4),
 xo 5 (.mv (xb false))] [4,5]
def c48_21 := xQ c48_20 xR
def c48_22 := xQ c48_19 c48_21
def c48_23 := xQ c48_1 c48_22
abbrev n_impl_SessionOf : Nat := 48
theorem k_impl_SessionOf : Known Pr mu n_impl_SessionOf (c48_23 ()) [.c 4 4 true, .t 5] Go.Proofs.Tryd.f48.ntmps := .of [(0, [1,2,4], [], [], []), (1, [1,4,9,10,11], [], [], []), (2, [1,4,9,10,11,12], [], [], []), (3, [1,4,7,9,10,11], [], [], []), (4, [1,4,7,9,10,11,18], [], [], []), (5, [4,5], [], [], []), (6, [1,4,9,10,11], [], [], []), (7, [4,5], [], [], [])] hm Go.Proofs.Tryd.func48
def c49_1 := xG [xo 1 (.box (xt 0)),
 xo 2 (.mv (xb false))] [1]
def c49_2 := xG [xo 5 (.fa (xt 1) 0),
 xo 6 (.ld (xt 5) 1 false),
 xo 7 (.len false (xt 6)),
 xo 8 (.bin .neq (xt 7) (xi 3)),
 xm 9 8,
 xF 10 9 (.fa (xt 1) 0),
 xF 11 9 (.ld (xt 10) 1 false),
 xF 12 9 (.call 58 [xt 11, (.func 59)]),
 xo 13 (.pick (xt 9) (xb true) (xt 12))] [1,13]
def c49_3 := xG [xo 2 (.mv (xb false))] [2]
def c49_4 := xQ c49_3 xR
def c49_5 := xC 13 c49_4 xS
def c49_6 := xQ c49_2 c49_5
def c49_7 := xG [xo 14 (.fa (xt 1) 1),
 xo 15 (.ld (xt 14) 1 false),
 xo 16 (.len false (xt 15)),
 xo 17 (.mv (xi 0))] [1,15,16,17]
def c49_8 := xG [xo 18 (.bin .lss (xt 17) (xt 16))] [1,15,16,17,18]
def c49_9 := xC 18 xS (xE 0)
def c49_10 := xG [xm 19 17,
 xo 20 (.ia (xt 15) (xt 17) 4),
 xo 21 (.ld (xt 20) 4 true),
 xo 4 (.alloc [.int .i64 0, .int .i64 0, .bool false, .int .i64 0]),
 xm 3 19,
 xn (.sto (xt 4) (xt 21) 4)] [1,3,4,15,16,17]
def c49_11 := xG [xo 22 (.fa (xt 4) 0),
 xo 23 (.ld (xt 22) 1 false),
 xo 24 (.call 19 [xt 23, xi 0, xi 2]),
 xo 25 (.not (xt 24)),
 xm 26 25,
 xF 27 26 (.mv (xt 3)),
 xF 28 26 (.bin .gtr (xt 27) (xi 0)),
 xF 29 26 (.mv (xt 28)),
 xT 30 29 (.fa (xt 4) 0),
 xT 31 29 (.ld (xt 30) 1 false),
 ⟨(some 32), .fa (xt 1) 1, (some (29, true)), [8, 9]⟩,
 ⟨(some 33), .ld (xt 32) 1 false, (some (29, true)), [8, 9]⟩,
 xT 34 29 (.mv (xt 3)),
 xT 35 29 (.bin .sub (xt 34) (xi 1)),
 ⟨(some 36), .ia (xt 33) (xt 35) 4, (some (29, true)), [8, 9]⟩,
 ⟨(some 37), .fa (xt 36) 0, (some (29, true)), [8, 9]⟩,
 ⟨(some 38), .ld (xt 37) 1 false, (some (29, true)), [8, 9]⟩,
 xT 39 29 (.bin .leq (xt 31) (xt 38)),
 xF 40 26 (.pick (xt 29) (xt 39) (xb false)),
 xo 41 (.pick (xt 26) (xb true) (xt 40)),
 xm 42 41,
 xF 43 42 (.fa (xt 4) 1),
 xF 44 42 (.ld (xt 43) 1 false),
 xF 45 42 (.call 19 [xt 44, xi 1, xi 99]),
 xF 46 42 (.not (xt 45)),
 xo 47 (.pick (xt 42) (xb true) (xt 46)),
 xm 48 47,
 xF 49 48 (.fa (xt 4) 2),
 xF 50 48 (.fa (xt 49) 1),
 xF 51 48 (.ld (xt 50) 1 false),
 xF 52 48 (.call 19 [xt 51, xi 0, xi 9]),
 xF 53 48 (.not (xt 52)),
 xo 54 (.pick (xt 48) (xb true) (xt 53))] [1,15,16,17,54]
def c49_12 := xG [xo 2 (.mv (xb false))] [2]
def c49_13 := xQ c49_12 xR
def c49_14 := xC 54 c49_13 xS
def c49_15 := xQ c49_11 c49_14
def c49_16 := xQ c49_10 c49_15
def c49_17 := xB 1 c49_16
def c49_18 := xG [xo 55 (.bin .add (xt 17) (xi 1)),
 xm 17 55] [1,15,16,17]
def c49_19 := xQ c49_17 c49_18
def c49_20 := xQ c49_9 c49_19
def c49_21 := xQ c49_8 c49_20
def c49_22 := xL c49_21
def c49_23 := xB 0 c49_22
def c49_24 := xQ c49_7 c49_23
def c49_25 := xG [xo 2 (.mv (xb true))] [2]
def c49_26 := xQ c49_25 xR
def c49_27 := xQ c49_24 c49_26
def c49_28 := xQ c49_6 c49_27
def c49_29 := xQ c49_1 c49_28
abbrev n_impl_IsValidMachine : Nat := 49
theorem k_impl_IsValidMachine : Known Pr mu n_impl_IsValidMachine (c49_29 ()) [.t 2] Go.Proofs.Tryd.f49.ntmps := .of [(0, [1], [], [], []), (1, [1,13], [], [], []), (2, [2], [], [], []), (3, [1,15,16,17], [], [], []), (4, [1,15,16,17,18], [], [], []), (5, [1,3,4,15,16,17], [], [], []), (6, [1,15,16,17,54], [[],[],[],[],[],[],[],[],[],[],[8,9],[8,9],[],[],[8,9],[8,9],[8,9]], [], []), (7, [2], [], [], []), (8, [1,15,16,17], [], [], []), (9, [2], [], [], [])] hm Go.Proofs.Tryd.func49
def c50_1 := xG [xo 6 (.mv (.const (.slice none 0 0)))] [0,1,2]
def c50_2 := xG [xm 10 0,
 xm 11 1,
 xo 12 (.slc false (xt 10) (some (xt 11)) none none 4)] [0,1,2]
def c50_3 := xG [xm 13 2,
 xo 14 (.len false (xt 13)),
 xm 7 14] [0,1,2,7]
def c50_4 := xG [xm 15 7,
 xo 16 (.bin .eql (xt 15) (xi 0))] [0,1,2,7,16]
def c50_5 := xG [xm 17 0,
 xm 6 17] [6]
def c50_6 := xQ c50_5 xR
def c50_7 := xC 16 c50_6 xS
def c50_8 := xQ c50_4 c50_7
def c50_9 := xG [xm 18 0,
 xo 19 (.len false (xt 18)),
 xm 8 19] [0,1,2,7,8]
def c50_10 := xG [xm 20 1,
 xm 21 8,
 xo 22 (.bin .eql (xt 20) (xt 21))] [0,1,2,7,8,22]
def c50_11 := xG [xm 23 0,
 xm 24 2,
 xo 25 (.app (xt 23) (xt 24) 4 32),
 xm 6 25] [6]
def c50_12 := xQ c50_11 xR
def c50_13 := xC 22 c50_12 xS
def c50_14 := xQ c50_10 c50_13
def c50_15 := xG [xm 26 8,
 xm 27 7,
 xo 28 (.bin .add (xt 26) (xt 27)),
 xm 29 0,
 xo 30 (.cap (xt 29)),
 xo 31 (.bin .gtr (xt 28) (xt 30))] [0,1,2,7,8,31]
def c50_16 := xG [xm 32 0,
 xm 33 1,
 xo 34 (.slc false (xt 32) none (some (xt 33)) none 4),
 xm 35 8,
 xm 36 7,
 xo 37 (.bin .add (xt 35) (xt 36)),
 xm 38 1,
 xo 39 (.bin .sub (xt 37) (xt 38)),
 xo 40 (.appz (xt 34) (xt 39) 4 32 [.int .i64 0, .int .i64 0, .bool false, .int .i64 0]),
 xm 9 40] [0,1,2,7,9]
def c50_17 := xG [xm 41 9,
 xm 42 1,
 xo 43 (.slc false (xt 41) (some (xt 42)) none none 4),
 xm 44 2,
 xo 45 (.no)] [0,1,7,9]
def c50_18 := xG [xm 46 9,
 xm 47 1,
 xm 48 7,
 xo 49 (.bin .add (xt 47) (xt 48)),
 xo 50 (.slc false (xt 46) (some (xt 49)) none none 4),
 xm 51 0,
 xm 52 1,
 ⟨(some 53), .slc false (xt 51) (some (xt 52)) none none 4, none, [0, 1, 2, 3, 4]⟩,
 xo 54 (.no)] [9]
def c50_19 := xG [xm 55 9,
 xm 6 55] [6]
def c50_20 := xQ c50_19 xR
def c50_21 := xQ c50_18 c50_20
def c50_22 := xQ c50_17 c50_21
def c50_23 := xQ c50_16 c50_22
def c50_24 := xC 31 c50_23 xS
def c50_25 := xQ c50_15 c50_24
def c50_26 := xG [xm 56 0,
 xm 57 8,
 xm 58 7,
 xo 59 (.bin .add (xt 57) (xt 58)),
 xo 60 (.slc false (xt 56) none (some (xt 59)) none 4),
 xm 0 60] [0,1,2,7,8]
def c50_27 := xG [xm 61 2,
 xm 62 0,
 xm 63 1,
 xm 64 7,
 xo 65 (.bin .add (xt 63) (xt 64)),
 xo 66 (.slc false (xt 62) (some (xt 65)) none none 4),
 xo 67 (.call 60 [xt 61, xt 66]),
 xo 68 (.not (xt 67))] [0,1,2,7,8,68]
def c50_28 := xG [xm 69 0,
 xm 70 1,
 xm 71 7,
 xo 72 (.bin .add (xt 70) (xt 71)),
 xo 73 (.slc false (xt 69) (some (xt 72)) none none 4),
 xm 74 0,
 xm 75 1,
 ⟨(some 76), .slc false (xt 74) (some (xt 75)) none none 4, none, [0, 1, 2, 3, 4]⟩,
 xo 77 (.no)] [0,1,2]
def c50_29 := xG [xm 78 0,
 xm 79 1,
 xo 80 (.slc false (xt 78) (some (xt 79)) none none 4),
 xm 81 2,
 xo 82 (.no)] [0]
def c50_30 := xG [xm 83 0,
 xm 6 83] [6]
def c50_31 := xQ c50_30 xR
def c50_32 := xQ c50_29 c50_31
def c50_33 := xQ c50_28 c50_32
def c50_34 := xC 68 c50_33 xS
def c50_35 := xQ c50_27 c50_34
def c50_36 := xG [xm 84 0,
 xm 85 8,
 xo 86 (.slc false (xt 84) (some (xt 85)) none none 4),
 xm 87 2,
 xo 88 (.no)] [0,1,7]
def c50_37 := xG [xm 89 0,
 xm 90 1,
 xo 91 (.slc false (xt 89) (some (xt 90)) none none 4),
 xm 92 7,
 xo 93 (.call 61 [xt 91, xt 92])] [0]
def c50_38 := xG [xm 94 0,
 xm 6 94] [6]
def c50_39 := xQ c50_38 xR
def c50_40 := xQ c50_37 c50_39
def c50_41 := xQ c50_36 c50_40
def c50_42 := xQ c50_35 c50_41
def c50_43 := xQ c50_26 c50_42
def c50_44 := xQ c50_25 c50_43
def c50_45 := xQ c50_14 c50_44
def c50_46 := xQ c50_9 c50_45
def c50_47 := xQ c50_8 c50_46
def c50_48 := xQ c50_3 c50_47
def c50_49 := xQ c50_2 c50_48
def c50_50 := xQ c50_1 c50_49
abbrev n_slices_Insert_implSessionimplSession : Nat := 50
theorem k_slices_Insert_implSessionimplSession : Known Pr mu n_slices_Insert_implSessionimplSession (c50_50 ()) [.t 6] Go.Proofs.Tryd.f50.ntmps := .of [(0, [0,1,2], [], [], []), (1, [0,1,2], [], [], []), (2, [0,1,2,7], [], [], []), (3, [0,1,2,7,16], [], [], []), (4, [6], [], [], []), (5, [0,1,2,7,8], [], [], []), (6, [0,1,2,7,8,22], [], [], []), (7, [6], [], [], []), (8, [0,1,2,7,8,31], [], [], []), (9, [0,1,2,7,9], [], [], []), (10, [0,1,7,9], [], [], []), (11, [9], [[],[],[],[],[],[],[],[0,1,2,3,4]], [], []), (12, [6], [], [], []), (13, [0,1,2,7,8], [], [], []), (14, [0,1,2,7,8,68], [], [], []), (15, [0,1,2], [[],[],[],[],[],[],[],[0,1,2,3,4]], [], []), (16, [0], [], [], []), (17, [6], [], [], []), (18, [0,1,7], [], [], []), (19, [0], [], [], []), (20, [6], [], [], [])] hm Go.Proofs.Tryd.func50
def c51_1 := xG [xo 2 (.mv (xi 0))] [0]
def c51_2 := xG [xo 3 (.mv (xi 5))] [0,3]
def c51_3 := xG [xm 5 0,
 xo 6 (.len true (xt 5)),
 xo 7 (.mv (xi 0))] [0,3,6,7]
def c51_4 := xG [xo 8 (.bin .lss (xt 7) (xt 6))] [0,3,6,7,8]
def c51_5 := xC 8 xS (xE 0)
def c51_6 := xG [xm 9 7,
 xm 4 9] [0,3,4,6,7]
def c51_7 := xG [xm 10 3,
 xo 11 (.bin .mul (xi 257) (xt 10)),
 xm 12 0,
 xm 13 4,
 xo 14 (.sidx (xt 12) (xt 13)),
 xo 15 (.conv .i64 (xt 14)),
 xo 16 (.bin .add (xt 11) (xt 15)),
 xo 17 (.bin .add (xt 16) (xi 1)),
 xo 18 (.bin .rem (xt 17) (xi 9949)),
 xm 3 18] [0,3,6,7]
def c51_8 := xQ c51_6 c51_7
def c51_9 := xB 1 c51_8
def c51_10 := xG [xo 19 (.bin .add (xt 7) (xi 1)),
 xm 7 19] [0,3,6,7]
def c51_11 := xQ c51_9 c51_10
def c51_12 := xQ c51_5 c51_11
def c51_13 := xQ c51_4 c51_12
def c51_14 := xL c51_13
def c51_15 := xB 0 c51_14
def c51_16 := xQ c51_3 c51_15
def c51_17 := xG [xm 20 3,
 xm 2 20] [2]
def c51_18 := xQ c51_17 xR
def c51_19 := xQ c51_16 c51_18
def c51_20 := xQ c51_2 c51_19
def c51_21 := xQ c51_1 c51_20
abbrev n_impl_Checksum : Nat := 51
theorem k_impl_Checksum : Known Pr mu n_impl_Checksum (c51_21 ()) [.t 2] Go.Proofs.Tryd.f51.ntmps := .of [(0, [0], [], [], []), (1, [0,3], [], [], []), (2, [0,3,6,7], [], [], []), (3, [0,3,6,7,8], [], [], []), (4, [0,3,4,6,7], [], [], []), (5, [0,3,6,7], [], [], []), (6, [0,3,6,7], [], [], []), (7, [2], [], [], [])] hm Go.Proofs.Tryd.func51
def c52_1 := xG [xo 2 (.mv (.const (.string ⟨#[]⟩)))] [0]
def c52_2 := xG [xm 7 0,
 xo 8 (.call 18 [xt 7]),
 xo 9 (.not (xt 8)),
 xm 6 9] [0,6]
def c52_3 := xG [xo 2 (.mv (.const (.string ⟨#[]⟩)))] [2]
def c52_4 := xQ c52_3 xR
def c52_5 := xG [xm 11 0,
 xo 12 (.len false (xt 11)),
 xo 13 (.bin .eql (xt 12) (xi 0)),
 xm 10 13] [0,10]
def c52_6 := xG [xo 2 (.mv (.const (.string ⟨#[110, 111, 110, 101]⟩)))] [2]
def c52_7 := xQ c52_6 xR
def c52_8 := xC 10 c52_7 xS
def c52_9 := xQ c52_5 c52_8
def c52_10 := xC 6 c52_4 c52_9
def c52_11 := xQ c52_2 c52_10
def c52_12 := xB 0 c52_11
def c52_13 := xG [xo 14 (.bsl 1 0 [.string ⟨#[]⟩] []),
 xm 3 14] [0,3]
def c52_14 := xG [xm 15 0,
 xo 16 (.len false (xt 15)),
 xo 17 (.mv (xi 0))] [3,15,16,17]
def c52_15 := xG [xo 18 (.bin .lss (xt 17) (xt 16))] [3,15,16,17,18]
def c52_16 := xC 18 xS (xE 1)
def c52_17 := xG [xo 19 (.ia (xt 15) (xt 17) 7),
 xo 20 (.ld (xt 19) 7 true),
 xo 5 (.alloc [.int .i64 0, .int .i64 0, .int .i64 0, .int .i64 0, .int .i64 0, .int .i64 0, .int .i64 0]),
 xn (.sto (xt 5) (xt 20) 7)] [3,5,15,16,17]
def c52_18 := xG [xm 21 3,
 ⟨(some 22), .fa (xt 5) 0, none, [0]⟩,
 ⟨(some 23), .ld (xt 22) 1 false, none, [0]⟩,
 ⟨(some 24), .call 62 [xt 23], none, [0]⟩,
 xo 25 (.bin .add (xt 24) (.const (.string ⟨#[58]⟩))),
 ⟨(some 26), .fa (xt 5) 1, none, [0, 1, 2, 3, 4]⟩,
 ⟨(some 27), .ld (xt 26) 6 true, none, [0, 1, 2, 3, 4]⟩,
 ⟨(some 28), .call 63 [xt 27], none, [0, 4]⟩,
 xo 29 (.bin .add (xt 25) (xt 28)),
 xo 30 (.bsl 1 1 [.string ⟨#[]⟩] [(0, (xt 29))]),
 xo 31 (.app (xt 21) (xt 30) 1 16),
 xm 3 31] [3,15,16,17]
def c52_19 := xQ c52_17 c52_18
def c52_20 := xB 2 c52_19
def c52_21 := xG [xo 32 (.bin .add (xt 17) (xi 1)),
 xm 17 32] [3,15,16,17]
def c52_22 := xQ c52_20 c52_21
def c52_23 := xQ c52_16 c52_22
def c52_24 := xQ c52_15 c52_23
def c52_25 := xL c52_24
def c52_26 := xB 1 c52_25
def c52_27 := xQ c52_14 c52_26
def c52_28 := xG [xm 33 3,
 xo 34 (.call 64 [xt 33, (.const (.string ⟨#[59]⟩))]),
 xm 2 34] [2]
def c52_29 := xQ c52_28 xR
def c52_30 := xQ c52_27 c52_29
def c52_31 := xQ c52_13 c52_30
def c52_32 := xQ c52_12 c52_31
def c52_33 := xQ c52_1 c52_32
abbrev n_impl_FormatLog : Nat := 52
theorem k_impl_FormatLog : Known Pr mu n_impl_FormatLog (c52_33 ()) [.t 2] Go.Proofs.Tryd.f52.ntmps := .of [(0, [0], [], [], []), (1, [0,6], [], [], []), (2, [2], [], [], []), (3, [0,10], [], [], []), (4, [2], [], [], []), (5, [0,3], [], [], []), (6, [3,15,16,17], [], [], []), (7, [3,15,16,17,18], [], [], []), (8, [3,5,15,16,17], [], [], []), (9, [3,15,16,17], [[],[0],[0],[0],[],[0,1,2,3,4],[0,1,2,3,4],[0,4]], [], []), (10, [3,15,16,17], [], [], []), (11, [2], [], [], [])] hm Go.Proofs.Tryd.func52
def c53_1 := xG [xo 2 (.box (xt 0)),
 xo 3 (.box (xt 1)),
 xo 4 (.mv (xb false))] [2,3]
def c53_2 := xG [xo 5 (.fa (xt 2) 0),
 xo 6 (.ld (xt 5) 1 false),
 xo 7 (.fa (xt 3) 0),
 xo 8 (.ld (xt 7) 1 false),
 xo 9 (.bin .neq (xt 6) (xt 8))] [2,3,9]
def c53_3 := xG [xo 4 (.mv (xb false))] [4]
def c53_4 := xQ c53_3 xR
def c53_5 := xC 9 c53_4 xS
def c53_6 := xQ c53_2 c53_5
def c53_7 := xG [xo 10 (.fa (xt 2) 1),
 xo 11 (.ld (xt 10) 1 false),
 xo 12 (.fa (xt 3) 1),
 xo 13 (.ld (xt 12) 1 false),
 xo 14 (.bin .neq (xt 11) (xt 13))] [2,3,14]
def c53_8 := xG [xo 4 (.mv (xb false))] [4]
def c53_9 := xQ c53_8 xR
def c53_10 := xC 14 c53_9 xS
def c53_11 := xQ c53_7 c53_10
def c53_12 := xG [xo 15 (.fa (xt 2) 2),
 xo 16 (.ld (xt 15) 2 true),
 xo 17 (.fa (xt 3) 2),
 xo 18 (.ld (xt 17) 2 true),
 xo 19 (.call 65 [xt 16, xt 18]),
 xo 20 (.not (xt 19))] [20]
def c53_13 := xG [xo 4 (.mv (xb false))] [4]
def c53_14 := xQ c53_13 xR
def c53_15 := xC 20 c53_14 xS
def c53_16 := xQ c53_12 c53_15
def c53_17 := xG [xo 4 (.mv (xb true))] [4]
def c53_18 := xQ c53_17 xR
def c53_19 := xQ c53_16 c53_18
def c53_20 := xQ c53_11 c53_19
def c53_21 := xQ c53_6 c53_20
def c53_22 := xQ c53_1 c53_21
abbrev n_laws_eqSession : Nat := 53
theorem k_laws_eqSession : Known Pr mu n_laws_eqSession (c53_22 ()) [.t 4] Go.Proofs.Tryd.f53.ntmps := .of [(0, [2,3], [], [], []), (1, [2,3,9], [], [], []), (2, [4], [], [], []), (3, [2,3,14], [], [], []), (4, [4], [], [], []), (5, [20], [], [], []), (6, [4], [], [], []), (7, [4], [], [], [])] hm Go.Proofs.Tryd.func53
def c54_1 := xG [xo 2 (.mv (.const (.string ⟨#[]⟩)))] [0]
def c54_2 := xG [xm 6 0,
 xo 7 (.bin .eql (xt 6) (xi 0))] [0,7]
def c54_3 := xG [xo 2 (.mv (.const (.string ⟨#[48]⟩)))] [2]
def c54_4 := xQ c54_3 xR
def c54_5 := xC 7 c54_4 xS
def c54_6 := xQ c54_2 c54_5
def c54_7 := xG [xo 3 (.mv (.const (.string ⟨#[]⟩)))] [0,3]
def c54_8 := xG [xm 8 0,
 xo 9 (.bin .lss (xt 8) (xi 0)),
 xm 4 9] [0,3,4]
def c54_9 := xG [xm 10 0,
 xo 11 (.bin .neq (xt 10) (xi 0))] [0,3,4,11]
def c54_10 := xC 11 xS (xE 0)
def c54_11 := xQ c54_9 c54_10
def c54_12 := xG [xm 12 0,
 xo 13 (.bin .rem (xt 12) (xi 10)),
 xm 5 13] [0,3,4,5]
def c54_13 := xG [xm 14 5,
 xo 15 (.bin .lss (xt 14) (xi 0))] [0,3,4,5,15]
def c54_14 := xG [xm 16 5,
 xo 17 (.neg (xt 16)),
 xm 5 17] [0,3,4,5]
def c54_15 := xC 15 c54_14 xS
def c54_16 := xQ c54_13 c54_15
def c54_17 := xG [xm 18 5,
 xo 19 (.bin .add (xi 48) (xt 18)),
 xo 20 (.conv .u8 (xt 19)),
 xo 21 (.bsl 1 1 [.int .u8 0] [(0, (xt 20))]),
 xo 22 (.cst (xt 21)),
 xm 23 3,
 xo 24 (.bin .add (xt 22) (xt 23)),
 xm 3 24] [0,3,4]
def c54_18 := xG [xm 25 0,
 xo 26 (.bin .quo (xt 25) (xi 10)),
 xm 0 26] [0,3,4]
def c54_19 := xQ c54_17 c54_18
def c54_20 := xQ c54_16 c54_19
def c54_21 := xQ c54_12 c54_20
def c54_22 := xB 1 c54_21
def c54_23 := xQ c54_11 c54_22
def c54_24 := xL c54_23
def c54_25 := xB 0 c54_24
def c54_26 := xG [xm 27 4] [3,27]
def c54_27 := xG [xm 28 3,
 xo 29 (.bin .add (.const (.string ⟨#[45]⟩)) (xt 28)),
 xm 2 29] [2]
def c54_28 := xQ c54_27 xR
def c54_29 := xC 27 c54_28 xS
def c54_30 := xQ c54_26 c54_29
def c54_31 := xG [xm 30 3,
 xm 2 30] [2]
def c54_32 := xQ c54_31 xR
def c54_33 := xQ c54_30 c54_32
def c54_34 := xQ c54_25 c54_33
def c54_35 := xQ c54_8 c54_34
def c54_36 := xQ c54_7 c54_35
def c54_37 := xQ c54_6 c54_36
def c54_38 := xQ c54_1 c54_37
abbrev n_spec_FormatInt : Nat := 54
theorem k_spec_FormatInt : Known Pr mu n_spec_FormatInt (c54_38 ()) [.t 2] Go.Proofs.Tryd.f54.ntmps := .of [(0, [0], [], [], []), (1, [0,7], [], [], []), (2, [2], [], [], []), (3, [0,3], [], [], []), (4, [0,3,4], [], [], []), (5, [0,3,4,11], [], [], []), (6, [0,3,4,5], [], [], []), (7, [0,3,4,5,15], [], [], []), (8, [0,3,4,5], [], [], []), (9, [0,3,4], [], [], []), (10, [0,3,4], [], [], []), (11, [3,27], [], [], []), (12, [2], [], [], []), (13, [2], [], [], [])] hm Go.Proofs.Tryd.func54
def c55_1 := xG [xo 1 (.box (xt 0)),
 xo 2 (.mv (.const (.string ⟨#[]⟩)))] [1]
def c55_2 := xG [xo 4 (.ld (xt 1) 6 true),
 xo 5 (.call 26 [xt 4]),
 xo 6 (.not (xt 5))] [1,6]
def c55_3 := xG [xo 2 (.mv (.const (.string ⟨#[]⟩)))] [2]
def c55_4 := xQ c55_3 xR
def c55_5 := xC 6 c55_4 xS
def c55_6 := xQ c55_2 c55_5
def c55_7 := xG [xo 7 (.fa (xt 1) 0),
 xo 8 (.ld (xt 7) 1 false),
 xo 9 (.call 54 [xt 8]),
 xo 10 (.bin .add (xt 9) (.const (.string ⟨#[46]⟩))),
 ⟨(some 11), .fa (xt 1) 1, none, [0, 1, 2, 3]⟩,
 ⟨(some 12), .ld (xt 11) 1 false, none, [0, 1, 2, 3]⟩,
 ⟨(some 13), .call 54 [xt 12], none, [3]⟩,
 xo 14 (.bin .add (xt 10) (xt 13)),
 xo 15 (.bin .add (xt 14) (.const (.string ⟨#[32]⟩))),
 xm 3 15] [1,3]
def c55_8 := xG [xo 16 (.fa (xt 1) 2),
 xo 17 (.ld (xt 16) 1 false),
 xo 18 (.bin .eql (xt 17) (xi 1))] [1,3,18]
def c55_9 := xG [xm 19 3,
 xo 20 (.bin .add (xt 19) (.const (.string ⟨#[119, 114, 105, 116, 101, 32]⟩))),
 ⟨(some 21), .fa (xt 1) 3, none, [0, 1]⟩,
 ⟨(some 22), .ld (xt 21) 1 false, none, [0, 1]⟩,
 ⟨(some 23), .call 54 [xt 22], none, [0, 1]⟩,
 xo 24 (.bin .add (xt 20) (xt 23)),
 xo 25 (.bin .add (xt 24) (.const (.string ⟨#[32]⟩))),
 ⟨(some 26), .fa (xt 1) 5, none, [0, 1, 2, 3, 4, 5, 6]⟩,
 ⟨(some 27), .ld (xt 26) 1 false, none, [0, 1, 2, 3, 4, 5, 6]⟩,
 ⟨(some 28), .call 54 [xt 27], none, [0, 1, 5, 6]⟩,
 xo 29 (.bin .add (xt 25) (xt 28)),
 xm 2 29] [2]
def c55_10 := xQ c55_9 xR
def c55_11 := xC 18 c55_10 xS
def c55_12 := xQ c55_8 c55_11
def c55_13 := xG [xm 30 3,
 xo 31 (.bin .add (xt 30) (.const (.string ⟨#[115, 119, 97, 112, 32]⟩))),
 ⟨(some 32), .fa (xt 1) 3, none, [0, 1]⟩,
 ⟨(some 33), .ld (xt 32) 1 false, none, [0, 1]⟩,
 ⟨(some 34), .call 54 [xt 33], none, [0, 1]⟩,
 xo 35 (.bin .add (xt 31) (xt 34)),
 xo 36 (.bin .add (xt 35) (.const (.string ⟨#[32]⟩))),
 ⟨(some 37), .fa (xt 1) 4, none, [0, 1, 2, 3, 4, 5, 6]⟩,
 ⟨(some 38), .ld (xt 37) 1 false, none, [0, 1, 2, 3, 4, 5, 6]⟩,
 ⟨(some 39), .call 54 [xt 38], none, [0, 1, 5, 6]⟩,
 xo 40 (.bin .add (xt 36) (xt 39)),
 xo 41 (.bin .add (xt 40) (.const (.string ⟨#[32]⟩))),
 ⟨(some 42), .fa (xt 1) 5, none, [0, 1, 2, 3, 4, 5, 6, 7, 8, 9, 10, 11]⟩,
 ⟨(some 43), .ld (xt 42) 1 false, none, [0, 1, 2, 3, 4, 5, 6, 7, 8, 9, 10, 11]⟩,
 ⟨(some 44), .call 54 [xt 43], none, [0, 1, 5, 6, 10, 11]⟩,
 xo 45 (.bin .add (xt 41) (xt 44)),
 xm 2 45] [2]
def c55_14 := xQ c55_13 xR
def c55_15 := xQ c55_12 c55_14
def c55_16 := xQ c55_7 c55_15
def c55_17 := xQ c55_6 c55_16
def c55_18 := xQ c55_1 c55_17
abbrev n_spec_FormatOp : Nat := 55
theorem k_spec_FormatOp : Known Pr mu n_spec_FormatOp (c55_18 ()) [.t 2] Go.Proofs.Tryd.f55.ntmps := .of [(0, [1], [], [], []), (1, [1,6], [], [], []), (2, [2], [], [], []), (3, [1,3], [[],[],[],[],[0,1,2,3],[0,1,2,3],[3]], [], []), (4, [1,3,18], [], [], []), (5, [2], [[],[],[0,1],[0,1],[0,1],[],[],[0,1,2,3,4,5,6],[0,1,2,3,4,5,6],[0,1,5,6]], [], []), (6, [2], [[],[],[0,1],[0,1],[0,1],[],[],[0,1,2,3,4,5,6],[0,1,2,3,4,5,6],[0,1,5,6],[],[],[0,1,2,3,4,5,6,7,8,9,10,11],[0,1,2,3,4,5,6,7,8,9,10,11],[0,1,5,6,10,11]], [], [])] hm Go.Proofs.Tryd.func55
def c56_1 := xG [xo 2 (.mv (.const (.slice none 0 0)))] [0]
def c56_2 := xG [xm 3 0,
 xo 4 (.nbin .eql (xt 3) (.const (.slice none 0 0)))] [0,4]
def c56_3 := xG [xo 2 (.mv (.const (.slice none 0 0)))] [2]
def c56_4 := xQ c56_3 xR
def c56_5 := xC 4 c56_4 xS
def c56_6 := xQ c56_2 c56_5
def c56_7 := xG [xo 5 (.bsl 1 0 [.int .i64 0] []),
 xm 6 0,
 xo 7 (.app (xt 5) (xt 6) 1 8),
 xm 2 7] [2]
def c56_8 := xQ c56_7 xR
def c56_9 := xQ c56_6 c56_8
def c56_10 := xQ c56_1 c56_9
abbrev n_slices_Clone_intint : Nat := 56
theorem k_slices_Clone_intint : Known Pr mu n_slices_Clone_intint (c56_10 ()) [.t 2] Go.Proofs.Tryd.f56.ntmps := .of [(0, [0], [], [], []), (1, [0,4], [], [], []), (2, [2], [], [], []), (3, [2], [], [], [])] hm Go.Proofs.Tryd.func56
def c57_1 := xG [xo 2 (.mv (.const (.slice none 0 0)))] [0]
def c57_2 := xG [xm 3 0,
 xo 4 (.nbin .eql (xt 3) (.const (.slice none 0 0)))] [0,4]
def c57_3 := xG [xo 2 (.mv (.const (.slice none 0 0)))] [2]
def c57_4 := xQ c57_3 xR
def c57_5 := xC 4 c57_4 xS
def c57_6 := xQ c57_2 c57_5
def c57_7 := xG [xo 5 (.bsl 4 0 [.int .i64 0, .int .i64 0, .bool false, .int .i64 0] []),
 xm 6 0,
 xo 7 (.app (xt 5) (xt 6) 4 32),
 xm 2 7] [2]
def c57_8 := xQ c57_7 xR
def c57_9 := xQ c57_6 c57_8
def c57_10 := xQ c57_1 c57_9
abbrev n_slices_Clone_implSessionimplSession : Nat := 57
theorem k_slices_Clone_implSessionimplSession : Known Pr mu n_slices_Clone_implSessionimplSession (c57_10 ()) [.t 2] Go.Proofs.Tryd.f57.ntmps := .of [(0, [0], [], [], []), (1, [0,4], [], [], []), (2, [2], [], [], []), (3, [2], [], [], [])] hm Go.Proofs.Tryd.func57
def c58_1 := xG [xo 4 (.mv (xb false))] [0,1]
def c58_2 := xG [xm 5 0,
 xm 6 1,
 xo 7 (.call 66 [xt 5, xt 6]),
 xo 8 (.bin .geq (xt 7) (xi 0)),
 xm 4 8] [4]
def c58_3 := xQ c58_2 xR
def c58_4 := xQ c58_1 c58_3
abbrev n_slices_ContainsFunc_intint : Nat := 58
theorem k_slices_ContainsFunc_intint : Known Pr mu n_slices_ContainsFunc_intint (c58_4 ()) [.t 4] Go.Proofs.Tryd.f58.ntmps := .of [(0, [0,1], [], [], []), (1, [4], [], [], [])] hm Go.Proofs.Tryd.func58
def c59_1 := xG [xo 2 (.mv (xb false))] [0]
def c59_2 := xG [xm 3 0,
 xo 4 (.call 19 [xt 3, xi 0, xi 9]),
 xo 5 (.not (xt 4)),
 xm 2 5] [2]
def c59_3 := xQ c59_2 xR
def c59_4 := xQ c59_1 c59_3
abbrev n_impl_IsValidMachine_c1 : Nat := 59
theorem k_impl_IsValidMachine_c1 : Known Pr mu n_impl_IsValidMachine_c1 (c59_4 ()) [.t 2] Go.Proofs.Tryd.f59.ntmps := .of [(0, [0], [], [], []), (1, [2], [], [], [])] hm Go.Proofs.Tryd.func59
def c62_1 := xG [xo 2 (.mv (.const (.string ⟨#[]⟩)))] [0]
def c62_2 := xG [xm 3 0,
 xo 4 (.call 68 [xt 3]),
 xm 2 4] [2]
def c62_3 := xQ c62_2 xR
def c62_4 := xQ c62_1 c62_3
abbrev n_impl_FormatInt : Nat := 62
theorem k_impl_FormatInt : Known Pr mu n_impl_FormatInt (c62_4 ()) [.t 2] Go.Proofs.Tryd.f62.ntmps := .of [(0, [0], [], [], []), (1, [2], [], [], [])] hm Go.Proofs.Tryd.func62
def c63_1 := xG [xo 1 (.box (xt 0)),
 xo 2 (.mv (.const (.string ⟨#[]⟩)))] [1]
def c63_2 := xG [xo 4 (.ld (xt 1) 6 true),
 xo 5 (.call 31 [xt 4]),
 xo 6 (.not (xt 5))] [1,6]
def c63_3 := xG [xo 2 (.mv (.const (.string ⟨#[]⟩)))] [2]
def c63_4 := xQ c63_3 xR
def c63_5 := xC 6 c63_4 xS
def c63_6 := xQ c63_2 c63_5
def c63_7 := xG [xo 7 (.fa (xt 1) 0),
 xo 8 (.ld (xt 7) 1 false),
 xo 9 (.call 62 [xt 8]),
 xo 10 (.bin .add (xt 9) (.const (.string ⟨#[46]⟩))),
 ⟨(some 11), .fa (xt 1) 1, none, [0, 1, 2, 3]⟩,
 ⟨(some 12), .ld (xt 11) 1 false, none, [0, 1, 2, 3]⟩,
 ⟨(some 13), .call 62 [xt 12], none, [3]⟩,
 xo 14 (.bin .add (xt 10) (xt 13)),
 xm 3 14] [1,3]
def c63_8 := xG [xo 15 (.fa (xt 1) 2),
 xo 16 (.ld (xt 15) 1 false),
 xo 17 (.bin .eql (xt 16) (xi 2))] [1,3,17]
def c63_9 := xG [xm 18 3,
 xo 19 (.bin .add (xt 18) (.const (.string ⟨#[32, 115, 119, 97, 112, 32]⟩))),
 ⟨(some 20), .fa (xt 1) 3, none, [0, 1]⟩,
 ⟨(some 21), .ld (xt 20) 1 false, none, [0, 1]⟩,
 ⟨(some 22), .call 62 [xt 21], none, [0, 1]⟩,
 xo 23 (.bin .add (xt 19) (xt 22)),
 xo 24 (.bin .add (xt 23) (.const (.string ⟨#[32]⟩))),
 ⟨(some 25), .fa (xt 1) 4, none, [0, 1, 2, 3, 4, 5, 6]⟩,
 ⟨(some 26), .ld (xt 25) 1 false, none, [0, 1, 2, 3, 4, 5, 6]⟩,
 ⟨(some 27), .call 62 [xt 26], none, [0, 1, 5, 6]⟩,
 xo 28 (.bin .add (xt 24) (xt 27)),
 xo 29 (.bin .add (xt 28) (.const (.string ⟨#[32]⟩))),
 ⟨(some 30), .fa (xt 1) 5, none, [0, 1, 2, 3, 4, 5, 6, 7, 8, 9, 10, 11]⟩,
 ⟨(some 31), .ld (xt 30) 1 false, none, [0, 1, 2, 3, 4, 5, 6, 7, 8, 9, 10, 11]⟩,
 ⟨(some 32), .call 62 [xt 31], none, [0, 1, 5, 6, 10, 11]⟩,
 xo 33 (.bin .add (xt 29) (xt 32)),
 xm 2 33] [2]
def c63_10 := xQ c63_9 xR
def c63_11 := xC 17 c63_10 xS
def c63_12 := xQ c63_8 c63_11
def c63_13 := xG [xm 34 3,
 xo 35 (.bin .add (xt 34) (.const (.string ⟨#[32, 119, 114, 105, 116, 101, 32]⟩))),
 ⟨(some 36), .fa (xt 1) 3, none, [0, 1]⟩,
 ⟨(some 37), .ld (xt 36) 1 false, none, [0, 1]⟩,
 ⟨(some 38), .call 62 [xt 37], none, [0, 1]⟩,
 xo 39 (.bin .add (xt 35) (xt 38)),
 xo 40 (.bin .add (xt 39) (.const (.string ⟨#[32]⟩))),
 ⟨(some 41), .fa (xt 1) 5, none, [0, 1, 2, 3, 4, 5, 6]⟩,
 ⟨(some 42), .ld (xt 41) 1 false, none, [0, 1, 2, 3, 4, 5, 6]⟩,
 ⟨(some 43), .call 62 [xt 42], none, [0, 1, 5, 6]⟩,
 xo 44 (.bin .add (xt 40) (xt 43)),
 xm 2 44] [2]
def c63_14 := xQ c63_13 xR
def c63_15 := xQ c63_12 c63_14
def c63_16 := xQ c63_7 c63_15
def c63_17 := xQ c63_6 c63_16
def c63_18 := xQ c63_1 c63_17
abbrev n_impl_FormatOp : Nat := 63
theorem k_impl_FormatOp : Known Pr mu n_impl_FormatOp (c63_18 ()) [.t 2] Go.Proofs.Tryd.f63.ntmps := .of [(0, [1], [], [], []), (1, [1,6], [], [], []), (2, [2], [], [], []), (3, [1,3], [[],[],[],[],[0,1,2,3],[0,1,2,3],[3]], [], []), (4, [1,3,17], [], [], []), (5, [2], [[],[],[0,1],[0,1],[0,1],[],[],[0,1,2,3,4,5,6],[0,1,2,3,4,5,6],[0,1,5,6],[],[],[0,1,2,3,4,5,6,7,8,9,10,11],[0,1,2,3,4,5,6,7,8,9,10,11],[0,1,5,6,10,11]], [], []), (6, [2], [[],[],[0,1],[0,1],[0,1],[],[],[0,1,2,3,4,5,6],[0,1,2,3,4,5,6],[0,1,5,6]], [], [])] hm Go.Proofs.Tryd.func63
def c65_1 := xG [xo 2 (.box (xt 0)),
 xo 3 (.box (xt 1)),
 xo 4 (.mv (xb false))] [2,3]
def c65_2 := xG [xo 5 (.fa (xt 2) 0),
 xo 6 (.ld (xt 5) 1 false),
 xo 7 (.fa (xt 3) 0),
 xo 8 (.ld (xt 7) 1 false),
 xo 9 (.bbin .neq (xt 6) (xt 8))] [2,3,9]
def c65_3 := xG [xo 4 (.mv (xb false))] [4]
def c65_4 := xQ c65_3 xR
def c65_5 := xC 9 c65_4 xS
def c65_6 := xQ c65_2 c65_5
def c65_7 := xG [xo 10 (.fa (xt 2) 1),
 xo 11 (.ld (xt 10) 1 false),
 xo 12 (.fa (xt 3) 1),
 xo 13 (.ld (xt 12) 1 false),
 xo 14 (.bin .neq (xt 11) (xt 13))] [14]
def c65_8 := xG [xo 4 (.mv (xb false))] [4]
def c65_9 := xQ c65_8 xR
def c65_10 := xC 14 c65_9 xS
def c65_11 := xQ c65_7 c65_10
def c65_12 := xG [xo 4 (.mv (xb true))] [4]
def c65_13 := xQ c65_12 xR
def c65_14 := xQ c65_11 c65_13
def c65_15 := xQ c65_6 c65_14
def c65_16 := xQ c65_1 c65_15
abbrev n_laws_eqResult : Nat := 65
theorem k_laws_eqResult : Known Pr mu n_laws_eqResult (c65_16 ()) [.t 4] Go.Proofs.Tryd.f65.ntmps := .of [(0, [2,3], [], [], []), (1, [2,3,9], [], [], []), (2, [4], [], [], []), (3, [14], [], [], []), (4, [4], [], [], []), (5, [4], [], [], [])] hm Go.Proofs.Tryd.func65
def c66_1 := xG [xo 4 (.mv (xi 0))] [0,1]
def c66_2 := xG [xm 6 0,
 xo 7 (.len false (xt 6)),
 xo 8 (.mv (xi 0))] [0,1,7,8]
def c66_3 := xG [xo 9 (.bin .lss (xt 8) (xt 7))] [0,1,7,8,9]
def c66_4 := xC 9 xS (xE 0)
def c66_5 := xG [xm 10 8,
 xm 5 10] [0,1,5,7,8]
def c66_6 := xG [xm 11 1,
 xm 12 0,
 xm 13 5,
 xo 14 (.ia (xt 12) (xt 13) 1),
 xo 15 (.ld (xt 14) 1 false),
 xo 16 (.callv (xt 11) [xt 15])] [0,1,5,7,8,16]
def c66_7 := xG [xm 17 5,
 xm 4 17] [4]
def c66_8 := xQ c66_7 xR
def c66_9 := xC 16 c66_8 xS
def c66_10 := xQ c66_6 c66_9
def c66_11 := xQ c66_5 c66_10
def c66_12 := xB 1 c66_11
def c66_13 := xG [xo 18 (.bin .add (xt 8) (xi 1)),
 xm 8 18] [0,1,7,8]
def c66_14 := xQ c66_12 c66_13
def c66_15 := xQ c66_4 c66_14
def c66_16 := xQ c66_3 c66_15
def c66_17 := xL c66_16
def c66_18 := xB 0 c66_17
def c66_19 := xQ c66_2 c66_18
def c66_20 := xG [xo 4 (.mv (xi (-1)))] [4]
def c66_21 := xQ c66_20 xR
def c66_22 := xQ c66_19 c66_21
def c66_23 := xQ c66_1 c66_22
abbrev n_slices_IndexFunc_intint : Nat := 66
theorem k_slices_IndexFunc_intint : Known Pr mu n_slices_IndexFunc_intint (c66_23 ()) [.t 4] Go.Proofs.Tryd.f66.ntmps := .of [(0, [0,1], [], [], []), (1, [0,1,7,8], [], [], []), (2, [0,1,7,8,9], [], [], []), (3, [0,1,5,7,8], [], [], []), (4, [0,1,5,7,8,16], [], [], []), (5, [4], [], [], []), (6, [0,1,7,8], [], [], []), (7, [4], [], [], [])] hm Go.Proofs.Tryd.func66
def c68_1 := xG [xo 2 (.mv (.const (.string ⟨#[]⟩)))] [0]
def c68_2 := xG [xm 3 0,
 xo 4 (.call 73 [xt 3]),
 xm 2 4] [2]
def c68_3 := xQ c68_2 xR
def c68_4 := xQ c68_1 c68_3
abbrev n_strconv_Itoa : Nat := 68
theorem k_strconv_Itoa : Known Pr mu n_strconv_Itoa (c68_4 ()) [.t 2] Go.Proofs.Tryd.f68.ntmps := .of [(0, [0], [], [], []), (1, [2], [], [], [])] hm Go.Proofs.Tryd.func68
end Go.V.T
