/- The short code of the functions that FnSnapshots reaches, held against the program. Conditions: none. -/
import Derived.Test.YtbmbdfkeecifiaaGreatDoorV6
import Derived.Test.YtbmbdfkeecifiaaGreatDoorProg
namespace Go.V.T
open Go Go.V
noncomputable abbrev Pr := Go.Proofs.Tryz.prog
def mu : Nat → Bool := fun n => Nat.beq n 119 || Nat.beq n 1000005 || Nat.beq n 1000009 || Nat.beq n 1000019 || Nat.beq n 1000020 || Nat.beq n 1000030 || Nat.beq n 1000044 || Nat.beq n 1000045 || Nat.beq n 1000046 || Nat.beq n 1000047 || Nat.beq n 1000048 || Nat.beq n 1000059 || Nat.beq n 1000071 || Nat.beq n 1000080 || Nat.beq n 2000018 || Nat.beq n 4000074
def muc : Nat → Bool := fun n => Nat.beq n 3000000 || mu n
abbrev XC := Unit → MCode
def xt (n : Nat) : Operand := .tmp n
def xi (n : Int) : Operand := .const (.int .i64 n)
def xb (b : Bool) : Operand := .const (.bool b)
def xo (d : Nat) (m : MOp) : MOper := ⟨some d, m, none, []⟩
def xn (m : MOp) : MOper := ⟨none, m, none, []⟩
theorem hm : Pr.follows .mixedOrders = true := by kernel_rfl
def xR : XC := fun _ => .ret
def xS : XC := fun _ => .skip
def xE (n : Nat) : XC := fun _ => .exit n
def xQ (a b : XC) : XC := fun _ => .seq a b
def xC (n : Nat) (a b : XC) : XC := fun _ => .cond (.tmp n) a b
def xB (n : Nat) (a : XC) : XC := fun _ => .block n a
def xL (a : XC) : XC := fun _ => .loop a
def xG (o : List MOper) (l : List Nat) : XC := fun _ => .region [] o l
def xA (n : Nat) (o : Unit → Ord) (l : List Nat) : XC := fun _ => .regionA n o l
def xs (n : Nat) (o : MOper) (r : Unit → Ord) : Unit → Ord := fun _ => .step n o r
def xu (a b : Unit → Ord) : Unit → Ord := fun _ => .both a b
def xf : Unit → Ord := fun _ => .fin
def xm (d s : Nat) : MOper := ⟨some d, .mv (.tmp s), none, []⟩
def xT (d g : Nat) (m : MOp) : MOper := ⟨some d, m, some (g, true), []⟩
def xF (d g : Nat) (m : MOp) : MOper := ⟨some d, m, some (g, false), []⟩
def c3_1 := xG [xo 2 (.mv (xb false))] [0,9998]
def c3_2 := xG [xm 21 0,
 xo 22 (.call 4 [xt 21])] [0,22,9998]
def c3_3 := xG [xo 2 (.mv (xb true))] [2,9998]
def c3_4 := xQ c3_3 xR
def c3_5 := xC 22 c3_4 xS
def c3_6 := xQ c3_2 c3_5
def c3_7 := xG [xm 24 0,
 xo 25 (.callp 5 [xt 24]),
 xm 23 25,
 xo 26 (.ext (xt 23) 0),
 xo 27 (.ext (xt 23) 1),
 xm 3 26,
 xm 4 27] [0,3,4,9998]
def c3_8 := xG [xm 29 3,
 xm 30 4,
 xo 31 (.call 6 [xt 29, xt 30]),
 xm 28 31,
 xo 32 (.ext (xt 28) 0),
 xo 33 (.ext (xt 28) 1),
 xo 5 (.alloc [.int .i64 0, .int .i64 0, .slice none 0 0, .slice none 0 0]),
 xn (.sto (xt 5) (xt 32) 4),
 xm 6 33] [0,3,4,5,6,9998]
def c3_9 := xG [xm 35 3,
 xm 36 4,
 xo 37 (.call 7 [xt 35, xt 36]),
 xm 34 37,
 xo 38 (.ext (xt 34) 0),
 xo 39 (.ext (xt 34) 1),
 xo 7 (.alloc [.int .i64 0, .int .i64 0, .slice none 0 0, .slice none 0 0]),
 xn (.sto (xt 7) (xt 38) 4),
 xm 8 39] [0,5,6,7,8,9998]
def c3_10 := xG [xm 40 6,
 xm 41 8,
 xo 42 (.bbin .neq (xt 40) (xt 41)),
 xm 43 42,
 xF 44 43 (.ld (xt 5) 4 true),
 xF 45 43 (.ld (xt 7) 4 true),
 xF 46 43 (.call 8 [xt 44, xt 45]),
 xF 47 43 (.not (xt 46)),
 xo 48 (.pick (xt 43) (xb true) (xt 47))] [0,48,9998]
def c3_11 := xG [xo 2 (.mv (xb false))] [2,9998]
def c3_12 := xQ c3_11 xR
def c3_13 := xC 48 c3_12 xS
def c3_14 := xQ c3_10 c3_13
def c3_15 := xG [xm 49 0,
 xo 50 (.callp 9 [xt 49]),
 xo 9 (.alloc [.int .i64 0, .int .i64 0, .slice none 0 0, .slice none 0 0]),
 xn (.sto (xt 9) (xt 50) 4)] [0,9,9998]
def c3_16 := xG [xo 51 (.ld (xt 9) 4 true),
 xo 52 (.call 10 [xt 51]),
 xm 10 52] [0,9,10,9998]
def c3_17 := xG [xm 54 10,
 xo 55 (.call 11 [xt 54]),
 xm 53 55,
 xo 56 (.ext (xt 53) 0),
 xo 57 (.ext (xt 53) 1),
 xo 11 (.alloc [.int .i64 0, .int .i64 0, .slice none 0 0, .slice none 0 0]),
 xn (.sto (xt 11) (xt 56) 4),
 xm 12 57] [0,9,10,11,12,9998]
def c3_18 := xG [xm 58 10,
 xo 59 (.ld (xt 9) 4 true),
 xo 60 (.call 12 [xt 59]),
 xo 61 (.bin .neq (xt 58) (xt 60)),
 xm 62 61,
 xF 63 62 (.mv (xt 12)),
 xF 64 62 (.mv (xt 10)),
 xF 65 62 (.bin .neq (xt 64) (.const (.string ⟨#[]⟩))),
 xF 66 62 (.bbin .neq (xt 63) (xt 65)),
 xo 67 (.pick (xt 62) (xb true) (xt 66)),
 xm 68 67,
 xF 69 68 (.mv (xt 12)),
 xF 70 68 (.mv (xt 69)),
 xT 71 70 (.ld (xt 9) 4 true),
 xT 72 70 (.ld (xt 11) 4 true),
 xT 73 70 (.call 8 [xt 71, xt 72]),
 xT 74 70 (.not (xt 73)),
 xF 75 68 (.pick (xt 70) (xt 74) (xb false)),
 xo 76 (.pick (xt 68) (xb true) (xt 75))] [0,10,76,9998]
def c3_19 := xG [xo 2 (.mv (xb false))] [2,9998]
def c3_20 := xQ c3_19 xR
def c3_21 := xC 76 c3_20 xS
def c3_22 := xQ c3_18 c3_21
def c3_23 := xG [xm 77 0,
 xo 78 (.call 13 [xt 77, xi 0]),
 xo 79 (.bin .rem (xt 78) (xi 7)),
 xo 80 (.bin .add (xi 2) (xt 79)),
 xm 13 80] [10,13,9998]
def c3_24 := xG [xm 81 10,
 xm 82 13,
 xo 83 (.call 14 [xt 81, xt 82]),
 xm 14 83] [10,14,9998]
def c3_25 := xG [xo 84 (.bsl 1 0 [.string ⟨#[]⟩] []),
 xm 15 84] [10,14,15,9998]
def c3_26 := xG [xm 85 14,
 xo 86 (.len false (xt 85)),
 xo 87 (.bin .sub (xt 86) (xi 1)),
 xm 16 87] [10,14,15,16,9998]
def c3_27 := xG [xm 88 16,
 xo 89 (.bin .geq (xt 88) (xi 0))] [10,14,15,16,89,9998]
def c3_28 := xC 89 xS (xE 0)
def c3_29 := xQ c3_27 c3_28
def c3_30 := xG [xm 93 15,
 xm 94 14,
 xm 95 16,
 xo 96 (.ia (xt 94) (xt 95) 1),
 xo 97 (.ld (xt 96) 1 false),
 xo 98 (.call 15 [xt 93, xt 97]),
 xm 92 98,
 xo 99 (.ext (xt 92) 0),
 xo 100 (.ext (xt 92) 1),
 xm 17 99,
 xm 18 100] [10,14,15,16,17,18,9998]
def c3_31 := xG [xm 101 18,
 xo 102 (.not (xt 101)),
 xm 103 102,
 xF 104 103 (.mv (xt 15)),
 xF 105 103 (.mv (xt 14)),
 xF 106 103 (.len false (xt 105)),
 xF 107 103 (.call 16 [xt 104, xt 106]),
 xF 108 103 (.bin .neq (xt 107) (xi 0)),
 xo 109 (.pick (xt 103) (xb true) (xt 108))] [10,14,16,17,109,9998]
def c3_32 := xG [xo 2 (.mv (xb false))] [2,9998]
def c3_33 := xQ c3_32 xR
def c3_34 := xC 109 c3_33 xS
def c3_35 := xQ c3_31 c3_34
def c3_36 := xG [xm 110 17,
 xm 15 110] [10,14,15,16,9998]
def c3_37 := xQ c3_35 c3_36
def c3_38 := xQ c3_30 c3_37
def c3_39 := xB 1 c3_38
def c3_40 := xG [xm 90 16,
 xo 91 (.bin .sub (xt 90) (xi 1)),
 xm 16 91] [10,14,15,16,9998]
def c3_41 := xQ c3_39 c3_40
def c3_42 := xQ c3_29 c3_41
def c3_43 := xL c3_42
def c3_44 := xB 0 c3_43
def c3_45 := xQ c3_26 c3_44
def c3_46 := xG [xm 112 15,
 xm 113 14,
 xo 114 (.len false (xt 113)),
 xo 115 (.call 17 [xt 112, xt 114]),
 xm 111 115,
 xo 116 (.ext (xt 111) 0),
 xo 117 (.ext (xt 111) 1),
 xm 19 116,
 xm 20 117] [10,14,15,19,20,9998]
def c3_47 := xG [xm 118 14,
 xo 119 (.len false (xt 118)),
 xo 120 (.bin .eql (xt 119) (xi 0)),
 xm 121 120,
 xT 122 121 (.mv (xt 20)),
 xT 123 121 (.not (xt 122)),
 xo 124 (.pick (xt 121) (xt 123) (xb false)),
 xm 125 124,
 xF 126 125 (.mv (xt 20)),
 xF 127 125 (.mv (xt 126)),
 xT 128 127 (.mv (xt 19)),
 xT 129 127 (.mv (xt 10)),
 xT 130 127 (.bin .eql (xt 128) (xt 129)),
 xF 131 125 (.pick (xt 127) (xt 130) (xb false)),
 xF 132 125 (.mv (xt 131)),
 xT 133 132 (.mv (xt 15)),
 xT 134 132 (.mv (xt 14)),
 xT 135 132 (.len false (xt 134)),
 xT 136 132 (.call 16 [xt 133, xt 135]),
 xT 137 132 (.bin .eql (xt 136) (xi (-1))),
 xF 138 125 (.pick (xt 132) (xt 137) (xb false)),
 xo 139 (.pick (xt 125) (xb true) (xt 138)),
 xm 2 139] [2,9998]
def c3_48 := xQ c3_47 xR
def c3_49 := xQ c3_46 c3_48
def c3_50 := xQ c3_45 c3_49
def c3_51 := xQ c3_25 c3_50
def c3_52 := xQ c3_24 c3_51
def c3_53 := xQ c3_23 c3_52
def c3_54 := xQ c3_22 c3_53
def c3_55 := xQ c3_17 c3_54
def c3_56 := xQ c3_16 c3_55
def c3_57 := xQ c3_15 c3_56
def c3_58 := xQ c3_14 c3_57
def c3_59 := xQ c3_9 c3_58
def c3_60 := xQ c3_8 c3_59
def c3_61 := xQ c3_7 c3_60
def c3_62 := xQ c3_6 c3_61
def c3_63 := xQ c3_1 c3_62
abbrev n_laws_FnSnapshots : Nat := 3
theorem k_laws_FnSnapshots : Known Pr mu n_laws_FnSnapshots (c3_63 ()) [.t 2] Go.Proofs.Tryz.f3.ntmps := .of [(0, [0,9998], [], [], []), (1, [0,22,9998], [], [], []), (2, [2,9998], [], [], []), (3, [0,3,4,9998], [], [], []), (4, [0,3,4,5,6,9998], [], [], []), (5, [0,5,6,7,8,9998], [], [], []), (6, [0,48,9998], [], [], []), (7, [2,9998], [], [], []), (8, [0,9,9998], [], [], []), (9, [0,9,10,9998], [], [], []), (10, [0,9,10,11,12,9998], [], [], []), (11, [0,10,76,9998], [], [], []), (12, [2,9998], [], [], []), (13, [10,13,9998], [], [], []), (14, [10,14,9998], [], [], []), (15, [10,14,15,9998], [], [], []), (16, [10,14,15,16,9998], [], [], []), (17, [10,14,15,16,89,9998], [], [], []), (19, [10,14,15,16,17,18,9998], [], [], []), (20, [10,14,16,17,109,9998], [], [], []), (21, [2,9998], [], [], []), (22, [10,14,15,16,9998], [], [], []), (18, [10,14,15,16,9998], [], [], []), (23, [10,14,15,19,20,9998], [], [], []), (24, [2,9998], [], [], [])] hm Go.Proofs.Tryz.func3
def c4_1 := xG [xo 2 (.mv (xb false))] [0]
def c4_2 := xG [xm 3 0,
 xo 4 (.len false (xt 3)),
 xo 5 (.bin .gtr (xt 4) (xi 1048576)),
 xm 2 5] [2]
def c4_3 := xQ c4_2 xR
def c4_4 := xQ c4_1 c4_3
abbrev n_laws_big : Nat := 4
theorem k_laws_big : Known Pr mu n_laws_big (c4_4 ()) [.t 2] Go.Proofs.Tryz.f4.ntmps := .of [(0, [0], [], [], []), (1, [2], [], [], [])] hm Go.Proofs.Tryz.func4
def c5_1 := xG [xo 2 (.mv (.const (.slice none 0 0))),
 xo 3 (.mv (xi 0))] [0]
def c5_2 := xG [xm 6 0,
 xo 7 (.calln 18 [xt 6]),
 xm 4 7] [4]
def c5_3 := xG [xm 8 4,
 xo 9 (.callp 19 [xt 8]),
 xm 5 9] [4,5]
def c5_4 := xG [xm 10 5,
 xm 11 4,
 xm 12 5,
 xo 13 (.len false (xt 12)),
 xo 14 (.bin .add (xt 13) (xi 3)),
 xo 15 (.callp 20 [xt 11, xt 14]),
 xo 16 (.bin .sub (xt 15) (xi 1)),
 xm 2 10,
 xm 3 16] [2,3]
def c5_5 := xQ c5_4 xR
def c5_6 := xQ c5_3 c5_5
def c5_7 := xQ c5_2 c5_6
def c5_8 := xQ c5_1 c5_7
abbrev n_spec_DrawTakeSnapshot : Nat := 5
theorem k_spec_DrawTakeSnapshot : Known Pr muc n_spec_DrawTakeSnapshot (c5_8 ()) [.t 2, .t 3] Go.Proofs.Tryz.f5.ntmps := .of [(0, [0], [], [], []), (1, [4], [], [], []), (2, [4,5], [], [], []), (3, [2,3], [], [], [])] hm Go.Proofs.Tryz.func5
def c6_1 := xG [xo 4 (.alloc [.int .i64 0, .int .i64 0, .slice none 0 0, .slice none 0 0]),
 xo 5 (.mv (xb false))] [0,1,4]
def c6_2 := xG [xm 8 0,
 xo 9 (.call 21 [xt 8]),
 xo 10 (.not (xt 9)),
 xm 11 10,
 xF 12 11 (.mv (xt 1)),
 xF 13 11 (.mv (xt 0)),
 xF 14 11 (.len false (xt 13)),
 xF 15 11 (.call 22 [xt 12, xi 0, xt 14]),
 xF 16 11 (.not (xt 15)),
 xo 17 (.pick (xt 11) (xb true) (xt 16))] [0,1,4,17]
def c6_3 := xG [xo 18 (.bld [.int .i64 0, .int .i64 0, .slice none 0 0, .slice none 0 0] []),
 xn (.sto (xt 4) (xt 18) 4),
 xo 5 (.mv (xb false))] [4,5]
def c6_4 := xQ c6_3 xR
def c6_5 := xC 17 c6_4 xS
def c6_6 := xQ c6_2 c6_5
def c6_7 := xG [xm 20 0,
 xm 21 1,
 xo 22 (.slc false (xt 20) none (some (xt 21)) none 7),
 xo 23 (.call 23 [xt 22]),
 xm 19 23,
 xo 24 (.ext (xt 19) 0),
 xo 25 (.ext (xt 19) 1),
 xo 6 (.alloc [.slice none 0 0, .slice none 0 0]),
 xn (.sto (xt 6) (xt 24) 2),
 xm 7 25] [0,1,4,6]
def c6_8 := xG [xm 26 1,
 xm 27 0,
 xm 28 1,
 ⟨(some 29), .call 24 [xt 27, xt 28], none, [0]⟩,
 ⟨(some 30), .ld (xt 6) 2 true, none, [0, 1, 2, 3]⟩,
 xo 31 (.bld [.int .i64 0, .int .i64 0, .slice none 0 0, .slice none 0 0] [(0, 1, (xt 26)), (1, 1, (xt 29)), (2, 2, (xt 30))]),
 xn (.sto (xt 4) (xt 31) 4),
 xo 5 (.mv (xb true))] [4,5]
def c6_9 := xQ c6_8 xR
def c6_10 := xQ c6_7 c6_9
def c6_11 := xQ c6_6 c6_10
def c6_12 := xQ c6_1 c6_11
abbrev n_impl_TakeSnapshot : Nat := 6
theorem k_impl_TakeSnapshot : Known Pr mu n_impl_TakeSnapshot (c6_12 ()) [.c 4 4 true, .t 5] Go.Proofs.Tryz.f6.ntmps := .of [(0, [0,1,4], [], [], []), (1, [0,1,4,17], [], [], []), (2, [4,5], [], [], []), (3, [0,1,4,6], [], [], []), (4, [4,5], [[],[],[],[0],[0,1,2,3]], [], [])] hm Go.Proofs.Tryz.func6
def c7_1 := xG [xo 4 (.alloc [.int .i64 0, .int .i64 0, .slice none 0 0, .slice none 0 0]),
 xo 5 (.mv (xb false))] [0,1,4]
def c7_2 := xG [xm 8 0,
 xo 9 (.call 25 [xt 8]),
 xo 10 (.not (xt 9)),
 xm 11 10,
 xF 12 11 (.mv (xt 1)),
 xF 13 11 (.mv (xt 0)),
 xF 14 11 (.len false (xt 13)),
 xF 15 11 (.call 26 [xt 12, xi 0, xt 14]),
 xF 16 11 (.not (xt 15)),
 xo 17 (.pick (xt 11) (xb true) (xt 16))] [0,1,4,17]
def c7_3 := xG [xo 18 (.bld [.int .i64 0, .int .i64 0, .slice none 0 0, .slice none 0 0] []),
 xn (.sto (xt 4) (xt 18) 4),
 xo 5 (.mv (xb false))] [4,5]
def c7_4 := xQ c7_3 xR
def c7_5 := xC 17 c7_4 xS
def c7_6 := xQ c7_2 c7_5
def c7_7 := xG [xm 20 0,
 xm 21 1,
 xo 22 (.slc false (xt 20) none (some (xt 21)) none 7),
 xo 23 (.call 27 [xt 22]),
 xm 19 23,
 xo 24 (.ext (xt 19) 0),
 xo 25 (.ext (xt 19) 1),
 xo 6 (.alloc [.slice none 0 0, .slice none 0 0]),
 xn (.sto (xt 6) (xt 24) 2),
 xm 7 25] [0,1,4,6]
def c7_8 := xG [xm 26 1,
 xm 27 0,
 xm 28 1,
 ⟨(some 29), .call 28 [xt 27, xt 28], none, [0]⟩,
 ⟨(some 30), .ld (xt 6) 2 true, none, [0, 1, 2, 3]⟩,
 xo 31 (.bld [.int .i64 0, .int .i64 0, .slice none 0 0, .slice none 0 0] [(0, 1, (xt 26)), (1, 1, (xt 29)), (2, 2, (xt 30))]),
 xn (.sto (xt 4) (xt 31) 4),
 xo 5 (.mv (xb true))] [4,5]
def c7_9 := xQ c7_8 xR
def c7_10 := xQ c7_7 c7_9
def c7_11 := xQ c7_6 c7_10
def c7_12 := xQ c7_1 c7_11
abbrev n_spec_TakeSnapshot : Nat := 7
theorem k_spec_TakeSnapshot : Known Pr mu n_spec_TakeSnapshot (c7_12 ()) [.c 4 4 true, .t 5] Go.Proofs.Tryz.f7.ntmps := .of [(0, [0,1,4], [], [], []), (1, [0,1,4,17], [], [], []), (2, [4,5], [], [], []), (3, [0,1,4,6], [], [], []), (4, [4,5], [[],[],[],[0],[0,1,2,3]], [], [])] hm Go.Proofs.Tryz.func7
def c8_1 := xG [xo 2 (.box (xt 0)),
 xo 3 (.box (xt 1)),
 xo 4 (.mv (xb false))] [2,3]
def c8_2 := xG [xo 5 (.fa (xt 2) 0),
 xo 6 (.ld (xt 5) 1 false),
 xo 7 (.fa (xt 3) 0),
 xo 8 (.ld (xt 7) 1 false),
 xo 9 (.bin .eql (xt 6) (xt 8)),
 xm 10 9,
 xT 11 10 (.fa (xt 2) 1),
 xT 12 10 (.ld (xt 11) 1 false),
 xT 13 10 (.fa (xt 3) 1),
 xT 14 10 (.ld (xt 13) 1 false),
 xT 15 10 (.bin .eql (xt 12) (xt 14)),
 xo 16 (.pick (xt 10) (xt 15) (xb false)),
 xm 17 16,
 xT 18 17 (.fa (xt 2) 2),
 xT 19 17 (.ld (xt 18) 2 true),
 xT 20 17 (.fa (xt 3) 2),
 xT 21 17 (.ld (xt 20) 2 true),
 xT 22 17 (.call 29 [xt 19, xt 21]),
 xo 23 (.pick (xt 17) (xt 22) (xb false)),
 xm 4 23] [4]
def c8_3 := xQ c8_2 xR
def c8_4 := xQ c8_1 c8_3
abbrev n_impl_EqualSnapshots : Nat := 8
theorem k_impl_EqualSnapshots : Known Pr mu n_impl_EqualSnapshots (c8_4 ()) [.t 4] Go.Proofs.Tryz.f8.ntmps := .of [(0, [2,3], [], [], []), (1, [4], [], [], [])] hm Go.Proofs.Tryz.func8
def c9_1 := xG [xo 2 (.alloc [.int .i64 0, .int .i64 0, .slice none 0 0, .slice none 0 0])] [0,2]
def c9_2 := xG [xm 3 0,
 xo 4 (.calln 18 [xt 3]),
 xo 5 (.callp 30 [xt 4]),
 xn (.stoc (xt 2) (xt 5) 4)] [2]
def c9_3 := xQ c9_2 xR
def c9_4 := xQ c9_1 c9_3
abbrev n_spec_DrawSnapshotText : Nat := 9
theorem k_spec_DrawSnapshotText : Known Pr muc n_spec_DrawSnapshotText (c9_4 ()) [.c 2 4 true] Go.Proofs.Tryz.f9.ntmps := .of [(0, [0,2], [], [], []), (1, [2], [], [], [])] hm Go.Proofs.Tryz.func9
def c10_1 := xG [xo 1 (.box (xt 0)),
 xo 2 (.mv (.const (.string ⟨#[]⟩)))] [1]
def c10_2 := xG [xo 3 (.fa (xt 1) 0),
 xo 4 (.ld (xt 3) 1 false),
 xo 5 (.call 22 [xt 4, xi 0, xi 16]),
 xo 6 (.not (xt 5)),
 xm 7 6,
 xF 8 7 (.fa (xt 1) 1),
 xF 9 7 (.ld (xt 8) 1 false),
 xF 10 7 (.call 22 [xt 9, xi 0, xi 9972]),
 xF 11 7 (.not (xt 10)),
 xo 12 (.pick (xt 7) (xb true) (xt 11)),
 xm 13 12,
 xF 14 13 (.fa (xt 1) 2),
 xF 15 13 (.ld (xt 14) 2 true),
 xF 16 13 (.call 31 [xt 15]),
 xF 17 13 (.not (xt 16)),
 xo 18 (.pick (xt 13) (xb true) (xt 17))] [1,18]
def c10_3 := xG [xo 2 (.mv (.const (.string ⟨#[]⟩)))] [2]
def c10_4 := xQ c10_3 xR
def c10_5 := xC 18 c10_4 xS
def c10_6 := xQ c10_2 c10_5
def c10_7 := xG [xo 19 (.fa (xt 1) 0),
 xo 20 (.ld (xt 19) 1 false),
 xo 21 (.call 32 [xt 20]),
 xo 22 (.bin .add (xt 21) (.const (.string ⟨#[44]⟩))),
 ⟨(some 23), .fa (xt 1) 1, none, [0, 1, 2, 3]⟩,
 ⟨(some 24), .ld (xt 23) 1 false, none, [0, 1, 2, 3]⟩,
 ⟨(some 25), .call 32 [xt 24], none, [3]⟩,
 xo 26 (.bin .add (xt 22) (xt 25)),
 xo 27 (.bin .add (xt 26) (.const (.string ⟨#[44]⟩))),
 ⟨(some 28), .fa (xt 1) 2, none, [0, 1, 2, 3, 4, 5, 6, 7, 8]⟩,
 ⟨(some 29), .ld (xt 28) 2 true, none, [0, 1, 2, 3, 4, 5, 6, 7, 8]⟩,
 ⟨(some 30), .call 33 [xt 29], none, [3, 7, 8]⟩,
 xo 31 (.bin .add (xt 27) (xt 30)),
 xm 2 31] [2]
def c10_8 := xQ c10_7 xR
def c10_9 := xQ c10_6 c10_8
def c10_10 := xQ c10_1 c10_9
abbrev n_impl_SnapshotText : Nat := 10
theorem k_impl_SnapshotText : Known Pr mu n_impl_SnapshotText (c10_10 ()) [.t 2] Go.Proofs.Tryz.f10.ntmps := .of [(0, [1], [], [], []), (1, [1,18], [], [], []), (2, [2], [], [], []), (3, [2], [[],[],[],[],[0,1,2,3],[0,1,2,3],[3],[],[],[0,1,2,3,4,5,6,7,8],[0,1,2,3,4,5,6,7,8],[3,7,8]], [], [])] hm Go.Proofs.Tryz.func10
def c11_1 := xG [xo 2 (.alloc [.int .i64 0, .int .i64 0, .slice none 0 0, .slice none 0 0]),
 xo 3 (.mv (xb false))] [0,2]
def c11_2 := xG [xm 8 0,
 xo 9 (.call 34 [xt 8, (.const (.string ⟨#[44]⟩)), xi 3]),
 xm 4 9] [0,2,4]
def c11_3 := xG [xm 10 4,
 xo 11 (.len false (xt 10)),
 xo 12 (.bin .lss (xt 11) (xi 3))] [0,2,4,12]
def c11_4 := xG [xo 13 (.bld [.int .i64 0, .int .i64 0, .slice none 0 0, .slice none 0 0] []),
 xn (.sto (xt 2) (xt 13) 4),
 xo 3 (.mv (xb false))] [2,3]
def c11_5 := xQ c11_4 xR
def c11_6 := xC 12 c11_5 xS
def c11_7 := xQ c11_3 c11_6
def c11_8 := xG [xm 15 4,
 xo 16 (.ia (xt 15) (xi 2) 1),
 xo 17 (.ld (xt 16) 1 false),
 xo 18 (.call 35 [xt 17]),
 xm 14 18,
 xo 19 (.ext (xt 14) 0),
 xo 20 (.ext (xt 14) 1),
 xo 5 (.alloc [.slice none 0 0, .slice none 0 0]),
 xn (.sto (xt 5) (xt 19) 2),
 xm 6 20] [0,2,4,5]
def c11_9 := xG [xm 21 4,
 xo 22 (.ia (xt 21) (xi 0) 1),
 xo 23 (.ld (xt 22) 1 false),
 xo 24 (.call 36 [xt 23]),
 xm 25 4,
 ⟨(some 26), .ia (xt 25) (xi 1) 1, none, [0, 1, 2, 3]⟩,
 ⟨(some 27), .ld (xt 26) 1 false, none, [0, 1, 2, 3]⟩,
 xo 28 (.call 36 [xt 27]),
 ⟨(some 29), .ld (xt 5) 2 true, none, [0, 1, 2, 3, 4, 5, 6, 7]⟩,
 xo 30 (.bld [.int .i64 0, .int .i64 0, .slice none 0 0, .slice none 0 0] [(0, 1, (xt 24)), (1, 1, (xt 28)), (2, 2, (xt 29))]),
 xo 7 (.alloc [.int .i64 0, .int .i64 0, .slice none 0 0, .slice none 0 0]),
 xn (.sto (xt 7) (xt 30) 4)] [0,2,7]
def c11_10 := xG [xo 31 (.ld (xt 7) 4 true),
 xo 32 (.call 10 [xt 31]),
 xm 33 0,
 xo 34 (.bin .neq (xt 32) (xt 33))] [2,7,34]
def c11_11 := xG [xo 35 (.bld [.int .i64 0, .int .i64 0, .slice none 0 0, .slice none 0 0] []),
 xn (.sto (xt 2) (xt 35) 4),
 xo 3 (.mv (xb false))] [2,3]
def c11_12 := xQ c11_11 xR
def c11_13 := xC 34 c11_12 xS
def c11_14 := xQ c11_10 c11_13
def c11_15 := xG [xo 36 (.ld (xt 7) 4 true),
 xn (.sto (xt 2) (xt 36) 4),
 xo 3 (.mv (xb true))] [2,3]
def c11_16 := xQ c11_15 xR
def c11_17 := xQ c11_14 c11_16
def c11_18 := xQ c11_9 c11_17
def c11_19 := xQ c11_8 c11_18
def c11_20 := xQ c11_7 c11_19
def c11_21 := xQ c11_2 c11_20
def c11_22 := xQ c11_1 c11_21
abbrev n_impl_ParseSnapshot : Nat := 11
theorem k_impl_ParseSnapshot : Known Pr mu n_impl_ParseSnapshot (c11_22 ()) [.c 2 4 true, .t 3] Go.Proofs.Tryz.f11.ntmps := .of [(0, [0,2], [], [], []), (1, [0,2,4], [], [], []), (2, [0,2,4,12], [], [], []), (3, [2,3], [], [], []), (4, [0,2,4,5], [], [], []), (5, [0,2,7], [[],[],[],[],[],[0,1,2,3],[0,1,2,3],[],[0,1,2,3,4,5,6,7]], [], []), (6, [2,7,34], [], [], []), (7, [2,3], [], [], []), (8, [2,3], [], [], [])] hm Go.Proofs.Tryz.func11
def c12_1 := xG [xo 1 (.box (xt 0)),
 xo 2 (.mv (.const (.string ⟨#[]⟩)))] [1]
def c12_2 := xG [xo 3 (.ld (xt 1) 4 true),
 xo 4 (.call 37 [xt 3]),
 xo 5 (.not (xt 4))] [1,5]
def c12_3 := xG [xo 2 (.mv (.const (.string ⟨#[]⟩)))] [2]
def c12_4 := xQ c12_3 xR
def c12_5 := xC 5 c12_4 xS
def c12_6 := xQ c12_2 c12_5
def c12_7 := xG [xo 6 (.fa (xt 1) 0),
 xo 7 (.ld (xt 6) 1 false),
 xo 8 (.call 38 [xt 7]),
 xo 9 (.bin .add (xt 8) (.const (.string ⟨#[44]⟩))),
 ⟨(some 10), .fa (xt 1) 1, none, [0, 1, 2, 3]⟩,
 ⟨(some 11), .ld (xt 10) 1 false, none, [0, 1, 2, 3]⟩,
 ⟨(some 12), .call 38 [xt 11], none, [3]⟩,
 xo 13 (.bin .add (xt 9) (xt 12)),
 xo 14 (.bin .add (xt 13) (.const (.string ⟨#[44]⟩))),
 ⟨(some 15), .fa (xt 1) 2, none, [0, 1, 2, 3, 4, 5, 6, 7, 8]⟩,
 ⟨(some 16), .ld (xt 15) 2 true, none, [0, 1, 2, 3, 4, 5, 6, 7, 8]⟩,
 ⟨(some 17), .call 39 [xt 16], none, [3, 7, 8]⟩,
 xo 18 (.bin .add (xt 14) (xt 17)),
 xm 2 18] [2]
def c12_8 := xQ c12_7 xR
def c12_9 := xQ c12_6 c12_8
def c12_10 := xQ c12_1 c12_9
abbrev n_spec_SnapshotText : Nat := 12
theorem k_spec_SnapshotText : Known Pr mu n_spec_SnapshotText (c12_10 ()) [.t 2] Go.Proofs.Tryz.f12.ntmps := .of [(0, [1], [], [], []), (1, [1,5], [], [], []), (2, [2], [], [], []), (3, [2], [[],[],[],[],[0,1,2,3],[0,1,2,3],[3],[],[],[0,1,2,3,4,5,6,7,8],[0,1,2,3,4,5,6,7,8],[3,7,8]], [], [])] hm Go.Proofs.Tryz.func12
def c13_1 := xG [xo 4 (.mv (xi 0))] [0,1]
def c13_2 := xG [xm 5 1,
 xm 6 0,
 xo 7 (.len false (xt 6)),
 xo 8 (.bin .lss (xt 5) (xt 7))] [0,1,8]
def c13_3 := xG [xm 9 0,
 xm 10 1,
 xo 11 (.ia (xt 9) (xt 10) 1),
 xo 12 (.ld (xt 11) 1 false),
 xo 13 (.conv .i64 (xt 12)),
 xm 4 13] [4]
def c13_4 := xQ c13_3 xR
def c13_5 := xC 8 c13_4 xS
def c13_6 := xQ c13_2 c13_5
def c13_7 := xG [xm 14 1,
 xo 15 (.bin .mul (xt 14) (xi 37)),
 xm 16 0,
 xo 17 (.len false (xt 16)),
 xo 18 (.bin .mul (xt 17) (xi 11)),
 xo 19 (.bin .add (xt 15) (xt 18)),
 xo 20 (.bin .rem (xt 19) (xi 256)),
 xm 4 20] [4]
def c13_8 := xQ c13_7 xR
def c13_9 := xQ c13_6 c13_8
def c13_10 := xQ c13_1 c13_9
abbrev n_laws_at : Nat := 13
theorem k_laws_at : Known Pr mu n_laws_at (c13_10 ()) [.t 4] Go.Proofs.Tryz.f13.ntmps := .of [(0, [0,1], [], [], []), (1, [0,1,8], [], [], []), (2, [4], [], [], []), (3, [4], [], [], [])] hm Go.Proofs.Tryz.func13
def c14_1 := xG [xo 4 (.mv (.const (.slice none 0 0)))] [0,1]
def c14_2 := xG [xo 8 (.bsl 1 0 [.string ⟨#[]⟩] []),
 xm 5 8] [0,1,5]
def c14_3 := xG [xm 9 1,
 xo 10 (.bin .lss (xt 9) (xi 1)),
 xm 11 10,
 xF 12 11 (.mv (xt 0)),
 xF 13 11 (.len true (xt 12)),
 xF 14 11 (.mv (xt 1)),
 xF 15 11 (.bin .quo (xt 13) (xt 14)),
 xF 16 11 (.bin .gtr (xt 15) (xi 40)),
 xo 17 (.pick (xt 11) (xb true) (xt 16))] [0,1,5,17]
def c14_4 := xG [xm 18 5,
 xm 4 18] [4]
def c14_5 := xQ c14_4 xR
def c14_6 := xC 17 c14_5 xS
def c14_7 := xQ c14_3 c14_6
def c14_8 := xG [xm 19 0,
 xo 20 (.len true (xt 19)),
 xo 21 (.bin .sub (xt 20) (xi 1)),
 xm 22 1,
 xo 23 (.bin .quo (xt 21) (xt 22)),
 xo 24 (.bin .add (xt 23) (xi 1)),
 xo 25 (.mx true (xi 1) (xt 24)),
 xm 6 25] [0,1,5,6]
def c14_9 := xG [xm 26 6,
 xo 27 (.bin .gtr (xt 26) (xi 40))] [0,1,5,6,27]
def c14_10 := xG [xm 28 5,
 xm 4 28] [4]
def c14_11 := xQ c14_10 xR
def c14_12 := xC 27 c14_11 xS
def c14_13 := xQ c14_9 c14_12
def c14_14 := xG [xm 29 6,
 xo 30 (.mv (xi 0))] [0,1,5,6,29,30]
def c14_15 := xG [xo 31 (.bin .lss (xt 30) (xt 29))] [0,1,5,6,29,30,31]
def c14_16 := xC 31 xS (xE 0)
def c14_17 := xG [xm 32 30,
 xm 7 32] [0,1,5,6,7,29,30]
def c14_18 := xG [xm 33 5,
 xm 34 7,
 xm 35 6,
 xm 36 0,
 xm 37 7,
 xm 38 1,
 xo 39 (.bin .mul (xt 37) (xt 38)),
 xm 40 0,
 xo 41 (.len true (xt 40)),
 xm 42 7,
 xm 43 1,
 xo 44 (.bin .mul (xt 42) (xt 43)),
 xm 45 1,
 xm 46 0,
 xo 47 (.len true (xt 46)),
 xo 48 (.mx false (xt 45) (xt 47)),
 xo 49 (.bin .add (xt 44) (xt 48)),
 xo 50 (.mx false (xt 41) (xt 49)),
 xo 51 (.slc true (xt 36) (some (xt 39)) (some (xt 50)) none 0),
 xo 52 (.call 40 [xt 34, xt 35, xt 51]),
 xo 53 (.bsl 1 1 [.string ⟨#[]⟩] [(0, (xt 52))]),
 xo 54 (.app (xt 33) (xt 53) 1 16),
 xm 5 54] [0,1,5,6,29,30]
def c14_19 := xQ c14_17 c14_18
def c14_20 := xB 1 c14_19
def c14_21 := xG [xo 55 (.bin .add (xt 30) (xi 1)),
 xm 30 55] [0,1,5,6,29,30]
def c14_22 := xQ c14_20 c14_21
def c14_23 := xQ c14_16 c14_22
def c14_24 := xQ c14_15 c14_23
def c14_25 := xL c14_24
def c14_26 := xB 0 c14_25
def c14_27 := xQ c14_14 c14_26
def c14_28 := xG [xm 56 5,
 xm 4 56] [4]
def c14_29 := xQ c14_28 xR
def c14_30 := xQ c14_27 c14_29
def c14_31 := xQ c14_13 c14_30
def c14_32 := xQ c14_8 c14_31
def c14_33 := xQ c14_7 c14_32
def c14_34 := xQ c14_2 c14_33
def c14_35 := xQ c14_1 c14_34
abbrev n_impl_EncodeChunks : Nat := 14
theorem k_impl_EncodeChunks : Known Pr mu n_impl_EncodeChunks (c14_35 ()) [.t 4] Go.Proofs.Tryz.f14.ntmps := .of [(0, [0,1], [], [], []), (1, [0,1,5], [], [], []), (2, [0,1,5,17], [], [], []), (3, [4], [], [], []), (4, [0,1,5,6], [], [], []), (5, [0,1,5,6,27], [], [], []), (6, [4], [], [], []), (7, [0,1,5,6,29,30], [], [], []), (8, [0,1,5,6,29,30,31], [], [], []), (9, [0,1,5,6,7,29,30], [], [], []), (10, [0,1,5,6,29,30], [], [], []), (11, [0,1,5,6,29,30], [], [], []), (12, [4], [], [], [])] hm Go.Proofs.Tryz.func14
def c15_1 := xG [xo 4 (.mv (.const (.slice none 0 0))),
 xo 5 (.mv (xb false))] [0,1]
def c15_2 := xG [xm 11 0,
 xo 12 (.call 41 [xt 11]),
 xm 6 12] [0,1,6]
def c15_3 := xG [xm 14 1,
 xo 15 (.call 42 [xt 14]),
 xm 13 15,
 xo 16 (.ext (xt 13) 0),
 xo 17 (.ext (xt 13) 1),
 xo 18 (.ext (xt 13) 2),
 xo 19 (.ext (xt 13) 3),
 xm 7 16,
 xm 8 17,
 xm 9 18,
 xm 10 19] [0,1,6,7,8,10]
def c15_4 := xG [xm 20 10,
 xm 21 20,
 xT 22 21 (.mv (xt 6)),
 xT 23 21 (.len false (xt 22)),
 xT 24 21 (.bin .eql (xt 23) (xi 0)),
 xo 25 (.pick (xt 21) (xt 24) (xb false))] [0,1,6,7,8,10,25]
def c15_5 := xG [xm 26 8,
 xo 27 (.mks 1 16 [.string ⟨#[]⟩] (xt 26) (xt 26)),
 xm 6 27] [0,1,6,7,8,10]
def c15_6 := xC 25 c15_5 xS
def c15_7 := xQ c15_4 c15_6
def c15_8 := xG [xm 28 10,
 xo 29 (.not (xt 28)),
 xm 30 29,
 xF 31 30 (.mv (xt 6)),
 xF 32 30 (.len false (xt 31)),
 xF 33 30 (.mv (xt 8)),
 xF 34 30 (.bin .neq (xt 32) (xt 33)),
 xo 35 (.pick (xt 30) (xb true) (xt 34)),
 xm 36 35,
 xF 37 36 (.mv (xt 6)),
 xF 38 36 (.mv (xt 7)),
 xF 39 36 (.ia (xt 37) (xt 38) 1),
 xF 40 36 (.ld (xt 39) 1 false),
 xF 41 36 (.bin .neq (xt 40) (.const (.string ⟨#[]⟩))),
 xo 42 (.pick (xt 36) (xb true) (xt 41))] [0,1,6,7,42]
def c15_9 := xG [xm 43 0,
 xo 44 (.call 41 [xt 43]),
 xm 4 44,
 xo 5 (.mv (xb false))] [4,5]
def c15_10 := xQ c15_9 xR
def c15_11 := xC 42 c15_10 xS
def c15_12 := xQ c15_8 c15_11
def c15_13 := xG [xm 45 6,
 xm 46 7,
 xm 47 1,
 xo 48 (.ia (xt 45) (xt 46) 1),
 xn (.sto (xt 48) (xt 47) 1)] [6]
def c15_14 := xG [xm 49 6,
 xm 4 49,
 xo 5 (.mv (xb true))] [4,5]
def c15_15 := xQ c15_14 xR
def c15_16 := xQ c15_13 c15_15
def c15_17 := xQ c15_12 c15_16
def c15_18 := xQ c15_7 c15_17
def c15_19 := xQ c15_3 c15_18
def c15_20 := xQ c15_2 c15_19
def c15_21 := xQ c15_1 c15_20
abbrev n_impl_ReceiveChunk : Nat := 15
theorem k_impl_ReceiveChunk : Known Pr mu n_impl_ReceiveChunk (c15_21 ()) [.t 4, .t 5] Go.Proofs.Tryz.f15.ntmps := .of [(0, [0,1], [], [], []), (1, [0,1,6], [], [], []), (2, [0,1,6,7,8,10], [], [], []), (3, [0,1,6,7,8,10,25], [], [], []), (4, [0,1,6,7,8,10], [], [], []), (5, [0,1,6,7,42], [], [], []), (6, [4,5], [], [], []), (7, [6], [], [], []), (8, [4,5], [], [], [])] hm Go.Proofs.Tryz.func15
def c16_1 := xG [xo 4 (.mv (xi 0))] [0,1]
def c16_2 := xG [xm 5 0,
 xo 6 (.len false (xt 5)),
 xo 7 (.bin .eql (xt 6) (xi 0)),
 xm 8 7,
 xT 9 8 (.mv (xt 1)),
 xT 10 8 (.bin .gtr (xt 9) (xi 0)),
 xo 11 (.pick (xt 8) (xt 10) (xb false))] [0,11]
def c16_3 := xG [xo 4 (.mv (xi 0))] [4]
def c16_4 := xQ c16_3 xR
def c16_5 := xC 11 c16_4 xS
def c16_6 := xQ c16_2 c16_5
def c16_7 := xG [xm 12 0,
 xo 13 (.call 43 [xt 12, (.const (.string ⟨#[]⟩))]),
 xm 4 13] [4]
def c16_8 := xQ c16_7 xR
def c16_9 := xQ c16_6 c16_8
def c16_10 := xQ c16_1 c16_9
abbrev n_impl_MissingChunk : Nat := 16
theorem k_impl_MissingChunk : Known Pr mu n_impl_MissingChunk (c16_10 ()) [.t 4] Go.Proofs.Tryz.f16.ntmps := .of [(0, [0,1], [], [], []), (1, [0,11], [], [], []), (2, [4], [], [], []), (3, [4], [], [], [])] hm Go.Proofs.Tryz.func16
def c17_1 := xG [xo 4 (.mv (.const (.string ⟨#[]⟩))),
 xo 5 (.mv (xb false))] [0,1]
def c17_2 := xG [xm 13 0,
 xo 14 (.len false (xt 13)),
 xm 15 1,
 xo 16 (.bin .neq (xt 14) (xt 15)),
 xm 17 16,
 xF 18 17 (.mv (xt 1)),
 xF 19 17 (.bin .lss (xt 18) (xi 1)),
 xo 20 (.pick (xt 17) (xb true) (xt 19))] [0,1,20]
def c17_3 := xG [xo 4 (.mv (.const (.string ⟨#[]⟩))),
 xo 5 (.mv (xb false))] [4,5]
def c17_4 := xQ c17_3 xR
def c17_5 := xC 20 c17_4 xS
def c17_6 := xQ c17_2 c17_5
def c17_7 := xG [xo 6 (.mv (.const (.string ⟨#[]⟩)))] [0,1,6]
def c17_8 := xG [xm 21 0,
 xo 22 (.len false (xt 21)),
 xo 23 (.mv (xi 0))] [1,6,21,22,23]
def c17_9 := xG [xo 24 (.bin .lss (xt 23) (xt 22))] [1,6,21,22,23,24]
def c17_10 := xC 24 xS (xE 0)
def c17_11 := xG [xm 25 23,
 xo 26 (.ia (xt 21) (xt 23) 1),
 xo 27 (.ld (xt 26) 1 false),
 xm 7 25,
 xm 8 27] [1,6,7,8,21,22,23]
def c17_12 := xG [xm 29 8,
 xo 30 (.call 42 [xt 29]),
 xm 28 30,
 xo 31 (.ext (xt 28) 0),
 xo 32 (.ext (xt 28) 1),
 xo 33 (.ext (xt 28) 2),
 xo 34 (.ext (xt 28) 3),
 xm 9 31,
 xm 10 32,
 xm 11 33,
 xm 12 34] [1,6,7,9,10,11,12,21,22,23]
def c17_13 := xG [xm 35 12,
 xo 36 (.not (xt 35)),
 xm 37 36,
 xF 38 37 (.mv (xt 9)),
 xF 39 37 (.mv (xt 7)),
 xF 40 37 (.bin .neq (xt 38) (xt 39)),
 xo 41 (.pick (xt 37) (xb true) (xt 40)),
 xm 42 41,
 xF 43 42 (.mv (xt 10)),
 xF 44 42 (.mv (xt 1)),
 xF 45 42 (.bin .neq (xt 43) (xt 44)),
 xo 46 (.pick (xt 42) (xb true) (xt 45))] [1,6,11,21,22,23,46]
def c17_14 := xG [xo 4 (.mv (.const (.string ⟨#[]⟩))),
 xo 5 (.mv (xb false))] [4,5]
def c17_15 := xQ c17_14 xR
def c17_16 := xC 46 c17_15 xS
def c17_17 := xQ c17_13 c17_16
def c17_18 := xG [xm 47 6,
 xm 48 11,
 xo 49 (.bin .add (xt 47) (xt 48)),
 xm 6 49] [1,6,21,22,23]
def c17_19 := xQ c17_17 c17_18
def c17_20 := xQ c17_12 c17_19
def c17_21 := xQ c17_11 c17_20
def c17_22 := xB 1 c17_21
def c17_23 := xG [xo 50 (.bin .add (xt 23) (xi 1)),
 xm 23 50] [1,6,21,22,23]
def c17_24 := xQ c17_22 c17_23
def c17_25 := xQ c17_10 c17_24
def c17_26 := xQ c17_9 c17_25
def c17_27 := xL c17_26
def c17_28 := xB 0 c17_27
def c17_29 := xQ c17_8 c17_28
def c17_30 := xG [xm 51 6,
 xm 4 51,
 xo 5 (.mv (xb true))] [4,5]
def c17_31 := xQ c17_30 xR
def c17_32 := xQ c17_29 c17_31
def c17_33 := xQ c17_7 c17_32
def c17_34 := xQ c17_6 c17_33
def c17_35 := xQ c17_1 c17_34
abbrev n_impl_JoinChunks : Nat := 17
theorem k_impl_JoinChunks : Known Pr mu n_impl_JoinChunks (c17_35 ()) [.t 4, .t 5] Go.Proofs.Tryz.f17.ntmps := .of [(0, [0,1], [], [], []), (1, [0,1,20], [], [], []), (2, [4,5], [], [], []), (3, [0,1,6], [], [], []), (4, [1,6,21,22,23], [], [], []), (5, [1,6,21,22,23,24], [], [], []), (6, [1,6,7,8,21,22,23], [], [], []), (7, [1,6,7,9,10,11,12,21,22,23], [], [], []), (8, [1,6,11,21,22,23,46], [], [], []), (9, [4,5], [], [], []), (10, [1,6,21,22,23], [], [], []), (11, [1,6,21,22,23], [], [], []), (12, [4,5], [], [], [])] hm Go.Proofs.Tryz.func17
def c18_1 := xG [xo 2 (.mv (.const (.pointer none)))] [0]
def c18_2 := xG [xm 5 0,
 xo 6 (.len false (xt 5)),
 xo 7 (.bin .add (xi 10101) (xt 6)),
 xm 3 7] [0,3]
def c18_3 := xG [xo 4 (.mv (xi 0))] [0,3,4]
def c18_4 := xG [xm 8 4,
 xm 9 0,
 xo 10 (.len false (xt 9)),
 xo 11 (.bin .lss (xt 8) (xt 10)),
 xm 12 11,
 xT 13 12 (.mv (xt 4)),
 xT 14 12 (.bin .lss (xt 13) (xi 4000)),
 xo 15 (.pick (xt 12) (xt 14) (xb false))] [0,3,4,15]
def c18_5 := xC 15 xS (xE 0)
def c18_6 := xQ c18_4 c18_5
def c18_7 := xG [xm 18 3,
 xo 19 (.bin .mul (xt 18) (xi 131)),
 xm 20 0,
 xm 21 4,
 xo 22 (.ia (xt 20) (xt 21) 1),
 xo 23 (.ld (xt 22) 1 false),
 xo 24 (.conv .i64 (xt 23)),
 xo 25 (.bin .add (xt 19) (xt 24)),
 xo 26 (.bin .add (xt 25) (xi 7)),
 xo 27 (.bit .and (xt 26) (xi 1073741823)),
 xm 3 27] [0,3,4]
def c18_8 := xB 1 c18_7
def c18_9 := xG [xm 16 4,
 xo 17 (.bin .add (xt 16) (xi 1)),
 xm 4 17] [0,3,4]
def c18_10 := xQ c18_8 c18_9
def c18_11 := xQ c18_6 c18_10
def c18_12 := xL c18_11
def c18_13 := xB 0 c18_12
def c18_14 := xQ c18_3 c18_13
def c18_15 := xG [xm 28 0,
 xm 29 3,
 xo 30 (.bld [.slice none 0 0, .int .i64 0, .int .i64 0] [(0, 1, (xt 28)), (2, 1, (xt 29))]),
 xo 31 (.box (xt 30)),
 xm 2 31] [2]
def c18_16 := xQ c18_15 xR
def c18_17 := xQ c18_14 c18_16
def c18_18 := xQ c18_2 c18_17
def c18_19 := xQ c18_1 c18_18
abbrev n_spec_l1New : Nat := 18
theorem k_spec_l1New : Known Pr mu n_spec_l1New (c18_19 ()) [.t 2] Go.Proofs.Tryz.f18.ntmps := .of [(0, [0], [], [], []), (1, [0,3], [], [], []), (2, [0,3,4], [], [], []), (3, [0,3,4,15], [], [], []), (5, [0,3,4], [], [], []), (4, [0,3,4], [], [], []), (6, [2], [], [], [])] hm Go.Proofs.Tryz.func18
def c19_1 := xG [xo 2 (.mv (.const (.slice none 0 0)))] [0]
def c19_2 := xG [xm 5 0,
 xo 6 (.callp 44 [xt 5]),
 xm 3 6] [0,3]
def c19_3 := xG [xm 7 0,
 xo 8 (.callp 20 [xt 7, xi 14])] [0,3,8]
def c19_4 := xG [xo 10 (.bin .eql (xt 8) (xi 0)),
 xm 9 10] [0,3,8,9]
def c19_5 := xG [xm 11 3,
 xm 12 0,
 xo 13 (.bsl 1 4 [.int .i64 0] [(0, (xi 0)), (1, (xi 1)), (2, (xi 20)), (3, (xi 21))]),
 xo 14 (.callp 45 [xt 12, xt 13]),
 xm 15 0,
 xo 16 (.callp 46 [xt 15]),
 xo 17 (.bld [.int .i64 0, .int .i64 0, .int .i64 0, .int .i64 0, .int .i64 0, .int .i64 0, .int .i64 0] [(0, 1, (xt 14)), (1, 6, (xt 16))]),
 xo 18 (.bsl 7 1 [.int .i64 0, .int .i64 0, .int .i64 0, .int .i64 0, .int .i64 0, .int .i64 0, .int .i64 0] [(0, (xt 17))]),
 xo 19 (.app (xt 11) (xt 18) 7 56),
 xm 3 19] [3]
def c19_6 := xG [xo 21 (.bin .eql (xt 8) (xi 1)),
 xm 20 21] [0,3,20]
def c19_7 := xG [xm 22 3,
 xo 23 (.len false (xt 22)),
 xo 24 (.bin .lss (xt 23) (xi 17))] [0,3,24]
def c19_8 := xC 24 xS (xE 1)
def c19_9 := xQ c19_7 c19_8
def c19_10 := xG [xm 25 0,
 xo 26 (.callp 47 [xt 25]),
 xo 4 (.alloc [.int .i64 0, .int .i64 0, .int .i64 0, .int .i64 0, .int .i64 0, .int .i64 0]),
 xn (.sto (xt 4) (xt 26) 6)] [0,3,4]
def c19_11 := xG [xm 27 3,
 xo 28 (.ld (xt 4) 6 true),
 xo 29 (.bld [.int .i64 0, .int .i64 0, .int .i64 0, .int .i64 0, .int .i64 0, .int .i64 0, .int .i64 0] [(0, 1, (xi 20)), (1, 6, (xt 28))]),
 xo 30 (.bsl 7 1 [.int .i64 0, .int .i64 0, .int .i64 0, .int .i64 0, .int .i64 0, .int .i64 0, .int .i64 0] [(0, (xt 29))]),
 xo 31 (.app (xt 27) (xt 30) 7 56),
 xm 3 31] [0,3]
def c19_12 := xQ c19_10 c19_11
def c19_13 := xB 2 c19_12
def c19_14 := xQ c19_9 c19_13
def c19_15 := xL c19_14
def c19_16 := xB 1 c19_15
def c19_17 := xC 20 c19_16 xS
def c19_18 := xQ c19_6 c19_17
def c19_19 := xC 9 c19_5 c19_18
def c19_20 := xQ c19_4 c19_19
def c19_21 := xB 0 c19_20
def c19_22 := xQ c19_3 c19_21
def c19_23 := xG [xm 32 3,
 xm 2 32] [2]
def c19_24 := xQ c19_23 xR
def c19_25 := xQ c19_22 c19_24
def c19_26 := xQ c19_2 c19_25
def c19_27 := xQ c19_1 c19_26
abbrev n_spec_l5Any : Nat := 19
theorem k_spec_l5Any : Known Pr mu n_spec_l5Any (c19_27 ()) [.t 2] Go.Proofs.Tryz.f19.ntmps := .of [(0, [0], [], [], []), (1, [0,3], [], [], []), (2, [0,3,8], [], [], []), (3, [0,3,8,9], [], [], []), (4, [3], [], [], []), (5, [0,3,20], [], [], []), (6, [0,3,24], [], [], []), (7, [0,3,4], [], [], []), (8, [0,3], [], [], []), (9, [2], [], [], [])] hm Go.Proofs.Tryz.func19
def c20_1 := xG [xo 4 (.mv (xi 0))] [0,1]
def c20_2 := xG [xm 9 1,
 xo 10 (.bin .leq (xt 9) (xi 0))] [0,1,10]
def c20_3 := xG [xo 4 (.mv (xi 0))] [4]
def c20_4 := xQ c20_3 xR
def c20_5 := xC 10 c20_4 xS
def c20_6 := xQ c20_2 c20_5
def c20_7 := xG [xm 11 1,
 xo 12 (.bin .leq (xt 11) (xi 256))] [0,1,12]
def c20_8 := xG [xm 13 0,
 xo 14 (.callp 48 [xt 13]),
 xm 15 1,
 xo 16 (.bin .rem (xt 14) (xt 15)),
 xm 4 16] [4]
def c20_9 := xQ c20_8 xR
def c20_10 := xC 12 c20_9 xS
def c20_11 := xQ c20_7 c20_10
def c20_12 := xG [xm 17 0,
 xo 18 (.callp 48 [xt 17]),
 xm 5 18] [0,1,5]
def c20_13 := xG [xm 19 0,
 xo 20 (.callp 48 [xt 19]),
 xm 6 20] [0,1,5,6]
def c20_14 := xG [xm 21 0,
 xo 22 (.callp 48 [xt 21]),
 xm 7 22] [0,1,5,6,7]
def c20_15 := xG [xm 23 0,
 xo 24 (.callp 48 [xt 23]),
 xm 8 24] [1,5,6,7,8]
def c20_16 := xG [xm 25 5,
 xo 26 (.bin .mul (xt 25) (xi 16777216)),
 xm 27 6,
 xo 28 (.bin .mul (xt 27) (xi 65536)),
 xo 29 (.bin .add (xt 26) (xt 28)),
 xm 30 7,
 xo 31 (.bin .mul (xt 30) (xi 256)),
 xo 32 (.bin .add (xt 29) (xt 31)),
 xm 33 8,
 xo 34 (.bin .add (xt 32) (xt 33)),
 xm 35 1,
 xo 36 (.bin .rem (xt 34) (xt 35)),
 xm 4 36] [4]
def c20_17 := xQ c20_16 xR
def c20_18 := xQ c20_15 c20_17
def c20_19 := xQ c20_14 c20_18
def c20_20 := xQ c20_13 c20_19
def c20_21 := xQ c20_12 c20_20
def c20_22 := xQ c20_11 c20_21
def c20_23 := xQ c20_6 c20_22
def c20_24 := xQ c20_1 c20_23
abbrev n_spec_l1Below : Nat := 20
theorem k_spec_l1Below : Known Pr mu n_spec_l1Below (c20_24 ()) [.t 4] Go.Proofs.Tryz.f20.ntmps := .of [(0, [0,1], [], [], []), (1, [0,1,10], [], [], []), (2, [4], [], [], []), (3, [0,1,12], [], [], []), (4, [4], [], [], []), (5, [0,1,5], [], [], []), (6, [0,1,5,6], [], [], []), (7, [0,1,5,6,7], [], [], []), (8, [1,5,6,7,8], [], [], []), (9, [4], [], [], [])] hm Go.Proofs.Tryz.func20
def c21_1 := xG [xo 2 (.mv (xb false))] [0]
def c21_2 := xG [xm 5 0,
 xo 6 (.len false (xt 5)),
 xo 7 (.mv (xi 0))] [0,5,6,7]
def c21_3 := xG [xo 8 (.bin .lss (xt 7) (xt 6))] [0,5,6,7,8]
def c21_4 := xC 8 xS (xE 0)
def c21_5 := xG [xm 9 7,
 xo 10 (.ia (xt 5) (xt 7) 7),
 xo 11 (.ld (xt 10) 7 true),
 xo 4 (.alloc [.int .i64 0, .int .i64 0, .int .i64 0, .int .i64 0, .int .i64 0, .int .i64 0, .int .i64 0]),
 xm 3 9,
 xn (.sto (xt 4) (xt 11) 7)] [0,3,4,5,6,7]
def c21_6 := xG [xo 12 (.fa (xt 4) 0),
 xo 13 (.ld (xt 12) 1 false),
 xo 14 (.call 22 [xt 13, xi 1, xi 20]),
 xo 15 (.not (xt 14)),
 xm 16 15,
 xF 17 16 (.mv (xt 3)),
 xF 18 16 (.bin .gtr (xt 17) (xi 0)),
 xF 19 16 (.mv (xt 18)),
 xT 20 19 (.fa (xt 4) 0),
 xT 21 19 (.ld (xt 20) 1 false),
 xT 22 19 (.mv (xt 0)),
 xT 23 19 (.mv (xt 3)),
 xT 24 19 (.bin .sub (xt 23) (xi 1)),
 ⟨(some 25), .ia (xt 22) (xt 24) 7, (some (19, true)), [8, 9]⟩,
 ⟨(some 26), .fa (xt 25) 0, (some (19, true)), [8, 9]⟩,
 ⟨(some 27), .ld (xt 26) 1 false, (some (19, true)), [8, 9]⟩,
 xT 28 19 (.bin .lss (xt 21) (xt 27)),
 xF 29 16 (.pick (xt 19) (xt 28) (xb false)),
 xo 30 (.pick (xt 16) (xb true) (xt 29)),
 xm 31 30,
 xF 32 31 (.fa (xt 4) 1),
 xF 33 31 (.ld (xt 32) 6 true),
 xF 34 31 (.call 49 [xt 33]),
 xF 35 31 (.not (xt 34)),
 xo 36 (.pick (xt 31) (xb true) (xt 35))] [0,5,6,7,36]
def c21_7 := xG [xo 2 (.mv (xb false))] [2]
def c21_8 := xQ c21_7 xR
def c21_9 := xC 36 c21_8 xS
def c21_10 := xQ c21_6 c21_9
def c21_11 := xQ c21_5 c21_10
def c21_12 := xB 1 c21_11
def c21_13 := xG [xo 37 (.bin .add (xt 7) (xi 1)),
 xm 7 37] [0,5,6,7]
def c21_14 := xQ c21_12 c21_13
def c21_15 := xQ c21_4 c21_14
def c21_16 := xQ c21_3 c21_15
def c21_17 := xL c21_16
def c21_18 := xB 0 c21_17
def c21_19 := xQ c21_2 c21_18
def c21_20 := xG [xm 38 0,
 xo 39 (.len false (xt 38)),
 xo 40 (.bin .leq (xt 39) (xi 16)),
 xm 2 40] [2]
def c21_21 := xQ c21_20 xR
def c21_22 := xQ c21_19 c21_21
def c21_23 := xQ c21_1 c21_22
abbrev n_impl_IsLog : Nat := 21
theorem k_impl_IsLog : Known Pr mu n_impl_IsLog (c21_23 ()) [.t 2] Go.Proofs.Tryz.f21.ntmps := .of [(0, [0], [], [], []), (1, [0,5,6,7], [], [], []), (2, [0,5,6,7,8], [], [], []), (3, [0,3,4,5,6,7], [], [], []), (4, [0,5,6,7,36], [[],[],[],[],[],[],[],[],[],[],[],[],[],[8,9],[8,9],[8,9]], [], []), (5, [2], [], [], []), (6, [0,5,6,7], [], [], []), (7, [2], [], [], [])] hm Go.Proofs.Tryz.func21
def c22_1 := xG [xo 6 (.mv (xb false))] [0,1,2]
def c22_2 := xG [xm 7 1,
 xm 8 0,
 xo 9 (.bin .leq (xt 7) (xt 8)),
 xm 10 9,
 xT 11 10 (.mv (xt 0)),
 xT 12 10 (.mv (xt 2)),
 xT 13 10 (.bin .leq (xt 11) (xt 12)),
 xo 14 (.pick (xt 10) (xt 13) (xb false)),
 xm 6 14] [6]
def c22_3 := xQ c22_2 xR
def c22_4 := xQ c22_1 c22_3
abbrev n_impl_within : Nat := 22
theorem k_impl_within : Known Pr mu n_impl_within (c22_4 ()) [.t 6] Go.Proofs.Tryz.f22.ntmps := .of [(0, [0,1,2], [], [], []), (1, [6], [], [], [])] hm Go.Proofs.Tryz.func22
def c23_1 := xG [xo 2 (.alloc [.slice none 0 0, .slice none 0 0]),
 xo 3 (.mv (xb false))] [0,2]
def c23_2 := xG [xm 7 0,
 xo 8 (.call 21 [xt 7]),
 xo 9 (.not (xt 8))] [0,2,9]
def c23_3 := xG [xo 10 (.bld [.slice none 0 0, .slice none 0 0] []),
 xn (.sto (xt 2) (xt 10) 2),
 xo 3 (.mv (xb false))] [2,3]
def c23_4 := xQ c23_3 xR
def c23_5 := xC 9 c23_4 xS
def c23_6 := xQ c23_2 c23_5
def c23_7 := xG [xo 11 (.call 50 []),
 xo 4 (.alloc [.slice none 0 0, .slice none 0 0]),
 xn (.sto (xt 4) (xt 11) 2)] [0,2,4]
def c23_8 := xG [xm 12 0,
 xo 13 (.len false (xt 12)),
 xo 14 (.mv (xi 0))] [2,4,12,13,14]
def c23_9 := xG [xo 15 (.bin .lss (xt 14) (xt 13))] [2,4,12,13,14,15]
def c23_10 := xC 15 xS (xE 0)
def c23_11 := xG [xo 16 (.ia (xt 12) (xt 14) 7),
 xo 17 (.ld (xt 16) 7 true),
 xo 6 (.alloc [.int .i64 0, .int .i64 0, .int .i64 0, .int .i64 0, .int .i64 0, .int .i64 0, .int .i64 0]),
 xn (.sto (xt 6) (xt 17) 7)] [2,4,6,12,13,14]
def c23_12 := xG [xo 19 (.ld (xt 4) 2 true),
 xo 20 (.fa (xt 6) 1),
 xo 21 (.ld (xt 20) 6 true),
 xo 22 (.call 51 [xt 19, xt 21]),
 xm 18 22,
 xo 23 (.ext (xt 18) 0),
 xo 24 (.ext (xt 18) 1),
 xo 25 (.ext (xt 18) 2),
 xn (.sto (xt 4) (xt 23) 2)] [2,4,12,13,14]
def c23_13 := xQ c23_11 c23_12
def c23_14 := xB 1 c23_13
def c23_15 := xG [xo 26 (.bin .add (xt 14) (xi 1)),
 xm 14 26] [2,4,12,13,14]
def c23_16 := xQ c23_14 c23_15
def c23_17 := xQ c23_10 c23_16
def c23_18 := xQ c23_9 c23_17
def c23_19 := xL c23_18
def c23_20 := xB 0 c23_19
def c23_21 := xQ c23_8 c23_20
def c23_22 := xG [xo 27 (.ld (xt 4) 2 true),
 xn (.sto (xt 2) (xt 27) 2),
 xo 3 (.mv (xb true))] [2,3]
def c23_23 := xQ c23_22 xR
def c23_24 := xQ c23_21 c23_23
def c23_25 := xQ c23_7 c23_24
def c23_26 := xQ c23_6 c23_25
def c23_27 := xQ c23_1 c23_26
abbrev n_impl_ReplayLog : Nat := 23
theorem k_impl_ReplayLog : Known Pr mu n_impl_ReplayLog (c23_27 ()) [.c 2 2 true, .t 3] Go.Proofs.Tryz.f23.ntmps := .of [(0, [0,2], [], [], []), (1, [0,2,9], [], [], []), (2, [2,3], [], [], []), (3, [0,2,4], [], [], []), (4, [2,4,12,13,14], [], [], []), (5, [2,4,12,13,14,15], [], [], []), (6, [2,4,6,12,13,14], [], [], []), (7, [2,4,12,13,14], [], [], []), (8, [2,4,12,13,14], [], [], []), (9, [2,3], [], [], [])] hm Go.Proofs.Tryz.func23
def c24_1 := xG [xo 4 (.mv (xi 0))] [0,1]
def c24_2 := xG [xm 6 0,
 xo 7 (.call 52 [xt 6]),
 xm 5 7] [1,5]
def c24_3 := xG [xm 8 1,
 xm 9 5,
 xo 10 (.len false (xt 9)),
 xo 11 (.bin .sub (xt 10) (xi 1)),
 xo 12 (.call 22 [xt 8, xi 0, xt 11]),
 xo 13 (.not (xt 12))] [1,5,13]
def c24_4 := xG [xo 4 (.mv (xi (-1)))] [4]
def c24_5 := xQ c24_4 xR
def c24_6 := xC 13 c24_5 xS
def c24_7 := xQ c24_3 c24_6
def c24_8 := xG [xm 14 5,
 xm 15 1,
 xo 16 (.ia (xt 14) (xt 15) 1),
 xo 17 (.ld (xt 16) 1 false),
 xm 4 17] [4]
def c24_9 := xQ c24_8 xR
def c24_10 := xQ c24_7 c24_9
def c24_11 := xQ c24_2 c24_10
def c24_12 := xQ c24_1 c24_11
abbrev n_impl_DigestOf : Nat := 24
theorem k_impl_DigestOf : Known Pr mu n_impl_DigestOf (c24_12 ()) [.t 4] Go.Proofs.Tryz.f24.ntmps := .of [(0, [0,1], [], [], []), (1, [1,5], [], [], []), (2, [1,5,13], [], [], []), (3, [4], [], [], []), (4, [4], [], [], [])] hm Go.Proofs.Tryz.func24
def c25_1 := xG [xo 2 (.mv (xb false))] [0]
def c25_2 := xG [xo 3 (.mv (xi 0))] [0,3]
def c25_3 := xG [xm 4 3,
 xm 5 0,
 xo 6 (.len false (xt 5)),
 xo 7 (.bin .lss (xt 4) (xt 6))] [0,3,7]
def c25_4 := xC 7 xS (xE 0)
def c25_5 := xQ c25_3 c25_4
def c25_6 := xG [xm 10 0,
 xm 11 3,
 xo 12 (.ia (xt 10) (xt 11) 7),
 xo 13 (.fa (xt 12) 0),
 xo 14 (.ld (xt 13) 1 false),
 xo 15 (.call 26 [xt 14, xi 1, xi 20]),
 xo 16 (.not (xt 15)),
 xm 17 16,
 xF 18 17 (.mv (xt 0)),
 xF 19 17 (.mv (xt 3)),
 xF 20 17 (.ia (xt 18) (xt 19) 7),
 xF 21 17 (.fa (xt 20) 1),
 xF 22 17 (.ld (xt 21) 6 true),
 xF 23 17 (.call 53 [xt 22]),
 xF 24 17 (.not (xt 23)),
 xo 25 (.pick (xt 17) (xb true) (xt 24)),
 xm 26 25,
 xF 27 26 (.mv (xt 3)),
 xF 28 26 (.bin .gtr (xt 27) (xi 0)),
 xF 29 26 (.mv (xt 28)),
 xT 30 29 (.mv (xt 0)),
 xT 31 29 (.mv (xt 3)),
 xT 32 29 (.bin .sub (xt 31) (xi 1)),
 xT 33 29 (.ia (xt 30) (xt 32) 7),
 xT 34 29 (.fa (xt 33) 0),
 xT 35 29 (.ld (xt 34) 1 false),
 xT 36 29 (.mv (xt 0)),
 xT 37 29 (.mv (xt 3)),
 ⟨(some 38), .ia (xt 36) (xt 37) 7, (some (29, true)), [20, 21, 22, 23, 24, 25]⟩,
 ⟨(some 39), .fa (xt 38) 0, (some (29, true)), [20, 21, 22, 23, 24, 25]⟩,
 ⟨(some 40), .ld (xt 39) 1 false, (some (29, true)), [20, 21, 22, 23, 24, 25]⟩,
 xT 41 29 (.bin .gtr (xt 35) (xt 40)),
 xF 42 26 (.pick (xt 29) (xt 41) (xb false)),
 xo 43 (.pick (xt 26) (xb true) (xt 42))] [0,3,43]
def c25_7 := xG [xo 2 (.mv (xb false))] [2]
def c25_8 := xQ c25_7 xR
def c25_9 := xC 43 c25_8 xS
def c25_10 := xQ c25_6 c25_9
def c25_11 := xB 1 c25_10
def c25_12 := xG [xm 8 3,
 xo 9 (.bin .add (xt 8) (xi 1)),
 xm 3 9] [0,3]
def c25_13 := xQ c25_11 c25_12
def c25_14 := xQ c25_5 c25_13
def c25_15 := xL c25_14
def c25_16 := xB 0 c25_15
def c25_17 := xQ c25_2 c25_16
def c25_18 := xG [xm 44 0,
 xo 45 (.len false (xt 44)),
 xo 46 (.bin .leq (xt 45) (xi 16)),
 xm 2 46] [2]
def c25_19 := xQ c25_18 xR
def c25_20 := xQ c25_17 c25_19
def c25_21 := xQ c25_1 c25_20
abbrev n_spec_IsLog : Nat := 25
theorem k_spec_IsLog : Known Pr mu n_spec_IsLog (c25_21 ()) [.t 2] Go.Proofs.Tryz.f25.ntmps := .of [(0, [0], [], [], []), (1, [0,3], [], [], []), (2, [0,3,7], [], [], []), (4, [0,3,43], [[],[],[],[],[],[],[],[],[],[],[],[],[],[],[],[],[],[],[],[],[],[],[],[],[],[],[],[],[20,21,22,23,24,25],[20,21,22,23,24,25],[20,21,22,23,24,25]], [], []), (5, [2], [], [], []), (3, [0,3], [], [], []), (6, [2], [], [], [])] hm Go.Proofs.Tryz.func25
def c26_1 := xG [xo 6 (.mv (xb false))] [0,1,2]
def c26_2 := xG [xm 7 0,
 xm 8 1,
 xo 9 (.bin .geq (xt 7) (xt 8)),
 xm 10 9,
 xT 11 10 (.mv (xt 0)),
 xT 12 10 (.mv (xt 2)),
 xT 13 10 (.bin .leq (xt 11) (xt 12)),
 xo 14 (.pick (xt 10) (xt 13) (xb false)),
 xm 6 14] [6]
def c26_3 := xQ c26_2 xR
def c26_4 := xQ c26_1 c26_3
abbrev n_spec_l1In : Nat := 26
theorem k_spec_l1In : Known Pr mu n_spec_l1In (c26_4 ()) [.t 6] Go.Proofs.Tryz.f26.ntmps := .of [(0, [0,1,2], [], [], []), (1, [6], [], [], [])] hm Go.Proofs.Tryz.func26
def c27_1 := xG [xo 2 (.alloc [.slice none 0 0, .slice none 0 0]),
 xo 3 (.mv (xb false))] [0,2]
def c27_2 := xG [xo 6 (.call 54 []),
 xo 4 (.alloc [.slice none 0 0, .slice none 0 0]),
 xn (.sto (xt 4) (xt 6) 2)] [0,2,4]
def c27_3 := xG [xm 7 0,
 xo 8 (.call 25 [xt 7]),
 xo 9 (.not (xt 8))] [0,2,4,9]
def c27_4 := xG [xo 10 (.bld [.slice none 0 0, .slice none 0 0] []),
 xn (.sto (xt 2) (xt 10) 2),
 xo 3 (.mv (xb false))] [2,3]
def c27_5 := xQ c27_4 xR
def c27_6 := xC 9 c27_5 xS
def c27_7 := xQ c27_3 c27_6
def c27_8 := xG [xo 5 (.mv (xi 0))] [0,2,4,5]
def c27_9 := xG [xm 11 5,
 xm 12 0,
 xo 13 (.len false (xt 12)),
 xo 14 (.bin .lss (xt 11) (xt 13))] [0,2,4,5,14]
def c27_10 := xC 14 xS (xE 0)
def c27_11 := xQ c27_9 c27_10
def c27_12 := xG [xo 18 (.ld (xt 4) 2 true),
 xm 19 0,
 xm 20 5,
 ⟨(some 21), .ia (xt 19) (xt 20) 7, none, [0]⟩,
 ⟨(some 22), .fa (xt 21) 1, none, [0]⟩,
 ⟨(some 23), .ld (xt 22) 6 true, none, [0]⟩,
 xo 24 (.call 55 [xt 18, xt 23]),
 xm 17 24,
 xo 25 (.ext (xt 17) 0),
 xo 26 (.ext (xt 17) 1),
 xo 27 (.ext (xt 17) 2),
 xn (.sto (xt 4) (xt 25) 2)] [0,2,4,5]
def c27_13 := xB 1 c27_12
def c27_14 := xG [xm 15 5,
 xo 16 (.bin .add (xt 15) (xi 1)),
 xm 5 16] [0,2,4,5]
def c27_15 := xQ c27_13 c27_14
def c27_16 := xQ c27_11 c27_15
def c27_17 := xL c27_16
def c27_18 := xB 0 c27_17
def c27_19 := xQ c27_8 c27_18
def c27_20 := xG [xo 28 (.ld (xt 4) 2 true),
 xn (.sto (xt 2) (xt 28) 2),
 xo 3 (.mv (xb true))] [2,3]
def c27_21 := xQ c27_20 xR
def c27_22 := xQ c27_19 c27_21
def c27_23 := xQ c27_7 c27_22
def c27_24 := xQ c27_2 c27_23
def c27_25 := xQ c27_1 c27_24
abbrev n_spec_ReplayLog : Nat := 27
theorem k_spec_ReplayLog : Known Pr mu n_spec_ReplayLog (c27_25 ()) [.c 2 2 true, .t 3] Go.Proofs.Tryz.f27.ntmps := .of [(0, [0,2], [], [], []), (1, [0,2,4], [], [], []), (2, [0,2,4,9], [], [], []), (3, [2,3], [], [], []), (4, [0,2,4,5], [], [], []), (5, [0,2,4,5,14], [], [], []), (7, [0,2,4,5], [[],[],[],[0],[0],[0]], [], [9,10]), (6, [0,2,4,5], [], [], []), (8, [2,3], [], [], [])] hm Go.Proofs.Tryz.func27
def c28_1 := xG [xo 4 (.mv (xi 0))] [0,1]
def c28_2 := xG [xm 6 0,
 xo 7 (.call 56 [xt 6]),
 xm 5 7] [1,5]
def c28_3 := xG [xm 8 1,
 xm 9 5,
 xo 10 (.len false (xt 9)),
 xo 11 (.bin .sub (xt 10) (xi 1)),
 xo 12 (.call 26 [xt 8, xi 0, xt 11]),
 xo 13 (.not (xt 12))] [1,5,13]
def c28_4 := xG [xo 4 (.mv (xi (-1)))] [4]
def c28_5 := xQ c28_4 xR
def c28_6 := xC 13 c28_5 xS
def c28_7 := xQ c28_3 c28_6
def c28_8 := xG [xm 14 5,
 xm 15 1,
 xo 16 (.ia (xt 14) (xt 15) 1),
 xo 17 (.ld (xt 16) 1 false),
 xm 4 17] [4]
def c28_9 := xQ c28_8 xR
def c28_10 := xQ c28_7 c28_9
def c28_11 := xQ c28_2 c28_10
def c28_12 := xQ c28_1 c28_11
abbrev n_spec_DigestOf : Nat := 28
theorem k_spec_DigestOf : Known Pr mu n_spec_DigestOf (c28_12 ()) [.t 4] Go.Proofs.Tryz.f28.ntmps := .of [(0, [0,1], [], [], []), (1, [1,5], [], [], []), (2, [1,5,13], [], [], []), (3, [4], [], [], []), (4, [4], [], [], [])] hm Go.Proofs.Tryz.func28
def c29_1 := xG [xo 2 (.box (xt 0)),
 xo 3 (.box (xt 1)),
 xo 4 (.mv (xb false))] [2,3]
def c29_2 := xG [xo 5 (.fa (xt 2) 0),
 xo 6 (.ld (xt 5) 1 false),
 xo 7 (.fa (xt 3) 0),
 xo 8 (.ld (xt 7) 1 false),
 xo 9 (.call 57 [xt 6, xt 8]),
 xm 10 9,
 xT 11 10 (.fa (xt 2) 1),
 xT 12 10 (.ld (xt 11) 1 false),
 xT 13 10 (.fa (xt 3) 1),
 xT 14 10 (.ld (xt 13) 1 false),
 xT 15 10 (.call 58 [xt 12, xt 14]),
 xo 16 (.pick (xt 10) (xt 15) (xb false)),
 xm 4 16] [4]
def c29_3 := xQ c29_2 xR
def c29_4 := xQ c29_1 c29_3
abbrev n_impl_EqualMachines : Nat := 29
theorem k_impl_EqualMachines : Known Pr mu n_impl_EqualMachines (c29_4 ()) [.t 4] Go.Proofs.Tryz.f29.ntmps := .of [(0, [2,3], [], [], []), (1, [4], [], [], [])] hm Go.Proofs.Tryz.func29
def c30_1 := xG [xo 2 (.alloc [.int .i64 0, .int .i64 0, .slice none 0 0, .slice none 0 0])] [0,2]
def c30_2 := xG [xm 6 0,
 xo 7 (.callp 44 [xt 6]),
 xm 3 7] [0,2,3]
def c30_3 := xG [xm 9 3,
 xm 10 0,
 xm 11 3,
 xo 12 (.len false (xt 11)),
 xo 13 (.bin .add (xt 12) (xi 1)),
 xo 14 (.callp 20 [xt 10, xt 13]),
 xo 15 (.call 7 [xt 9, xt 14]),
 xm 8 15,
 xo 16 (.ext (xt 8) 0),
 xo 17 (.ext (xt 8) 1),
 xo 4 (.alloc [.int .i64 0, .int .i64 0, .slice none 0 0, .slice none 0 0]),
 xn (.sto (xt 4) (xt 16) 4),
 xm 5 17] [0,2,4]
def c30_4 := xG [xm 18 0,
 xo 19 (.callp 20 [xt 18, xi 14])] [0,2,4,19]
def c30_5 := xG [xo 21 (.bin .eql (xt 19) (xi 0)),
 xm 20 21] [0,2,4,19,20]
def c30_6 := xG [xm 22 0,
 xo 23 (.bsl 1 3 [.int .i64 0] [(0, (xi (-1))), (1, (xi 16)), (2, (xi 17))]),
 xo 24 (.callp 45 [xt 22, xt 23]),
 xo 25 (.fa (xt 4) 0),
 xn (.sto (xt 25) (xt 24) 1)] [2,4]
def c30_7 := xG [xo 27 (.bin .eql (xt 19) (xi 1)),
 xm 26 27] [0,2,4,19,26]
def c30_8 := xG [xm 28 0,
 xo 29 (.bsl 1 3 [.int .i64 0] [(0, (xi (-1))), (1, (xi 9972)), (2, (xi 9973))]),
 xo 30 (.callp 45 [xt 28, xt 29]),
 xo 31 (.fa (xt 4) 1),
 xn (.sto (xt 31) (xt 30) 1)] [2,4]
def c30_9 := xG [xo 33 (.bin .eql (xt 19) (xi 2)),
 xm 32 33] [0,2,4,32]
def c30_10 := xG [xm 34 0,
 xo 35 (.callp 59 [xt 34]),
 xo 36 (.fa (xt 4) 2),
 xn (.sto (xt 36) (xt 35) 2)] [2,4]
def c30_11 := xC 32 c30_10 xS
def c30_12 := xQ c30_9 c30_11
def c30_13 := xC 26 c30_8 c30_12
def c30_14 := xQ c30_7 c30_13
def c30_15 := xC 20 c30_6 c30_14
def c30_16 := xQ c30_5 c30_15
def c30_17 := xB 0 c30_16
def c30_18 := xQ c30_4 c30_17
def c30_19 := xG [xo 37 (.ld (xt 4) 4 true),
 xn (.sto (xt 2) (xt 37) 4)] [2]
def c30_20 := xQ c30_19 xR
def c30_21 := xQ c30_18 c30_20
def c30_22 := xQ c30_3 c30_21
def c30_23 := xQ c30_2 c30_22
def c30_24 := xQ c30_1 c30_23
abbrev n_spec_l7Snap : Nat := 30
theorem k_spec_l7Snap : Known Pr mu n_spec_l7Snap (c30_24 ()) [.c 2 4 true] Go.Proofs.Tryz.f30.ntmps := .of [(0, [0,2], [], [], []), (1, [0,2,3], [], [], []), (2, [0,2,4], [], [], []), (3, [0,2,4,19], [], [], []), (4, [0,2,4,19,20], [], [], []), (5, [2,4], [], [], []), (6, [0,2,4,19,26], [], [], []), (7, [2,4], [], [], []), (8, [0,2,4,32], [], [], []), (9, [2,4], [], [], []), (10, [2], [], [], [])] hm Go.Proofs.Tryz.func30
def c31_1 := xG [xo 1 (.box (xt 0)),
 xo 2 (.mv (xb false))] [1]
def c31_2 := xG [xo 5 (.fa (xt 1) 0),
 xo 6 (.ld (xt 5) 1 false),
 xo 7 (.len false (xt 6)),
 xo 8 (.bin .neq (xt 7) (xi 3)),
 xm 9 8,
 xF 10 9 (.fa (xt 1) 0),
 xF 11 9 (.ld (xt 10) 1 false),
 xF 12 9 (.call 60 [xt 11, (.func 61)]),
 xo 13 (.pick (xt 9) (xb true) (xt 12))] [1,13]
def c31_3 := xG [xo 2 (.mv (xb false))] [2]
def c31_4 := xQ c31_3 xR
def c31_5 := xC 13 c31_4 xS
def c31_6 := xQ c31_2 c31_5
def c31_7 := xG [xo 14 (.fa (xt 1) 1),
 xo 15 (.ld (xt 14) 1 false),
 xo 16 (.len false (xt 15)),
 xo 17 (.mv (xi 0))] [1,15,16,17]
def c31_8 := xG [xo 18 (.bin .lss (xt 17) (xt 16))] [1,15,16,17,18]
def c31_9 := xC 18 xS (xE 0)
def c31_10 := xG [xm 19 17,
 xo 20 (.ia (xt 15) (xt 17) 4),
 xo 21 (.ld (xt 20) 4 true),
 xo 4 (.alloc [.int .i64 0, .int .i64 0, .bool false, .int .i64 0]),
 xm 3 19,
 xn (.sto (xt 4) (xt 21) 4)] [1,3,4,15,16,17]
def c31_11 := xG [xo 22 (.fa (xt 4) 0),
 xo 23 (.ld (xt 22) 1 false),
 xo 24 (.call 22 [xt 23, xi 0, xi 2]),
 xo 25 (.not (xt 24)),
 xm 26 25,
 xF 27 26 (.mv (xt 3)),
 xF 28 26 (.bin .gtr (xt 27) (xi 0)),
 xF 29 26 (.mv (xt 28)),
 xT 30 29 (.fa (xt 4) 0),
 xT 31 29 (.ld (xt 30) 1 false),
 ⟨(some 32), .fa (xt 1) 1, (some (29, true)), [8, 9]⟩,
 ⟨(some 33), .ld (xt 32) 1 false, (some (29, true)), [8, 9]⟩,
 xT 34 29 (.mv (xt 3)),
 xT 35 29 (.bin .sub (xt 34) (xi 1)),
 ⟨(some 36), .ia (xt 33) (xt 35) 4, (some (29, true)), [8, 9]⟩,
 ⟨(some 37), .fa (xt 36) 0, (some (29, true)), [8, 9]⟩,
 ⟨(some 38), .ld (xt 37) 1 false, (some (29, true)), [8, 9]⟩,
 xT 39 29 (.bin .leq (xt 31) (xt 38)),
 xF 40 26 (.pick (xt 29) (xt 39) (xb false)),
 xo 41 (.pick (xt 26) (xb true) (xt 40)),
 xm 42 41,
 xF 43 42 (.fa (xt 4) 1),
 xF 44 42 (.ld (xt 43) 1 false),
 xF 45 42 (.call 22 [xt 44, xi 1, xi 99]),
 xF 46 42 (.not (xt 45)),
 xo 47 (.pick (xt 42) (xb true) (xt 46)),
 xm 48 47,
 xF 49 48 (.fa (xt 4) 2),
 xF 50 48 (.fa (xt 49) 1),
 xF 51 48 (.ld (xt 50) 1 false),
 xF 52 48 (.call 22 [xt 51, xi 0, xi 9]),
 xF 53 48 (.not (xt 52)),
 xo 54 (.pick (xt 48) (xb true) (xt 53))] [1,15,16,17,54]
def c31_12 := xG [xo 2 (.mv (xb false))] [2]
def c31_13 := xQ c31_12 xR
def c31_14 := xC 54 c31_13 xS
def c31_15 := xQ c31_11 c31_14
def c31_16 := xQ c31_10 c31_15
def c31_17 := xB 1 c31_16
def c31_18 := xG [xo 55 (.bin .add (xt 17) (xi 1)),
 xm 17 55] [1,15,16,17]
def c31_19 := xQ c31_17 c31_18
def c31_20 := xQ c31_9 c31_19
def c31_21 := xQ c31_8 c31_20
def c31_22 := xL c31_21
def c31_23 := xB 0 c31_22
def c31_24 := xQ c31_7 c31_23
def c31_25 := xG [xo 2 (.mv (xb true))] [2]
def c31_26 := xQ c31_25 xR
def c31_27 := xQ c31_24 c31_26
def c31_28 := xQ c31_6 c31_27
def c31_29 := xQ c31_1 c31_28
abbrev n_impl_IsValidMachine : Nat := 31
theorem k_impl_IsValidMachine : Known Pr mu n_impl_IsValidMachine (c31_29 ()) [.t 2] Go.Proofs.Tryz.f31.ntmps := .of [(0, [1], [], [], []), (1, [1,13], [], [], []), (2, [2], [], [], []), (3, [1,15,16,17], [], [], []), (4, [1,15,16,17,18], [], [], []), (5, [1,3,4,15,16,17], [], [], []), (6, [1,15,16,17,54], [[],[],[],[],[],[],[],[],[],[],[8,9],[8,9],[],[],[8,9],[8,9],[8,9]], [], []), (7, [2], [], [], []), (8, [1,15,16,17], [], [], []), (9, [2], [], [], [])] hm Go.Proofs.Tryz.func31
def c32_1 := xG [xo 2 (.mv (.const (.string ⟨#[]⟩)))] [0]
def c32_2 := xG [xm 3 0,
 xo 4 (.call 62 [xt 3]),
 xm 2 4] [2]
def c32_3 := xQ c32_2 xR
def c32_4 := xQ c32_1 c32_3
abbrev n_impl_FormatInt : Nat := 32
theorem k_impl_FormatInt : Known Pr mu n_impl_FormatInt (c32_4 ()) [.t 2] Go.Proofs.Tryz.f32.ntmps := .of [(0, [0], [], [], []), (1, [2], [], [], [])] hm Go.Proofs.Tryz.func32
def c33_1 := xG [xo 1 (.box (xt 0)),
 xo 2 (.mv (.const (.string ⟨#[]⟩)))] [1]
def c33_2 := xG [xo 9 (.ld (xt 1) 2 true),
 xo 10 (.call 31 [xt 9]),
 xo 11 (.not (xt 10))] [1,11]
def c33_3 := xG [xo 2 (.mv (.const (.string ⟨#[]⟩)))] [2]
def c33_4 := xQ c33_3 xR
def c33_5 := xC 11 c33_4 xS
def c33_6 := xQ c33_2 c33_5
def c33_7 := xG [xo 3 (.mv (.const (.string ⟨#[]⟩)))] [1,3]
def c33_8 := xG [xo 12 (.fa (xt 1) 0),
 xo 13 (.ld (xt 12) 1 false),
 xo 14 (.len false (xt 13)),
 xo 15 (.mv (xi 0))] [1,3,13,14,15]
def c33_9 := xG [xo 16 (.bin .lss (xt 15) (xt 14))] [1,3,13,14,15,16]
def c33_10 := xC 16 xS (xE 0)
def c33_11 := xG [xo 17 (.ia (xt 13) (xt 15) 1),
 xo 18 (.ld (xt 17) 1 false),
 xm 5 18] [1,3,5,13,14,15]
def c33_12 := xG [xm 19 3,
 xm 20 5,
 xo 21 (.call 32 [xt 20]),
 xo 22 (.bin .add (xt 19) (xt 21)),
 xm 3 22] [1,3,13,14,15]
def c33_13 := xQ c33_11 c33_12
def c33_14 := xB 1 c33_13
def c33_15 := xG [xo 23 (.bin .add (xt 15) (xi 1)),
 xm 15 23] [1,3,13,14,15]
def c33_16 := xQ c33_14 c33_15
def c33_17 := xQ c33_10 c33_16
def c33_18 := xQ c33_9 c33_17
def c33_19 := xL c33_18
def c33_20 := xB 0 c33_19
def c33_21 := xQ c33_8 c33_20
def c33_22 := xG [xo 24 (.fa (xt 1) 1),
 xo 25 (.ld (xt 24) 1 false),
 xo 26 (.len false (xt 25)),
 xo 27 (.mv (xi 0))] [3,25,26,27]
def c33_23 := xG [xo 28 (.bin .lss (xt 27) (xt 26))] [3,25,26,27,28]
def c33_24 := xC 28 xS (xE 2)
def c33_25 := xG [xo 29 (.ia (xt 25) (xt 27) 4),
 xo 30 (.ld (xt 29) 4 true),
 xo 7 (.alloc [.int .i64 0, .int .i64 0, .bool false, .int .i64 0]),
 xn (.sto (xt 7) (xt 30) 4)] [3,7,25,26,27]
def c33_26 := xG [xo 8 (.mv (.const (.string ⟨#[45]⟩)))] [3,7,8,25,26,27]
def c33_27 := xG [xo 31 (.fa (xt 7) 2),
 xo 32 (.fa (xt 31) 0),
 xo 33 (.ld (xt 32) 1 false)] [3,7,8,25,26,27,33]
def c33_28 := xG [xo 8 (.mv (.const (.string ⟨#[43]⟩)))] [3,7,8,25,26,27]
def c33_29 := xC 33 c33_28 xS
def c33_30 := xQ c33_27 c33_29
def c33_31 := xG [xm 34 3,
 ⟨(some 35), .fa (xt 7) 0, none, [0]⟩,
 ⟨(some 36), .ld (xt 35) 1 false, none, [0]⟩,
 ⟨(some 37), .call 32 [xt 36], none, [0]⟩,
 xo 38 (.bin .add (.const (.string ⟨#[32]⟩)) (xt 37)),
 xo 39 (.bin .add (xt 38) (.const (.string ⟨#[46]⟩))),
 ⟨(some 40), .fa (xt 7) 1, none, [0, 1, 2, 3, 4, 5]⟩,
 ⟨(some 41), .ld (xt 40) 1 false, none, [0, 1, 2, 3, 4, 5]⟩,
 ⟨(some 42), .call 32 [xt 41], none, [0, 4, 5]⟩,
 xo 43 (.bin .add (xt 39) (xt 42)),
 xm 44 8,
 xo 45 (.bin .add (xt 43) (xt 44)),
 ⟨(some 46), .fa (xt 7) 2, none, [0, 1, 2, 3, 4, 5, 6, 7, 8, 9, 10, 11]⟩,
 ⟨(some 47), .fa (xt 46) 1, none, [0, 1, 2, 3, 4, 5, 6, 7, 8, 9, 10, 11]⟩,
 ⟨(some 48), .ld (xt 47) 1 false, none, [0, 1, 2, 3, 4, 5, 6, 7, 8, 9, 10, 11]⟩,
 ⟨(some 49), .call 32 [xt 48], none, [0, 4, 5, 9, 10, 11]⟩,
 xo 50 (.bin .add (xt 45) (xt 49)),
 xo 51 (.bin .add (xt 34) (xt 50)),
 xm 3 51] [3,25,26,27]
def c33_32 := xQ c33_30 c33_31
def c33_33 := xQ c33_26 c33_32
def c33_34 := xQ c33_25 c33_33
def c33_35 := xB 3 c33_34
def c33_36 := xG [xo 52 (.bin .add (xt 27) (xi 1)),
 xm 27 52] [3,25,26,27]
def c33_37 := xQ c33_35 c33_36
def c33_38 := xQ c33_24 c33_37
def c33_39 := xQ c33_23 c33_38
def c33_40 := xL c33_39
def c33_41 := xB 2 c33_40
def c33_42 := xQ c33_22 c33_41
def c33_43 := xG [xm 53 3,
 xm 2 53] [2]
def c33_44 := xQ c33_43 xR
def c33_45 := xQ c33_42 c33_44
def c33_46 := xQ c33_21 c33_45
def c33_47 := xQ c33_7 c33_46
def c33_48 := xQ c33_6 c33_47
def c33_49 := xQ c33_1 c33_48
abbrev n_impl_FormatMachine : Nat := 33
theorem k_impl_FormatMachine : Known Pr mu n_impl_FormatMachine (c33_49 ()) [.t 2] Go.Proofs.Tryz.f33.ntmps := .of [(0, [1], [], [], []), (1, [1,11], [], [], []), (2, [2], [], [], []), (3, [1,3], [], [], []), (4, [1,3,13,14,15], [], [], []), (5, [1,3,13,14,15,16], [], [], []), (6, [1,3,5,13,14,15], [], [], []), (7, [1,3,13,14,15], [], [], []), (8, [1,3,13,14,15], [], [], []), (9, [3,25,26,27], [], [], []), (10, [3,25,26,27,28], [], [], []), (11, [3,7,25,26,27], [], [], []), (12, [3,7,8,25,26,27], [], [], []), (13, [3,7,8,25,26,27,33], [], [], []), (14, [3,7,8,25,26,27], [], [], []), (15, [3,25,26,27], [[],[0],[0],[0],[],[],[0,1,2,3,4,5],[0,1,2,3,4,5],[0,4,5],[],[],[],[0,1,2,3,4,5,6,7,8,9,10,11],[0,1,2,3,4,5,6,7,8,9,10,11],[0,1,2,3,4,5,6,7,8,9,10,11],[0,4,5,9,10,11]], [], []), (16, [3,25,26,27], [], [], []), (17, [2], [], [], [])] hm Go.Proofs.Tryz.func33
def c34_1 := xG [xo 6 (.mv (.const (.slice none 0 0)))] [0,1,2]
def c34_2 := xG [xm 7 0,
 xm 8 1,
 xm 9 2,
 xo 10 (.call 63 [xt 7, xt 8, xi 0, xt 9]),
 xm 6 10] [6]
def c34_3 := xQ c34_2 xR
def c34_4 := xQ c34_1 c34_3
abbrev n_strings_SplitN : Nat := 34
theorem k_strings_SplitN : Known Pr mu n_strings_SplitN (c34_4 ()) [.t 6] Go.Proofs.Tryz.f34.ntmps := .of [(0, [0,1,2], [], [], []), (1, [6], [], [], [])] hm Go.Proofs.Tryz.func34
def c35_1 := xG [xo 2 (.alloc [.slice none 0 0, .slice none 0 0]),
 xo 3 (.mv (xb false))] [0,2]
def c35_2 := xG [xm 13 0,
 xo 14 (.call 64 [xt 13, (.const (.string ⟨#[32]⟩))]),
 xo 15 (.bld [.slice none 0 0, .slice none 0 0] []),
 xo 5 (.alloc [.slice none 0 0, .slice none 0 0]),
 xm 4 14,
 xn (.sto (xt 5) (xt 15) 2)] [0,2,4,5]
def c35_3 := xG [xm 16 4,
 xo 17 (.ia (xt 16) (xi 0) 1),
 xo 18 (.ld (xt 17) 1 false),
 xo 19 (.len true (xt 18)),
 xo 20 (.mv (xi 0))] [0,2,4,5,19,20]
def c35_4 := xG [xo 21 (.bin .lss (xt 20) (xt 19))] [0,2,4,5,19,20,21]
def c35_5 := xC 21 xS (xE 0)
def c35_6 := xG [xm 22 20,
 xm 6 22] [0,2,4,5,6,19,20]
def c35_7 := xG [xo 23 (.fa (xt 5) 0),
 xo 24 (.ld (xt 23) 1 false),
 xm 25 4,
 ⟨(some 26), .ia (xt 25) (xi 0) 1, none, [0, 1]⟩,
 ⟨(some 27), .ld (xt 26) 1 false, none, [0, 1]⟩,
 xm 28 6,
 xo 29 (.sidx (xt 27) (xt 28)),
 ⟨(some 30), .conv .i64 (xt 29), none, [0, 1]⟩,
 xo 31 (.bin .sub (xt 30) (xi 48)),
 xo 32 (.bsl 1 1 [.int .i64 0] [(0, (xt 31))]),
 xo 33 (.app (xt 24) (xt 32) 1 8),
 xo 34 (.fa (xt 5) 0),
 xn (.sto (xt 34) (xt 33) 1)] [0,2,4,5,19,20]
def c35_8 := xQ c35_6 c35_7
def c35_9 := xB 1 c35_8
def c35_10 := xG [xo 35 (.bin .add (xt 20) (xi 1)),
 xm 20 35] [0,2,4,5,19,20]
def c35_11 := xQ c35_9 c35_10
def c35_12 := xQ c35_5 c35_11
def c35_13 := xQ c35_4 c35_12
def c35_14 := xL c35_13
def c35_15 := xB 0 c35_14
def c35_16 := xQ c35_3 c35_15
def c35_17 := xG [xm 36 4,
 xo 37 (.slc false (xt 36) (some (xi 1)) none none 1),
 xo 38 (.len false (xt 37)),
 xo 39 (.mv (xi 0))] [0,2,5,37,38,39]
def c35_18 := xG [xo 40 (.bin .lss (xt 39) (xt 38))] [0,2,5,37,38,39,40]
def c35_19 := xC 40 xS (xE 2)
def c35_20 := xG [xo 41 (.ia (xt 37) (xt 39) 1),
 xo 42 (.ld (xt 41) 1 false),
 xm 8 42] [0,2,5,8,37,38,39]
def c35_21 := xG [xm 44 8,
 xo 45 (.call 65 [xt 44, (.const (.string ⟨#[46]⟩))]),
 xm 43 45,
 xo 46 (.ext (xt 43) 0),
 xo 47 (.ext (xt 43) 1),
 xo 48 (.ext (xt 43) 2),
 xm 9 46,
 xm 10 47,
 xm 11 48] [0,2,5,9,10,37,38,39]
def c35_22 := xG [xm 49 10,
 xo 50 (.call 66 [xt 49, (.const (.string ⟨#[43, 45]⟩))]),
 xm 12 50] [0,2,5,9,10,12,37,38,39]
def c35_23 := xG [xm 51 12,
 xo 52 (.bin .lss (xt 51) (xi 0))] [0,2,5,9,10,12,37,38,39,52]
def c35_24 := xG [xo 53 (.bld [.slice none 0 0, .slice none 0 0] []),
 xn (.sto (xt 2) (xt 53) 2),
 xo 3 (.mv (xb false))] [2,3]
def c35_25 := xQ c35_24 xR
def c35_26 := xC 52 c35_25 xS
def c35_27 := xQ c35_23 c35_26
def c35_28 := xG [xo 54 (.fa (xt 5) 1),
 xo 55 (.ld (xt 54) 1 false),
 xm 56 9,
 ⟨(some 57), .call 36 [xt 56], none, [0, 1]⟩,
 xm 58 10,
 xm 59 12,
 ⟨(some 60), .slc true (xt 58) none (some (xt 59)) none 0, none, [0, 1, 2, 3]⟩,
 ⟨(some 61), .call 36 [xt 60], none, [0, 1]⟩,
 xm 62 10,
 xm 63 12,
 xo 64 (.sidx (xt 62) (xt 63)),
 xo 65 (.bin .eql (xt 64) (.const (.int .u8 43))),
 xm 66 10,
 xm 67 12,
 xo 68 (.bin .add (xt 67) (xi 1)),
 ⟨(some 69), .slc true (xt 66) (some (xt 68)) none none 0, none, [0, 1, 2, 3, 4, 5, 6, 7, 8, 9, 10, 11]⟩,
 ⟨(some 70), .call 36 [xt 69], none, [0, 1, 8, 9, 10, 11]⟩,
 xo 71 (.bld [.bool false, .int .i64 0] [(0, 1, (xt 65)), (1, 1, (xt 70))]),
 xo 72 (.bld [.int .i64 0, .int .i64 0, .bool false, .int .i64 0] [(0, 1, (xt 57)), (1, 1, (xt 61)), (2, 2, (xt 71))]),
 xo 73 (.bsl 4 1 [.int .i64 0, .int .i64 0, .bool false, .int .i64 0] [(0, (xt 72))]),
 xo 74 (.app (xt 55) (xt 73) 4 32),
 xo 75 (.fa (xt 5) 1),
 xn (.sto (xt 75) (xt 74) 1)] [0,2,5,37,38,39]
def c35_29 := xQ c35_27 c35_28
def c35_30 := xQ c35_22 c35_29
def c35_31 := xQ c35_21 c35_30
def c35_32 := xQ c35_20 c35_31
def c35_33 := xB 3 c35_32
def c35_34 := xG [xo 76 (.bin .add (xt 39) (xi 1)),
 xm 39 76] [0,2,5,37,38,39]
def c35_35 := xQ c35_33 c35_34
def c35_36 := xQ c35_19 c35_35
def c35_37 := xQ c35_18 c35_36
def c35_38 := xL c35_37
def c35_39 := xB 2 c35_38
def c35_40 := xQ c35_17 c35_39
def c35_41 := xG [xm 77 0,
 xo 78 (.bin .eql (xt 77) (.const (.string ⟨#[]⟩))),
 xm 79 78,
 xF 80 79 (.ld (xt 5) 2 true),
 xF 81 79 (.call 33 [xt 80]),
 xF 82 79 (.mv (xt 0)),
 xF 83 79 (.bin .neq (xt 81) (xt 82)),
 xo 84 (.pick (xt 79) (xb true) (xt 83))] [2,5,84]
def c35_42 := xG [xo 85 (.bld [.slice none 0 0, .slice none 0 0] []),
 xn (.sto (xt 2) (xt 85) 2),
 xo 3 (.mv (xb false))] [2,3]
def c35_43 := xQ c35_42 xR
def c35_44 := xC 84 c35_43 xS
def c35_45 := xQ c35_41 c35_44
def c35_46 := xG [xo 86 (.ld (xt 5) 2 true),
 xn (.sto (xt 2) (xt 86) 2),
 xo 3 (.mv (xb true))] [2,3]
def c35_47 := xQ c35_46 xR
def c35_48 := xQ c35_45 c35_47
def c35_49 := xQ c35_40 c35_48
def c35_50 := xQ c35_16 c35_49
def c35_51 := xQ c35_2 c35_50
def c35_52 := xQ c35_1 c35_51
abbrev n_impl_ParseMachine : Nat := 35
theorem k_impl_ParseMachine : Known Pr mu n_impl_ParseMachine (c35_52 ()) [.c 2 2 true, .t 3] Go.Proofs.Tryz.f35.ntmps := .of [(0, [0,2], [], [], []), (1, [0,2,4,5], [], [], []), (2, [0,2,4,5,19,20], [], [], []), (3, [0,2,4,5,19,20,21], [], [], []), (4, [0,2,4,5,6,19,20], [], [], []), (5, [0,2,4,5,19,20], [[],[],[],[0,1],[0,1],[],[],[0,1]], [], []), (6, [0,2,4,5,19,20], [], [], []), (7, [0,2,5,37,38,39], [], [], []), (8, [0,2,5,37,38,39,40], [], [], []), (9, [0,2,5,8,37,38,39], [], [], []), (10, [0,2,5,9,10,37,38,39], [], [], []), (11, [0,2,5,9,10,12,37,38,39], [], [], []), (12, [0,2,5,9,10,12,37,38,39,52], [], [], []), (13, [2,3], [], [], []), (14, [0,2,5,37,38,39], [[],[],[],[0,1],[],[],[0,1,2,3],[0,1],[],[],[],[],[],[],[],[0,1,2,3,4,5,6,7,8,9,10,11],[0,1,8,9,10,11]], [], []), (15, [0,2,5,37,38,39], [], [], []), (16, [2,5,84], [], [], []), (17, [2,3], [], [], []), (18, [2,3], [], [], [])] hm Go.Proofs.Tryz.func35
def c36_1 := xG [xo 2 (.mv (xi 0))] [0]
def c36_2 := xG [xm 6 0,
 xo 7 (.call 67 [xt 6]),
 xm 5 7,
 xo 8 (.ext (xt 5) 0),
 xo 9 (.ext (xt 5) 1),
 xm 3 8,
 xm 4 9] [3,4]
def c36_3 := xG [xm 10 4,
 xo 11 (.not (xt 10))] [3,11]
def c36_4 := xG [xo 2 (.mv (xi (-1)))] [2]
def c36_5 := xQ c36_4 xR
def c36_6 := xC 11 c36_5 xS
def c36_7 := xQ c36_3 c36_6
def c36_8 := xG [xm 12 3,
 xm 2 12] [2]
def c36_9 := xQ c36_8 xR
def c36_10 := xQ c36_7 c36_9
def c36_11 := xQ c36_2 c36_10
def c36_12 := xQ c36_1 c36_11
abbrev n_impl_number : Nat := 36
theorem k_impl_number : Known Pr mu n_impl_number (c36_12 ()) [.t 2] Go.Proofs.Tryz.f36.ntmps := .of [(0, [0], [], [], []), (1, [3,4], [], [], []), (2, [3,11], [], [], []), (3, [2], [], [], []), (4, [2], [], [], [])] hm Go.Proofs.Tryz.func36
def c37_1 := xG [xo 1 (.box (xt 0)),
 xo 2 (.mv (xb false))] [1]
def c37_2 := xG [xo 3 (.fa (xt 1) 0),
 xo 4 (.ld (xt 3) 1 false),
 xo 5 (.call 26 [xt 4, xi 0, xi 16]),
 xm 6 5,
 xT 7 6 (.fa (xt 1) 1),
 xT 8 6 (.ld (xt 7) 1 false),
 xT 9 6 (.call 26 [xt 8, xi 0, xi 9972]),
 xo 10 (.pick (xt 6) (xt 9) (xb false)),
 xm 11 10,
 xT 12 11 (.fa (xt 1) 2),
 xT 13 11 (.ld (xt 12) 2 true),
 xT 14 11 (.call 68 [xt 13]),
 xo 15 (.pick (xt 11) (xt 14) (xb false)),
 xm 2 15] [2]
def c37_3 := xQ c37_2 xR
def c37_4 := xQ c37_1 c37_3
abbrev n_spec_l7Good : Nat := 37
theorem k_spec_l7Good : Known Pr mu n_spec_l7Good (c37_4 ()) [.t 2] Go.Proofs.Tryz.f37.ntmps := .of [(0, [1], [], [], []), (1, [2], [], [], [])] hm Go.Proofs.Tryz.func37
def c38_1 := xG [xo 2 (.mv (.const (.string ⟨#[]⟩)))] [0]
def c38_2 := xG [xm 6 0,
 xo 7 (.bin .eql (xt 6) (xi 0))] [0,7]
def c38_3 := xG [xo 2 (.mv (.const (.string ⟨#[48]⟩)))] [2]
def c38_4 := xQ c38_3 xR
def c38_5 := xC 7 c38_4 xS
def c38_6 := xQ c38_2 c38_5
def c38_7 := xG [xo 3 (.mv (.const (.string ⟨#[]⟩)))] [0,3]
def c38_8 := xG [xm 8 0,
 xo 9 (.bin .lss (xt 8) (xi 0)),
 xm 4 9] [0,3,4]
def c38_9 := xG [xm 10 0,
 xo 11 (.bin .neq (xt 10) (xi 0))] [0,3,4,11]
def c38_10 := xC 11 xS (xE 0)
def c38_11 := xQ c38_9 c38_10
def c38_12 := xG [xm 12 0,
 xo 13 (.bin .rem (xt 12) (xi 10)),
 xm 5 13] [0,3,4,5]
def c38_13 := xG [xm 14 5,
 xo 15 (.bin .lss (xt 14) (xi 0))] [0,3,4,5,15]
def c38_14 := xG [xm 16 5,
 xo 17 (.neg (xt 16)),
 xm 5 17] [0,3,4,5]
def c38_15 := xC 15 c38_14 xS
def c38_16 := xQ c38_13 c38_15
def c38_17 := xG [xm 18 5,
 xo 19 (.bin .add (xi 48) (xt 18)),
 xo 20 (.conv .u8 (xt 19)),
 xo 21 (.bsl 1 1 [.int .u8 0] [(0, (xt 20))]),
 xo 22 (.cst (xt 21)),
 xm 23 3,
 xo 24 (.bin .add (xt 22) (xt 23)),
 xm 3 24] [0,3,4]
def c38_18 := xG [xm 25 0,
 xo 26 (.bin .quo (xt 25) (xi 10)),
 xm 0 26] [0,3,4]
def c38_19 := xQ c38_17 c38_18
def c38_20 := xQ c38_16 c38_19
def c38_21 := xQ c38_12 c38_20
def c38_22 := xB 1 c38_21
def c38_23 := xQ c38_11 c38_22
def c38_24 := xL c38_23
def c38_25 := xB 0 c38_24
def c38_26 := xG [xm 27 4] [3,27]
def c38_27 := xG [xm 28 3,
 xo 29 (.bin .add (.const (.string ⟨#[45]⟩)) (xt 28)),
 xm 2 29] [2]
def c38_28 := xQ c38_27 xR
def c38_29 := xC 27 c38_28 xS
def c38_30 := xQ c38_26 c38_29
def c38_31 := xG [xm 30 3,
 xm 2 30] [2]
def c38_32 := xQ c38_31 xR
def c38_33 := xQ c38_30 c38_32
def c38_34 := xQ c38_25 c38_33
def c38_35 := xQ c38_8 c38_34
def c38_36 := xQ c38_7 c38_35
def c38_37 := xQ c38_6 c38_36
def c38_38 := xQ c38_1 c38_37
abbrev n_spec_FormatInt : Nat := 38
theorem k_spec_FormatInt : Known Pr mu n_spec_FormatInt (c38_38 ()) [.t 2] Go.Proofs.Tryz.f38.ntmps := .of [(0, [0], [], [], []), (1, [0,7], [], [], []), (2, [2], [], [], []), (3, [0,3], [], [], []), (4, [0,3,4], [], [], []), (5, [0,3,4,11], [], [], []), (6, [0,3,4,5], [], [], []), (7, [0,3,4,5,15], [], [], []), (8, [0,3,4,5], [], [], []), (9, [0,3,4], [], [], []), (10, [0,3,4], [], [], []), (11, [3,27], [], [], []), (12, [2], [], [], []), (13, [2], [], [], [])] hm Go.Proofs.Tryz.func38
def c39_1 := xG [xo 1 (.box (xt 0)),
 xo 2 (.mv (.const (.string ⟨#[]⟩)))] [1]
def c39_2 := xG [xo 8 (.ld (xt 1) 2 true),
 xo 9 (.call 68 [xt 8]),
 xo 10 (.not (xt 9))] [1,10]
def c39_3 := xG [xo 2 (.mv (.const (.string ⟨#[]⟩)))] [2]
def c39_4 := xQ c39_3 xR
def c39_5 := xC 10 c39_4 xS
def c39_6 := xQ c39_2 c39_5
def c39_7 := xG [xo 3 (.mv (.const (.string ⟨#[]⟩)))] [1,3]
def c39_8 := xG [xo 4 (.mv (xi 0))] [1,3,4]
def c39_9 := xG [xm 11 4,
 xo 12 (.fa (xt 1) 0),
 xo 13 (.ld (xt 12) 1 false),
 xo 14 (.len false (xt 13)),
 xo 15 (.bin .lss (xt 11) (xt 14))] [1,3,4,15]
def c39_10 := xC 15 xS (xE 0)
def c39_11 := xQ c39_9 c39_10
def c39_12 := xG [xm 18 3,
 xo 19 (.fa (xt 1) 0),
 xo 20 (.ld (xt 19) 1 false),
 xm 21 4,
 xo 22 (.ia (xt 20) (xt 21) 1),
 xo 23 (.ld (xt 22) 1 false),
 xo 24 (.call 38 [xt 23]),
 xo 25 (.bin .add (xt 18) (xt 24)),
 xm 3 25] [1,3,4]
def c39_13 := xB 1 c39_12
def c39_14 := xG [xm 16 4,
 xo 17 (.bin .add (xt 16) (xi 1)),
 xm 4 17] [1,3,4]
def c39_15 := xQ c39_13 c39_14
def c39_16 := xQ c39_11 c39_15
def c39_17 := xL c39_16
def c39_18 := xB 0 c39_17
def c39_19 := xQ c39_8 c39_18
def c39_20 := xG [xo 5 (.mv (xi 0))] [1,3,5]
def c39_21 := xG [xm 26 5,
 xo 27 (.fa (xt 1) 1),
 xo 28 (.ld (xt 27) 1 false),
 xo 29 (.len false (xt 28)),
 xo 30 (.bin .lss (xt 26) (xt 29))] [1,3,5,30]
def c39_22 := xC 30 xS (xE 2)
def c39_23 := xQ c39_21 c39_22
def c39_24 := xG [xo 33 (.fa (xt 1) 1),
 xo 34 (.ld (xt 33) 1 false),
 xm 35 5,
 xo 36 (.ia (xt 34) (xt 35) 4),
 xo 37 (.ld (xt 36) 4 true),
 xo 6 (.alloc [.int .i64 0, .int .i64 0, .bool false, .int .i64 0]),
 xn (.sto (xt 6) (xt 37) 4)] [1,3,5,6]
def c39_25 := xG [xo 7 (.mv (.const (.string ⟨#[45]⟩)))] [1,3,5,6,7]
def c39_26 := xG [xo 38 (.fa (xt 6) 2),
 xo 39 (.fa (xt 38) 0),
 xo 40 (.ld (xt 39) 1 false)] [1,3,5,6,7,40]
def c39_27 := xG [xo 7 (.mv (.const (.string ⟨#[43]⟩)))] [1,3,5,6,7]
def c39_28 := xC 40 c39_27 xS
def c39_29 := xQ c39_26 c39_28
def c39_30 := xG [xm 41 3,
 xo 42 (.bin .add (xt 41) (.const (.string ⟨#[32]⟩))),
 ⟨(some 43), .fa (xt 6) 0, none, [0, 1]⟩,
 ⟨(some 44), .ld (xt 43) 1 false, none, [0, 1]⟩,
 ⟨(some 45), .call 38 [xt 44], none, [0, 1]⟩,
 xo 46 (.bin .add (xt 42) (xt 45)),
 xo 47 (.bin .add (xt 46) (.const (.string ⟨#[46]⟩))),
 ⟨(some 48), .fa (xt 6) 1, none, [0, 1, 2, 3, 4, 5, 6]⟩,
 ⟨(some 49), .ld (xt 48) 1 false, none, [0, 1, 2, 3, 4, 5, 6]⟩,
 ⟨(some 50), .call 38 [xt 49], none, [0, 1, 5, 6]⟩,
 xo 51 (.bin .add (xt 47) (xt 50)),
 xm 52 7,
 xo 53 (.bin .add (xt 51) (xt 52)),
 ⟨(some 54), .fa (xt 6) 2, none, [0, 1, 2, 3, 4, 5, 6, 7, 8, 9, 10, 11, 12]⟩,
 ⟨(some 55), .fa (xt 54) 1, none, [0, 1, 2, 3, 4, 5, 6, 7, 8, 9, 10, 11, 12]⟩,
 ⟨(some 56), .ld (xt 55) 1 false, none, [0, 1, 2, 3, 4, 5, 6, 7, 8, 9, 10, 11, 12]⟩,
 ⟨(some 57), .call 38 [xt 56], none, [0, 1, 5, 6, 10, 11, 12]⟩,
 xo 58 (.bin .add (xt 53) (xt 57)),
 xm 3 58] [1,3,5]
def c39_31 := xQ c39_29 c39_30
def c39_32 := xQ c39_25 c39_31
def c39_33 := xQ c39_24 c39_32
def c39_34 := xB 3 c39_33
def c39_35 := xG [xm 31 5,
 xo 32 (.bin .add (xt 31) (xi 1)),
 xm 5 32] [1,3,5]
def c39_36 := xQ c39_34 c39_35
def c39_37 := xQ c39_23 c39_36
def c39_38 := xL c39_37
def c39_39 := xB 2 c39_38
def c39_40 := xQ c39_20 c39_39
def c39_41 := xG [xm 59 3,
 xm 2 59] [2]
def c39_42 := xQ c39_41 xR
def c39_43 := xQ c39_40 c39_42
def c39_44 := xQ c39_19 c39_43
def c39_45 := xQ c39_7 c39_44
def c39_46 := xQ c39_6 c39_45
def c39_47 := xQ c39_1 c39_46
abbrev n_spec_FormatMachine : Nat := 39
theorem k_spec_FormatMachine : Known Pr mu n_spec_FormatMachine (c39_47 ()) [.t 2] Go.Proofs.Tryz.f39.ntmps := .of [(0, [1], [], [], []), (1, [1,10], [], [], []), (2, [2], [], [], []), (3, [1,3], [], [], []), (4, [1,3,4], [], [], []), (5, [1,3,4,15], [], [], []), (7, [1,3,4], [], [], []), (6, [1,3,4], [], [], []), (8, [1,3,5], [], [], []), (9, [1,3,5,30], [], [], []), (11, [1,3,5,6], [], [], []), (12, [1,3,5,6,7], [], [], []), (13, [1,3,5,6,7,40], [], [], []), (14, [1,3,5,6,7], [], [], []), (15, [1,3,5], [[],[],[0,1],[0,1],[0,1],[],[],[0,1,2,3,4,5,6],[0,1,2,3,4,5,6],[0,1,5,6],[],[],[],[0,1,2,3,4,5,6,7,8,9,10,11,12],[0,1,2,3,4,5,6,7,8,9,10,11,12],[0,1,2,3,4,5,6,7,8,9,10,11,12],[0,1,5,6,10,11,12]], [], []), (10, [1,3,5], [], [], []), (16, [2], [], [], [])] hm Go.Proofs.Tryz.func39
def c40_1 := xG [xo 6 (.mv (.const (.string ⟨#[]⟩)))] [0,1,2]
def c40_2 := xG [xm 8 0,
 xo 9 (.call 32 [xt 8]),
 xo 10 (.bin .add (xt 9) (.const (.string ⟨#[47]⟩))),
 xm 11 1,
 xo 12 (.call 32 [xt 11]),
 xo 13 (.bin .add (xt 10) (xt 12)),
 xo 14 (.bin .add (xt 13) (.const (.string ⟨#[58]⟩))),
 xm 15 2,
 xo 16 (.bin .add (xt 14) (xt 15)),
 xm 7 16] [7]
def c40_3 := xG [xm 17 7,
 xo 18 (.bin .add (xt 17) (.const (.string ⟨#[35]⟩))),
 xm 19 7,
 xo 20 (.call 69 [xt 19]),
 xo 21 (.call 32 [xt 20]),
 xo 22 (.bin .add (xt 18) (xt 21)),
 xm 6 22] [6]
def c40_4 := xQ c40_3 xR
def c40_5 := xQ c40_2 c40_4
def c40_6 := xQ c40_1 c40_5
abbrev n_impl_chunkText : Nat := 40
theorem k_impl_chunkText : Known Pr mu n_impl_chunkText (c40_6 ()) [.t 6] Go.Proofs.Tryz.f40.ntmps := .of [(0, [0,1,2], [], [], []), (1, [7], [], [], []), (2, [6], [], [], [])] hm Go.Proofs.Tryz.func40
def c41_1 := xG [xo 2 (.mv (.const (.slice none 0 0)))] [0]
def c41_2 := xG [xm 3 0,
 xo 4 (.nbin .eql (xt 3) (.const (.slice none 0 0)))] [0,4]
def c41_3 := xG [xo 2 (.mv (.const (.slice none 0 0)))] [2]
def c41_4 := xQ c41_3 xR
def c41_5 := xC 4 c41_4 xS
def c41_6 := xQ c41_2 c41_5
def c41_7 := xG [xo 5 (.bsl 1 0 [.string ⟨#[]⟩] []),
 xm 6 0,
 xo 7 (.app (xt 5) (xt 6) 1 16),
 xm 2 7] [2]
def c41_8 := xQ c41_7 xR
def c41_9 := xQ c41_6 c41_8
def c41_10 := xQ c41_1 c41_9
abbrev n_slices_Clone_stringstring : Nat := 41
theorem k_slices_Clone_stringstring : Known Pr mu n_slices_Clone_stringstring (c41_10 ()) [.t 2] Go.Proofs.Tryz.f41.ntmps := .of [(0, [0], [], [], []), (1, [0,4], [], [], []), (2, [2], [], [], []), (3, [2], [], [], [])] hm Go.Proofs.Tryz.func41
def c42_1 := xG [xo 2 (.mv (xi 0)),
 xo 3 (.mv (xi 0)),
 xo 4 (.mv (.const (.string ⟨#[]⟩))),
 xo 5 (.mv (xb false))] [0]
def c42_2 := xG [xm 15 0,
 xo 16 (.call 65 [xt 15, (.const (.string ⟨#[47]⟩))]),
 xm 14 16,
 xo 17 (.ext (xt 14) 0),
 xo 18 (.ext (xt 14) 1),
 xo 19 (.ext (xt 14) 2),
 xm 6 17,
 xm 7 18,
 xm 8 19] [0,6,7]
def c42_3 := xG [xm 21 7,
 xo 22 (.call 65 [xt 21, (.const (.string ⟨#[58]⟩))]),
 xm 20 22,
 xo 23 (.ext (xt 20) 0),
 xo 24 (.ext (xt 20) 1),
 xo 25 (.ext (xt 20) 2),
 xm 9 23,
 xm 7 24,
 xm 10 25] [0,6,7,9]
def c42_4 := xG [xm 26 7,
 xo 27 (.call 70 [xt 26, (.const (.int .u8 35))]),
 xm 11 27] [0,6,7,9,11]
def c42_5 := xG [xm 28 6,
 xo 29 (.call 36 [xt 28]),
 xm 30 9,
 xo 31 (.call 36 [xt 30]),
 xm 12 29,
 xm 13 31] [0,7,11,12,13]
def c42_6 := xG [xm 32 11,
 xo 33 (.bin .lss (xt 32) (xi 0)),
 xm 34 33,
 xF 35 34 (.mv (xt 13)),
 xF 36 34 (.call 22 [xt 35, xi 1, xi 40]),
 xF 37 34 (.not (xt 36)),
 xo 38 (.pick (xt 34) (xb true) (xt 37)),
 xm 39 38,
 xF 40 39 (.mv (xt 12)),
 xF 41 39 (.mv (xt 13)),
 xF 42 39 (.bin .sub (xt 41) (xi 1)),
 xF 43 39 (.call 22 [xt 40, xi 0, xt 42]),
 xF 44 39 (.not (xt 43)),
 xo 45 (.pick (xt 39) (xb true) (xt 44)),
 xm 46 45,
 xF 47 46 (.mv (xt 11)),
 xF 48 46 (.bin .eql (xt 47) (xi 0)),
 xF 49 46 (.mv (xt 48)),
 xT 50 49 (.mv (xt 13)),
 xT 51 49 (.bin .gtr (xt 50) (xi 1)),
 xF 52 46 (.pick (xt 49) (xt 51) (xb false)),
 xo 53 (.pick (xt 46) (xb true) (xt 52)),
 xm 54 53,
 xF 55 54 (.mv (xt 12)),
 xF 56 54 (.mv (xt 13)),
 xF 57 54 (.mv (xt 7)),
 xF 58 54 (.mv (xt 11)),
 xF 59 54 (.slc true (xt 57) none (some (xt 58)) none 0),
 xF 60 54 (.call 40 [xt 55, xt 56, xt 59]),
 xF 61 54 (.mv (xt 0)),
 xF 62 54 (.bin .neq (xt 60) (xt 61)),
 xo 63 (.pick (xt 54) (xb true) (xt 62))] [7,11,12,13,63]
def c42_7 := xG [xo 2 (.mv (xi 0)),
 xo 3 (.mv (xi 0)),
 xo 4 (.mv (.const (.string ⟨#[]⟩))),
 xo 5 (.mv (xb false))] [2,3,4,5]
def c42_8 := xQ c42_7 xR
def c42_9 := xC 63 c42_8 xS
def c42_10 := xQ c42_6 c42_9
def c42_11 := xG [xm 64 12,
 xm 65 13,
 xm 66 7,
 xm 67 11,
 ⟨(some 68), .slc true (xt 66) none (some (xt 67)) none 0, none, [0, 1]⟩,
 xm 2 64,
 xm 3 65,
 xm 4 68,
 xo 5 (.mv (xb true))] [2,3,4,5]
def c42_12 := xQ c42_11 xR
def c42_13 := xQ c42_10 c42_12
def c42_14 := xQ c42_5 c42_13
def c42_15 := xQ c42_4 c42_14
def c42_16 := xQ c42_3 c42_15
def c42_17 := xQ c42_2 c42_16
def c42_18 := xQ c42_1 c42_17
abbrev n_impl_readChunk : Nat := 42
theorem k_impl_readChunk : Known Pr mu n_impl_readChunk (c42_18 ()) [.t 2, .t 3, .t 4, .t 5] Go.Proofs.Tryz.f42.ntmps := .of [(0, [0], [], [], []), (1, [0,6,7], [], [], []), (2, [0,6,7,9], [], [], []), (3, [0,6,7,9,11], [], [], []), (4, [0,7,11,12,13], [], [], []), (5, [7,11,12,13,63], [], [], []), (6, [2,3,4,5], [], [], []), (7, [2,3,4,5], [[],[],[],[],[0,1]], [], [])] hm Go.Proofs.Tryz.func42
def c43_1 := xG [xo 4 (.mv (xi 0))] [0,1]
def c43_2 := xG [xm 6 0,
 xo 7 (.len false (xt 6)),
 xo 8 (.mv (xi 0))] [0,1,7,8]
def c43_3 := xG [xo 9 (.bin .lss (xt 8) (xt 7))] [0,1,7,8,9]
def c43_4 := xC 9 xS (xE 0)
def c43_5 := xG [xm 10 8,
 xm 5 10] [0,1,5,7,8]
def c43_6 := xG [xm 11 1,
 xm 12 0,
 xm 13 5,
 xo 14 (.ia (xt 12) (xt 13) 1),
 xo 15 (.ld (xt 14) 1 false),
 xo 16 (.bin .eql (xt 11) (xt 15))] [0,1,5,7,8,16]
def c43_7 := xG [xm 17 5,
 xm 4 17] [4]
def c43_8 := xQ c43_7 xR
def c43_9 := xC 16 c43_8 xS
def c43_10 := xQ c43_6 c43_9
def c43_11 := xQ c43_5 c43_10
def c43_12 := xB 1 c43_11
def c43_13 := xG [xo 18 (.bin .add (xt 8) (xi 1)),
 xm 8 18] [0,1,7,8]
def c43_14 := xQ c43_12 c43_13
def c43_15 := xQ c43_4 c43_14
def c43_16 := xQ c43_3 c43_15
def c43_17 := xL c43_16
def c43_18 := xB 0 c43_17
def c43_19 := xQ c43_2 c43_18
def c43_20 := xG [xo 4 (.mv (xi (-1)))] [4]
def c43_21 := xQ c43_20 xR
def c43_22 := xQ c43_19 c43_21
def c43_23 := xQ c43_1 c43_22
abbrev n_slices_Index_stringstring : Nat := 43
theorem k_slices_Index_stringstring : Known Pr mu n_slices_Index_stringstring (c43_23 ()) [.t 4] Go.Proofs.Tryz.f43.ntmps := .of [(0, [0,1], [], [], []), (1, [0,1,7,8], [], [], []), (2, [0,1,7,8,9], [], [], []), (3, [0,1,5,7,8], [], [], []), (4, [0,1,5,7,8,16], [], [], []), (5, [4], [], [], []), (6, [0,1,7,8], [], [], []), (7, [4], [], [], [])] hm Go.Proofs.Tryz.func43
def c44_1 := xG [xo 2 (.mv (.const (.slice none 0 0)))] [0]
def c44_2 := xG [xo 7 (.bsl 7 0 [.int .i64 0, .int .i64 0, .int .i64 0, .int .i64 0, .int .i64 0, .int .i64 0, .int .i64 0] []),
 xm 3 7] [0,3]
def c44_3 := xG [xo 4 (.mv (xi 1))] [0,3,4]
def c44_4 := xG [xm 8 0,
 xo 9 (.callp 20 [xt 8, xi 7]),
 xm 5 9] [0,3,4,5]
def c44_5 := xG [xm 10 5,
 xo 11 (.bin .gtr (xt 10) (xi 0))] [0,3,4,5,11]
def c44_6 := xC 11 xS (xE 0)
def c44_7 := xQ c44_5 c44_6
def c44_8 := xG [xm 14 0,
 xo 15 (.callp 71 [xt 14, xi 3])] [0,3,4,5,15]
def c44_9 := xG [xm 16 4,
 xo 17 (.bin .add (xt 16) (xi 1)),
 xm 4 17] [0,3,4,5]
def c44_10 := xC 15 c44_9 xS
def c44_11 := xQ c44_8 c44_10
def c44_12 := xG [xm 18 0,
 xo 19 (.callp 47 [xt 18]),
 xo 6 (.alloc [.int .i64 0, .int .i64 0, .int .i64 0, .int .i64 0, .int .i64 0, .int .i64 0]),
 xn (.sto (xt 6) (xt 19) 6)] [0,3,4,5,6]
def c44_13 := xG [xm 20 3,
 xm 21 4,
 xo 22 (.ld (xt 6) 6 true),
 xo 23 (.bld [.int .i64 0, .int .i64 0, .int .i64 0, .int .i64 0, .int .i64 0, .int .i64 0, .int .i64 0] [(0, 1, (xt 21)), (1, 6, (xt 22))]),
 xo 24 (.bsl 7 1 [.int .i64 0, .int .i64 0, .int .i64 0, .int .i64 0, .int .i64 0, .int .i64 0, .int .i64 0] [(0, (xt 23))]),
 xo 25 (.app (xt 20) (xt 24) 7 56),
 xm 3 25] [0,3,4,5]
def c44_14 := xQ c44_12 c44_13
def c44_15 := xQ c44_11 c44_14
def c44_16 := xB 1 c44_15
def c44_17 := xG [xm 12 5,
 xo 13 (.bin .sub (xt 12) (xi 1)),
 xm 5 13] [0,3,4,5]
def c44_18 := xQ c44_16 c44_17
def c44_19 := xQ c44_7 c44_18
def c44_20 := xL c44_19
def c44_21 := xB 0 c44_20
def c44_22 := xQ c44_4 c44_21
def c44_23 := xG [xm 26 3,
 xm 2 26] [2]
def c44_24 := xQ c44_23 xR
def c44_25 := xQ c44_22 c44_24
def c44_26 := xQ c44_3 c44_25
def c44_27 := xQ c44_2 c44_26
def c44_28 := xQ c44_1 c44_27
abbrev n_spec_l5Log : Nat := 44
theorem k_spec_l5Log : Known Pr mu n_spec_l5Log (c44_28 ()) [.t 2] Go.Proofs.Tryz.f44.ntmps := .of [(0, [0], [], [], []), (1, [0,3], [], [], []), (2, [0,3,4], [], [], []), (3, [0,3,4,5], [], [], []), (4, [0,3,4,5,11], [], [], []), (6, [0,3,4,5,15], [], [], []), (7, [0,3,4,5], [], [], []), (8, [0,3,4,5,6], [], [], []), (9, [0,3,4,5], [], [], []), (5, [0,3,4,5], [], [], []), (10, [2], [], [], [])] hm Go.Proofs.Tryz.func44
def c45_1 := xG [xo 4 (.mv (xi 0))] [0,1]
def c45_2 := xG [xm 5 1,
 xm 6 0,
 xm 7 1,
 xo 8 (.len false (xt 7)),
 xo 9 (.callp 20 [xt 6, xt 8]),
 xo 10 (.ia (xt 5) (xt 9) 1),
 xo 11 (.ld (xt 10) 1 false),
 xm 4 11] [4]
def c45_3 := xQ c45_2 xR
def c45_4 := xQ c45_1 c45_3
abbrev n_spec_l1PickInt : Nat := 45
theorem k_spec_l1PickInt : Known Pr mu n_spec_l1PickInt (c45_4 ()) [.t 4] Go.Proofs.Tryz.f45.ntmps := .of [(0, [0,1], [], [], []), (1, [4], [], [], [])] hm Go.Proofs.Tryz.func45
def c46_1 := xG [xo 2 (.alloc [.int .i64 0, .int .i64 0, .int .i64 0, .int .i64 0, .int .i64 0, .int .i64 0])] [0,2]
def c46_2 := xG [xm 4 0,
 xo 5 (.callp 47 [xt 4]),
 xo 3 (.alloc [.int .i64 0, .int .i64 0, .int .i64 0, .int .i64 0, .int .i64 0, .int .i64 0]),
 xn (.sto (xt 3) (xt 5) 6)] [0,2,3]
def c46_3 := xG [xm 6 0,
 xo 7 (.callp 20 [xt 6, xi 14])] [0,2,3,7]
def c46_4 := xG [xo 9 (.bin .eql (xt 7) (xi 0)),
 xm 8 9] [0,2,3,7,8]
def c46_5 := xG [xm 10 0,
 xo 11 (.bsl 1 3 [.int .i64 0] [(0, (xi (-1))), (1, (xi 2)), (2, (xi 3))]),
 xo 12 (.callp 45 [xt 10, xt 11]),
 xo 13 (.fa (xt 3) 0),
 xn (.sto (xt 13) (xt 12) 1)] [2,3]
def c46_6 := xG [xo 15 (.bin .eql (xt 7) (xi 1)),
 xm 14 15] [0,2,3,7,14]
def c46_7 := xG [xm 16 0,
 xo 17 (.bsl 1 3 [.int .i64 0] [(0, (xi 0)), (1, (xi 99)), (2, (xi 100))]),
 xo 18 (.callp 45 [xt 16, xt 17]),
 xo 19 (.fa (xt 3) 1),
 xn (.sto (xt 19) (xt 18) 1)] [2,3]
def c46_8 := xG [xo 21 (.bin .eql (xt 7) (xi 2)),
 xm 20 21] [0,2,3,7,20]
def c46_9 := xG [xm 22 0,
 xo 23 (.callp 20 [xt 22, xi 4]),
 xo 24 (.fa (xt 3) 2),
 xn (.sto (xt 24) (xt 23) 1)] [2,3]
def c46_10 := xG [xo 26 (.bin .eql (xt 7) (xi 3)),
 xm 25 26] [0,2,3,7,25]
def c46_11 := xG [xm 27 0,
 xo 28 (.bsl 1 2 [.int .i64 0] [(0, (xi (-1))), (1, (xi 3))]),
 xo 29 (.callp 45 [xt 27, xt 28]),
 xo 30 (.fa (xt 3) 3),
 xn (.sto (xt 30) (xt 29) 1)] [2,3]
def c46_12 := xG [xo 32 (.bin .eql (xt 7) (xi 4)),
 xm 31 32] [0,2,3,7,31]
def c46_13 := xG [xm 33 0,
 xo 34 (.bsl 1 3 [.int .i64 0] [(0, (xi (-1))), (1, (xi 9)), (2, (xi 10))]),
 xo 35 (.callp 45 [xt 33, xt 34]),
 xo 36 (.fa (xt 3) 5),
 xn (.sto (xt 36) (xt 35) 1)] [2,3]
def c46_14 := xG [xo 38 (.bin .eql (xt 7) (xi 5)),
 xm 37 38] [0,2,3,37]
def c46_15 := xG [xm 39 0,
 xo 40 (.bsl 1 4 [.int .i64 0] [(0, (xi (-1))), (1, (xi 0)), (2, (xi 9)), (3, (xi 10))]),
 xo 41 (.callp 45 [xt 39, xt 40]),
 xo 42 (.fa (xt 3) 4),
 xn (.sto (xt 42) (xt 41) 1)] [2,3]
def c46_16 := xC 37 c46_15 xS
def c46_17 := xQ c46_14 c46_16
def c46_18 := xC 31 c46_13 c46_17
def c46_19 := xQ c46_12 c46_18
def c46_20 := xC 25 c46_11 c46_19
def c46_21 := xQ c46_10 c46_20
def c46_22 := xC 20 c46_9 c46_21
def c46_23 := xQ c46_8 c46_22
def c46_24 := xC 14 c46_7 c46_23
def c46_25 := xQ c46_6 c46_24
def c46_26 := xC 8 c46_5 c46_25
def c46_27 := xQ c46_4 c46_26
def c46_28 := xB 0 c46_27
def c46_29 := xQ c46_3 c46_28
def c46_30 := xG [xo 43 (.ld (xt 3) 6 true),
 xn (.sto (xt 2) (xt 43) 6)] [2]
def c46_31 := xQ c46_30 xR
def c46_32 := xQ c46_29 c46_31
def c46_33 := xQ c46_2 c46_32
def c46_34 := xQ c46_1 c46_33
abbrev n_spec_l3Any : Nat := 46
theorem k_spec_l3Any : Known Pr mu n_spec_l3Any (c46_34 ()) [.c 2 6 true] Go.Proofs.Tryz.f46.ntmps := .of [(0, [0,2], [], [], []), (1, [0,2,3], [], [], []), (2, [0,2,3,7], [], [], []), (3, [0,2,3,7,8], [], [], []), (4, [2,3], [], [], []), (5, [0,2,3,7,14], [], [], []), (6, [2,3], [], [], []), (7, [0,2,3,7,20], [], [], []), (8, [2,3], [], [], []), (9, [0,2,3,7,25], [], [], []), (10, [2,3], [], [], []), (11, [0,2,3,7,31], [], [], []), (12, [2,3], [], [], []), (13, [0,2,3,37], [], [], []), (14, [2,3], [], [], []), (15, [2], [], [], [])] hm Go.Proofs.Tryz.func46
def c47_1 := xG [xo 2 (.alloc [.int .i64 0, .int .i64 0, .int .i64 0, .int .i64 0, .int .i64 0, .int .i64 0])] [0,2]
def c47_2 := xG [xm 4 0,
 xo 5 (.callp 20 [xt 4, xi 3]),
 xm 6 0,
 xo 7 (.callp 20 [xt 6, xi 5]),
 xo 8 (.bin .add (xi 1) (xt 7)),
 xm 9 0,
 xo 10 (.callp 20 [xt 9, xi 3]),
 xm 11 0,
 xo 12 (.callp 20 [xt 11, xi 10]),
 xo 13 (.bld [.int .i64 0, .int .i64 0, .int .i64 0, .int .i64 0, .int .i64 0, .int .i64 0] [(0, 1, (xt 5)), (1, 1, (xt 8)), (2, 1, (xi 1)), (3, 1, (xt 10)), (5, 1, (xt 12))]),
 xo 3 (.alloc [.int .i64 0, .int .i64 0, .int .i64 0, .int .i64 0, .int .i64 0, .int .i64 0]),
 xn (.sto (xt 3) (xt 13) 6)] [0,2,3]
def c47_3 := xG [xm 14 0,
 xo 15 (.callp 71 [xt 14, xi 3])] [0,2,3,15]
def c47_4 := xG [xo 16 (.fa (xt 3) 2),
 xn (.sto (xt 16) (xi 2) 1)] [0,2,3]
def c47_5 := xG [xm 17 0,
 xo 18 (.bsl 1 5 [.int .i64 0] [(0, (xi 0)), (1, (xi 0)), (2, (xi 1)), (3, (xi 5)), (4, (xi 9))]),
 xo 19 (.callp 45 [xt 17, xt 18]),
 xo 20 (.fa (xt 3) 4),
 xn (.sto (xt 20) (xt 19) 1)] [2,3]
def c47_6 := xQ c47_4 c47_5
def c47_7 := xC 15 c47_6 xS
def c47_8 := xQ c47_3 c47_7
def c47_9 := xG [xo 21 (.ld (xt 3) 6 true),
 xn (.sto (xt 2) (xt 21) 6)] [2]
def c47_10 := xQ c47_9 xR
def c47_11 := xQ c47_8 c47_10
def c47_12 := xQ c47_2 c47_11
def c47_13 := xQ c47_1 c47_12
abbrev n_spec_l3Op : Nat := 47
theorem k_spec_l3Op : Known Pr mu n_spec_l3Op (c47_13 ()) [.c 2 6 true] Go.Proofs.Tryz.f47.ntmps := .of [(0, [0,2], [], [], []), (1, [0,2,3], [], [], []), (2, [0,2,3,15], [], [], []), (3, [0,2,3], [], [], []), (4, [2,3], [], [], []), (5, [2], [], [], [])] hm Go.Proofs.Tryz.func47
def c48_1 := xG [xo 2 (.mv (xi 0))] [0]
def c48_2 := xG [xm 4 0,
 xm 5 0,
 xo 6 (.nck (xt 5)),
 xo 7 (.fa (xt 6) 2),
 xo 8 (.ld (xt 7) 1 false),
 xo 9 (.bin .mul (xt 8) (xi 6364136223846793005)),
 xo 10 (.bin .add (xt 9) (xi 1442695040888963407)),
 xo 11 (.nck (xt 4)),
 xo 12 (.fa (xt 11) 2),
 xn (.sto (xt 12) (xt 10) 1)] [0]
def c48_3 := xG [xm 13 0,
 xo 14 (.nck (xt 13)),
 xo 15 (.fa (xt 14) 2),
 xo 16 (.ld (xt 15) 1 false),
 xo 17 (.bit .shr (xt 16) (.const (.int .u64 33))),
 xm 18 0,
 xo 19 (.nck (xt 18)),
 ⟨(some 20), .fa (xt 19) 2, none, [0, 1, 2, 3, 4]⟩,
 ⟨(some 21), .ld (xt 20) 1 false, none, [0, 1, 2, 3, 4]⟩,
 xo 22 (.bit .shr (xt 21) (.const (.int .u64 45))),
 xo 23 (.bit .xor (xt 17) (xt 22)),
 xo 24 (.bit .and (xt 23) (xi 255)),
 xm 3 24] [0,3]
def c48_4 := xG [xm 25 0,
 xo 26 (.nck (xt 25)),
 xo 27 (.fa (xt 26) 1),
 xo 28 (.ld (xt 27) 1 false),
 xm 29 0,
 xo 30 (.nck (xt 29)),
 ⟨(some 31), .fa (xt 30) 0, none, [0, 1, 2, 3]⟩,
 ⟨(some 32), .ld (xt 31) 1 false, none, [0, 1, 2, 3]⟩,
 xo 33 (.len false (xt 32)),
 xo 34 (.bin .lss (xt 28) (xt 33))] [0,3,34]
def c48_5 := xG [xm 35 3,
 xm 36 0,
 xo 37 (.nck (xt 36)),
 ⟨(some 38), .fa (xt 37) 0, none, [0]⟩,
 ⟨(some 39), .ld (xt 38) 1 false, none, [0]⟩,
 xm 40 0,
 xo 41 (.nck (xt 40)),
 ⟨(some 42), .fa (xt 41) 1, none, [0, 1, 2, 3, 4]⟩,
 ⟨(some 43), .ld (xt 42) 1 false, none, [0, 1, 2, 3, 4]⟩,
 ⟨(some 44), .ia (xt 39) (xt 43) 1, none, [0]⟩,
 ⟨(some 45), .ld (xt 44) 1 false, none, [0]⟩,
 ⟨(some 46), .conv .i64 (xt 45), none, [0]⟩,
 xo 47 (.bin .add (xt 35) (xt 46)),
 xo 48 (.bit .and (xt 47) (xi 255)),
 xm 3 48] [0,3]
def c48_6 := xG [xm 49 0,
 xm 50 0,
 xo 51 (.nck (xt 50)),
 xo 52 (.fa (xt 51) 1),
 xo 53 (.ld (xt 52) 1 false),
 xo 54 (.bin .add (xt 53) (xi 1)),
 xo 55 (.nck (xt 49)),
 xo 56 (.fa (xt 55) 1),
 xn (.sto (xt 56) (xt 54) 1)] [3]
def c48_7 := xQ c48_5 c48_6
def c48_8 := xC 34 c48_7 xS
def c48_9 := xQ c48_4 c48_8
def c48_10 := xG [xm 57 3,
 xm 2 57] [2]
def c48_11 := xQ c48_10 xR
def c48_12 := xQ c48_9 c48_11
def c48_13 := xQ c48_3 c48_12
def c48_14 := xQ c48_2 c48_13
def c48_15 := xQ c48_1 c48_14
abbrev n_spec_l1Byte : Nat := 48
theorem k_spec_l1Byte : Known Pr mu n_spec_l1Byte (c48_15 ()) [.t 2] Go.Proofs.Tryz.f48.ntmps := .of [(0, [0], [], [], []), (1, [0], [], [], []), (2, [0,3], [[],[],[],[],[],[],[],[0,1,2,3,4],[0,1,2,3,4]], [], []), (3, [0,3,34], [[],[],[],[],[],[],[0,1,2,3],[0,1,2,3]], [], []), (4, [0,3], [[],[],[],[0],[0],[],[],[0,1,2,3,4],[0,1,2,3,4],[0],[0],[0]], [], []), (5, [3], [], [], []), (6, [2], [], [], [])] hm Go.Proofs.Tryz.func48
def c49_1 := xG [xo 1 (.box (xt 0)),
 xo 2 (.mv (xb false))] [1]
def c49_2 := xG [xo 3 (.fa (xt 1) 0),
 xo 4 (.ld (xt 3) 1 false),
 xo 5 (.call 22 [xt 4, xi 0, xi 2]),
 xo 6 (.not (xt 5)),
 xm 7 6,
 xF 8 7 (.fa (xt 1) 1),
 xF 9 7 (.ld (xt 8) 1 false),
 xF 10 7 (.call 22 [xt 9, xi 1, xi 99]),
 xF 11 7 (.not (xt 10)),
 xo 12 (.pick (xt 7) (xb true) (xt 11)),
 xm 13 12,
 xF 14 13 (.fa (xt 1) 3),
 xF 15 13 (.ld (xt 14) 1 false),
 xF 16 13 (.call 22 [xt 15, xi 0, xi 2]),
 xF 17 13 (.not (xt 16)),
 xo 18 (.pick (xt 13) (xb true) (xt 17)),
 xm 19 18,
 xF 20 19 (.fa (xt 1) 5),
 xF 21 19 (.ld (xt 20) 1 false),
 xF 22 19 (.call 22 [xt 21, xi 0, xi 9]),
 xF 23 19 (.not (xt 22)),
 xo 24 (.pick (xt 19) (xb true) (xt 23))] [1,24]
def c49_3 := xG [xo 2 (.mv (xb false))] [2]
def c49_4 := xQ c49_3 xR
def c49_5 := xC 24 c49_4 xS
def c49_6 := xQ c49_2 c49_5
def c49_7 := xG [xo 25 (.fa (xt 1) 2),
 xo 26 (.ld (xt 25) 1 false),
 xo 27 (.bin .eql (xt 26) (xi 1)),
 xm 28 27,
 xT 29 28 (.fa (xt 1) 4),
 xT 30 28 (.ld (xt 29) 1 false),
 xT 31 28 (.bin .eql (xt 30) (xi 0)),
 xo 32 (.pick (xt 28) (xt 31) (xb false)),
 xm 33 32,
 xF 34 33 (.fa (xt 1) 2),
 xF 35 33 (.ld (xt 34) 1 false),
 xF 36 33 (.bin .eql (xt 35) (xi 2)),
 xF 37 33 (.mv (xt 36)),
 xT 38 37 (.fa (xt 1) 4),
 xT 39 37 (.ld (xt 38) 1 false),
 xT 40 37 (.call 22 [xt 39, xi 0, xi 9]),
 xF 41 33 (.pick (xt 37) (xt 40) (xb false)),
 xo 42 (.pick (xt 33) (xb true) (xt 41)),
 xm 2 42] [2]
def c49_8 := xQ c49_7 xR
def c49_9 := xQ c49_6 c49_8
def c49_10 := xQ c49_1 c49_9
abbrev n_impl_IsValidOp : Nat := 49
theorem k_impl_IsValidOp : Known Pr mu n_impl_IsValidOp (c49_10 ()) [.t 2] Go.Proofs.Tryz.f49.ntmps := .of [(0, [1], [], [], []), (1, [1,24], [], [], []), (2, [2], [], [], []), (3, [2], [], [], [])] hm Go.Proofs.Tryz.func49
def c50_1 := xG [xo 0 (.alloc [.slice none 0 0, .slice none 0 0])] [0]
def c50_2 := xG [xo 1 (.mks 1 8 [.int .i64 0] (xi 3) (xi 3)),
 xo 2 (.bld [.slice none 0 0, .slice none 0 0] [(0, 1, (xt 1))]),
 xn (.sto (xt 0) (xt 2) 2)] [0]
def c50_3 := xQ c50_2 xR
def c50_4 := xQ c50_1 c50_3
abbrev n_impl_NewMachine : Nat := 50
theorem k_impl_NewMachine : Known Pr mu n_impl_NewMachine (c50_4 ()) [.c 0 2 true] Go.Proofs.Tryz.f50.ntmps := .of [(0, [0], [], [], []), (1, [0], [], [], [])] hm Go.Proofs.Tryz.func50
def c51_1 := xG [xo 2 (.box (xt 0)),
 xo 3 (.box (xt 1)),
 xo 4 (.alloc [.slice none 0 0, .slice none 0 0]),
 xo 5 (.alloc [.bool false, .int .i64 0]),
 xo 6 (.mv (xb false))] [2,3,4,5]
def c51_2 := xG [xo 13 (.ld (xt 2) 2 true),
 xo 14 (.call 72 [xt 13]),
 xo 7 (.alloc [.slice none 0 0, .slice none 0 0]),
 xn (.sto (xt 7) (xt 14) 2)] [2,3,4,5,7]
def c51_3 := xG [xo 16 (.ld (xt 2) 2 true),
 xo 17 (.fa (xt 3) 0),
 xo 18 (.ld (xt 17) 1 false),
 xo 19 (.call 73 [xt 16, xt 18]),
 xm 15 19,
 xo 20 (.ext (xt 15) 0),
 xo 21 (.ext (xt 15) 1),
 xo 8 (.alloc [.int .i64 0, .int .i64 0, .bool false, .int .i64 0]),
 xn (.sto (xt 8) (xt 20) 4),
 xm 9 21] [2,3,4,5,7,8,9]
def c51_4 := xG [xo 23 (.ld (xt 2) 2 true),
 xo 24 (.call 31 [xt 23]),
 xo 25 (.not (xt 24)),
 xm 26 25,
 xF 27 26 (.ld (xt 3) 6 true),
 xF 28 26 (.call 49 [xt 27]),
 xF 29 26 (.not (xt 28)),
 xo 30 (.pick (xt 26) (xb true) (xt 29)),
 xm 31 30,
 xF 32 31 (.mv (xt 9)),
 xF 33 31 (.mv (xt 32)),
 xT 34 33 (.fa (xt 8) 1),
 xT 35 33 (.ld (xt 34) 1 false),
 xT 36 33 (.fa (xt 3) 1),
 xT 37 33 (.ld (xt 36) 1 false),
 xT 38 33 (.bin .gtr (xt 35) (xt 37)),
 xF 39 31 (.pick (xt 33) (xt 38) (xb false)),
 xo 40 (.pick (xt 31) (xb true) (xt 39)),
 xm 22 40] [2,3,4,5,7,8,9,22]
def c51_5 := xG [xo 41 (.ld (xt 7) 2 true),
 xo 42 (.bld [.bool false, .int .i64 0] []),
 xn (.sto (xt 4) (xt 41) 2),
 xn (.sto (xt 5) (xt 42) 2),
 xo 6 (.mv (xb false))] [4,5,6]
def c51_6 := xQ c51_5 xR
def c51_7 := xG [xm 44 9,
 xm 45 44,
 xT 46 45 (.fa (xt 8) 1),
 xT 47 45 (.ld (xt 46) 1 false),
 xT 48 45 (.fa (xt 3) 1),
 xT 49 45 (.ld (xt 48) 1 false),
 xT 50 45 (.bin .eql (xt 47) (xt 49)),
 xo 51 (.pick (xt 45) (xt 50) (xb false)),
 xm 43 51] [2,3,4,5,7,8,9,43]
def o51_6_0 : MOper := ⟨(some 52), .ld (xt 7) 2 true, none, []⟩
def o51_6_1 : MOper := xo 53 (.faf (xt 8) 2)
def o51_6_2 : MOper := ⟨(some 54), .ld (xt 53) 2 true, none, []⟩
def o51_6_3 : MOper := ⟨none, .sto (xt 4) (xt 52) 2, none, []⟩
def o51_6_4 : MOper := ⟨none, .sto (xt 5) (xt 54) 2, none, []⟩
def o51_6_5 : MOper := ⟨(some 6), .mv (xb true), none, []⟩
def c51_8 := xA 6 (xs 0 o51_6_1 (xu (xs 1 o51_6_2 (xs 2 o51_6_0 (xs 3 o51_6_3 (xs 4 o51_6_4 (xs 5 o51_6_5 xf))))) (xs 1 o51_6_0 (xu (xs 2 o51_6_3 (xs 3 o51_6_2 (xs 4 o51_6_4 (xs 5 o51_6_5 xf)))) (xs 2 o51_6_2 (xs 3 o51_6_3 (xs 4 o51_6_4 (xs 5 o51_6_5 xf)))))))) [4,5,6]
def c51_9 := xQ c51_8 xR
def c51_10 := xC 43 c51_9 xS
def c51_11 := xQ c51_7 c51_10
def c51_12 := xC 22 c51_6 c51_11
def c51_13 := xQ c51_4 c51_12
def c51_14 := xB 0 c51_13
def c51_15 := xG [xo 55 (.fa (xt 2) 0),
 xo 56 (.ld (xt 55) 1 false),
 xo 57 (.fa (xt 3) 3),
 xo 58 (.ld (xt 57) 1 false),
 xo 59 (.ia (xt 56) (xt 58) 1),
 xo 60 (.ld (xt 59) 1 false),
 xm 10 60] [3,4,5,7,9,10]
def c51_16 := xG [xo 61 (.fa (xt 3) 2),
 xo 62 (.ld (xt 61) 1 false),
 xo 63 (.bin .eql (xt 62) (xi 1)),
 xm 64 63,
 xF 65 64 (.mv (xt 10)),
 xF 66 64 (.fa (xt 3) 4),
 xF 67 64 (.ld (xt 66) 1 false),
 xF 68 64 (.bin .eql (xt 65) (xt 67)),
 xo 69 (.pick (xt 64) (xb true) (xt 68)),
 xm 70 10,
 xo 71 (.bld [.bool false, .int .i64 0] [(0, 1, (xt 69)), (1, 1, (xt 70))]),
 xo 11 (.alloc [.bool false, .int .i64 0]),
 xn (.sto (xt 11) (xt 71) 2)] [3,4,5,7,9,11]
def c51_17 := xG [xo 72 (.fa (xt 11) 0),
 xo 73 (.ld (xt 72) 1 false)] [3,4,5,7,9,11,73]
def c51_18 := xG [xo 74 (.fa (xt 7) 0),
 xo 75 (.ld (xt 74) 1 false),
 xo 76 (.fa (xt 3) 3),
 xo 77 (.ld (xt 76) 1 false),
 xo 78 (.fa (xt 3) 5),
 xo 79 (.ld (xt 78) 1 false),
 xo 80 (.ia (xt 75) (xt 77) 1),
 xn (.sto (xt 80) (xt 79) 1)] [3,4,5,7,9,11]
def c51_19 := xC 73 c51_18 xS
def c51_20 := xQ c51_17 c51_19
def c51_21 := xG [xo 12 (.mv (xi 0))] [3,4,5,7,9,11,12]
def c51_22 := xG [xm 81 12,
 ⟨(some 82), .fa (xt 7) 1, none, [0]⟩,
 ⟨(some 83), .ld (xt 82) 1 false, none, [0]⟩,
 xo 84 (.len false (xt 83)),
 xo 85 (.bin .lss (xt 81) (xt 84)),
 xm 86 85,
 xT 87 86 (.fa (xt 7) 1),
 xT 88 86 (.ld (xt 87) 1 false),
 xT 89 86 (.mv (xt 12)),
 xT 90 86 (.ia (xt 88) (xt 89) 4),
 xT 91 86 (.fa (xt 90) 0),
 xT 92 86 (.ld (xt 91) 1 false),
 ⟨(some 93), .fa (xt 3) 0, (some (86, true)), [6, 7, 8, 9, 10, 11]⟩,
 ⟨(some 94), .ld (xt 93) 1 false, (some (86, true)), [6, 7, 8, 9, 10, 11]⟩,
 xT 95 86 (.bin .lss (xt 92) (xt 94)),
 xo 96 (.pick (xt 86) (xt 95) (xb false))] [3,4,5,7,9,11,12,96]
def c51_23 := xC 96 xS (xE 1)
def c51_24 := xQ c51_22 c51_23
def c51_25 := xG [xm 97 12,
 xo 98 (.bin .add (xt 97) (xi 1)),
 xm 12 98] [3,4,5,7,9,11,12]
def c51_26 := xB 2 c51_25
def c51_27 := xQ c51_24 c51_26
def c51_28 := xL c51_27
def c51_29 := xB 1 c51_28
def c51_30 := xG [xm 99 9,
 xo 100 (.not (xt 99))] [3,4,5,7,11,12,100]
def c51_31 := xG [xo 101 (.fa (xt 7) 1),
 xo 102 (.ld (xt 101) 1 false),
 xm 103 12,
 xo 104 (.bld [.int .i64 0, .int .i64 0, .bool false, .int .i64 0] []),
 xo 105 (.bsl 4 1 [.int .i64 0, .int .i64 0, .bool false, .int .i64 0] [(0, (xt 104))]),
 xo 106 (.ins 74 (xt 102) (xt 103) (xt 105)),
 xo 107 (.fa (xt 7) 1),
 xn (.sto (xt 107) (xt 106) 1)] [3,4,5,7,11,12]
def c51_32 := xC 100 c51_31 xS
def c51_33 := xQ c51_30 c51_32
def c51_34 := xG [xo 108 (.fa (xt 7) 1),
 xo 109 (.ld (xt 108) 1 false),
 xm 110 12,
 xo 111 (.fa (xt 3) 0),
 xo 112 (.ld (xt 111) 1 false),
 xo 113 (.fa (xt 3) 1),
 xo 114 (.ld (xt 113) 1 false),
 xo 115 (.ld (xt 11) 2 true),
 xo 116 (.bld [.int .i64 0, .int .i64 0, .bool false, .int .i64 0] [(0, 1, (xt 112)), (1, 1, (xt 114)), (2, 2, (xt 115))]),
 xo 117 (.ia (xt 109) (xt 110) 4),
 xn (.sto (xt 117) (xt 116) 4)] [4,5,7,11]
def o51_17_0 : MOper := ⟨(some 118), .ld (xt 7) 2 true, none, []⟩
def o51_17_1 : MOper := ⟨(some 119), .ld (xt 11) 2 true, none, []⟩
def o51_17_2 : MOper := ⟨none, .sto (xt 4) (xt 118) 2, none, []⟩
def o51_17_3 : MOper := ⟨none, .sto (xt 5) (xt 119) 2, none, []⟩
def o51_17_4 : MOper := ⟨(some 6), .mv (xb true), none, []⟩
def c51_35 := xA 5 (xu (xs 0 o51_17_1 (xs 1 o51_17_0 (xs 2 o51_17_2 (xs 3 o51_17_3 (xs 4 o51_17_4 xf))))) (xs 0 o51_17_0 (xu (xs 1 o51_17_2 (xs 2 o51_17_1 (xs 3 o51_17_3 (xs 4 o51_17_4 xf)))) (xs 1 o51_17_1 (xs 2 o51_17_2 (xs 3 o51_17_3 (xs 4 o51_17_4 xf))))))) [4,5,6]
def c51_36 := xQ c51_35 xR
def c51_37 := xQ c51_34 c51_36
def c51_38 := xQ c51_33 c51_37
def c51_39 := xQ c51_29 c51_38
def c51_40 := xQ c51_21 c51_39
def c51_41 := xQ c51_20 c51_40
def c51_42 := xQ c51_16 c51_41
def c51_43 := xQ c51_15 c51_42
def c51_44 := xQ c51_14 c51_43
def c51_45 := xQ c51_3 c51_44
def c51_46 := xQ c51_2 c51_45
def c51_47 := xQ c51_1 c51_46
abbrev n_impl_ApplyOp : Nat := 51
theorem k_impl_ApplyOp : Known Pr mu n_impl_ApplyOp (c51_47 ()) [.c 4 2 true, .c 5 2 true, .t 6] Go.Proofs.Tryz.f51.ntmps := .of [(0, [2,3,4,5], [], [], []), (1, [2,3,4,5,7], [], [], []), (2, [2,3,4,5,7,8,9], [], [], []), (3, [2,3,4,5,7,8,9,22], [], [], []), (4, [4,5,6], [], [], []), (5, [2,3,4,5,7,8,9,43], [], [], []), (6, [4,5,6], [], [9999], [1]), (7, [3,4,5,7,9,10], [], [], []), (8, [3,4,5,7,9,11], [], [], []), (9, [3,4,5,7,9,11,73], [], [], []), (10, [3,4,5,7,9,11], [], [], []), (11, [3,4,5,7,9,11,12], [], [], []), (12, [3,4,5,7,9,11,12,96], [[],[0],[0],[],[],[],[],[],[],[],[],[],[6,7,8,9,10,11],[6,7,8,9,10,11]], [], []), (13, [3,4,5,7,9,11,12], [], [], []), (14, [3,4,5,7,11,12,100], [], [], []), (15, [3,4,5,7,11,12], [], [], []), (16, [4,5,7,11], [], [], []), (17, [4,5,6], [], [9999], [])] hm Go.Proofs.Tryz.func51
def c52_1 := xG [xo 2 (.mv (.const (.slice none 0 0)))] [0]
def c52_2 := xG [xm 5 0,
 xo 6 (.call 21 [xt 5]),
 xo 7 (.not (xt 6))] [0,7]
def c52_3 := xG [xo 8 (.bsl 1 0 [.int .i64 0] []),
 xm 2 8] [2]
def c52_4 := xQ c52_3 xR
def c52_5 := xC 7 c52_4 xS
def c52_6 := xQ c52_2 c52_5
def c52_7 := xG [xo 9 (.bsl 1 1 [.int .i64 0] [(0, (xi 11))]),
 xm 3 9] [0,3]
def c52_8 := xG [xm 10 0,
 xo 11 (.len false (xt 10)),
 xo 12 (.mv (xi 0))] [0,3,11,12]
def c52_9 := xG [xo 13 (.bin .lss (xt 12) (xt 11))] [0,3,11,12,13]
def c52_10 := xC 13 xS (xE 0)
def c52_11 := xG [xm 14 12,
 xm 4 14] [0,3,4,11,12]
def c52_12 := xG [xm 15 3,
 xm 16 3,
 xm 17 4,
 ⟨(some 18), .ia (xt 16) (xt 17) 1, none, [0]⟩,
 ⟨(some 19), .ld (xt 18) 1 false, none, [0]⟩,
 xo 20 (.bin .mul (xi 31) (xt 19)),
 xm 21 0,
 xm 22 4,
 xm 23 4,
 xo 24 (.bin .add (xt 23) (xi 1)),
 ⟨(some 25), .slc false (xt 21) (some (xt 22)) (some (xt 24)) none 7, none, [0, 1, 2, 3, 4, 5]⟩,
 ⟨(some 26), .call 75 [xt 25], none, [0, 1, 2, 3, 4, 5]⟩,
 ⟨(some 27), .call 69 [xt 26], none, [0, 1, 2, 3, 4, 5]⟩,
 xo 28 (.bin .add (xt 20) (xt 27)),
 xo 29 (.bin .rem (xt 28) (xi 9973)),
 xo 30 (.bsl 1 1 [.int .i64 0] [(0, (xt 29))]),
 xo 31 (.app (xt 15) (xt 30) 1 8),
 xm 3 31] [0,3,11,12]
def c52_13 := xQ c52_11 c52_12
def c52_14 := xB 1 c52_13
def c52_15 := xG [xo 32 (.bin .add (xt 12) (xi 1)),
 xm 12 32] [0,3,11,12]
def c52_16 := xQ c52_14 c52_15
def c52_17 := xQ c52_10 c52_16
def c52_18 := xQ c52_9 c52_17
def c52_19 := xL c52_18
def c52_20 := xB 0 c52_19
def c52_21 := xQ c52_8 c52_20
def c52_22 := xG [xm 33 3,
 xm 2 33] [2]
def c52_23 := xQ c52_22 xR
def c52_24 := xQ c52_21 c52_23
def c52_25 := xQ c52_7 c52_24
def c52_26 := xQ c52_6 c52_25
def c52_27 := xQ c52_1 c52_26
abbrev n_impl_DigestList : Nat := 52
theorem k_impl_DigestList : Known Pr mu n_impl_DigestList (c52_27 ()) [.t 2] Go.Proofs.Tryz.f52.ntmps := .of [(0, [0], [], [], []), (1, [0,7], [], [], []), (2, [2], [], [], []), (3, [0,3], [], [], []), (4, [0,3,11,12], [], [], []), (5, [0,3,11,12,13], [], [], []), (6, [0,3,4,11,12], [], [], []), (7, [0,3,11,12], [[],[],[],[0],[0],[],[],[],[],[],[0,1,2,3,4,5],[0,1,2,3,4,5],[0,1,2,3,4,5]], [], []), (8, [0,3,11,12], [], [], []), (9, [2], [], [], [])] hm Go.Proofs.Tryz.func52
def c53_1 := xG [xo 1 (.box (xt 0)),
 xo 2 (.mv (xb false))] [1]
def c53_2 := xG [xo 3 (.fa (xt 1) 0),
 xo 4 (.ld (xt 3) 1 false),
 xo 5 (.call 26 [xt 4, xi 0, xi 2]),
 xo 6 (.not (xt 5)),
 xm 7 6,
 xF 8 7 (.fa (xt 1) 1),
 xF 9 7 (.ld (xt 8) 1 false),
 xF 10 7 (.call 26 [xt 9, xi 1, xi 99]),
 xF 11 7 (.not (xt 10)),
 xo 12 (.pick (xt 7) (xb true) (xt 11)),
 xm 13 12,
 xF 14 13 (.fa (xt 1) 3),
 xF 15 13 (.ld (xt 14) 1 false),
 xF 16 13 (.call 26 [xt 15, xi 0, xi 2]),
 xF 17 13 (.not (xt 16)),
 xo 18 (.pick (xt 13) (xb true) (xt 17)),
 xm 19 18,
 xF 20 19 (.fa (xt 1) 5),
 xF 21 19 (.ld (xt 20) 1 false),
 xF 22 19 (.call 26 [xt 21, xi 0, xi 9]),
 xF 23 19 (.not (xt 22)),
 xo 24 (.pick (xt 19) (xb true) (xt 23))] [1,24]
def c53_3 := xG [xo 2 (.mv (xb false))] [2]
def c53_4 := xQ c53_3 xR
def c53_5 := xC 24 c53_4 xS
def c53_6 := xQ c53_2 c53_5
def c53_7 := xG [xo 25 (.fa (xt 1) 2),
 xo 26 (.ld (xt 25) 1 false),
 xo 27 (.bin .eql (xt 26) (xi 1)),
 xm 28 27,
 xT 29 28 (.fa (xt 1) 4),
 xT 30 28 (.ld (xt 29) 1 false),
 xT 31 28 (.bin .eql (xt 30) (xi 0)),
 xo 32 (.pick (xt 28) (xt 31) (xb false)),
 xm 33 32,
 xF 34 33 (.fa (xt 1) 2),
 xF 35 33 (.ld (xt 34) 1 false),
 xF 36 33 (.bin .eql (xt 35) (xi 2)),
 xF 37 33 (.mv (xt 36)),
 xT 38 37 (.fa (xt 1) 4),
 xT 39 37 (.ld (xt 38) 1 false),
 xT 40 37 (.call 26 [xt 39, xi 0, xi 9]),
 xF 41 33 (.pick (xt 37) (xt 40) (xb false)),
 xo 42 (.pick (xt 33) (xb true) (xt 41)),
 xm 2 42] [2]
def c53_8 := xQ c53_7 xR
def c53_9 := xQ c53_6 c53_8
def c53_10 := xQ c53_1 c53_9
abbrev n_spec_IsValidOp : Nat := 53
theorem k_spec_IsValidOp : Known Pr mu n_spec_IsValidOp (c53_10 ()) [.t 2] Go.Proofs.Tryz.f53.ntmps := .of [(0, [1], [], [], []), (1, [1,24], [], [], []), (2, [2], [], [], []), (3, [2], [], [], [])] hm Go.Proofs.Tryz.func53
def c54_1 := xG [xo 0 (.alloc [.slice none 0 0, .slice none 0 0])] [0]
def c54_2 := xG [xo 1 (.bsl 1 3 [.int .i64 0] [(0, (xi 0)), (1, (xi 0)), (2, (xi 0))]),
 xo 2 (.bld [.slice none 0 0, .slice none 0 0] [(0, 1, (xt 1))]),
 xn (.sto (xt 0) (xt 2) 2)] [0]
def c54_3 := xQ c54_2 xR
def c54_4 := xQ c54_1 c54_3
abbrev n_spec_NewMachine : Nat := 54
theorem k_spec_NewMachine : Known Pr mu n_spec_NewMachine (c54_4 ()) [.c 0 2 true] Go.Proofs.Tryz.f54.ntmps := .of [(0, [0], [], [], []), (1, [0], [], [], [])] hm Go.Proofs.Tryz.func54
def c55_1 := xG [xo 2 (.box (xt 0)),
 xo 3 (.box (xt 1)),
 xo 4 (.alloc [.slice none 0 0, .slice none 0 0]),
 xo 5 (.alloc [.bool false, .int .i64 0]),
 xo 6 (.mv (xb false))] [2,3,4,5]
def c55_2 := xG [xo 14 (.ld (xt 2) 2 true),
 xo 15 (.call 76 [xt 14]),
 xo 7 (.alloc [.slice none 0 0, .slice none 0 0]),
 xn (.sto (xt 7) (xt 15) 2)] [2,3,4,5,7]
def c55_3 := xG [xo 16 (.ld (xt 2) 2 true),
 xo 17 (.call 68 [xt 16]),
 xo 18 (.not (xt 17)),
 xm 19 18,
 xF 20 19 (.ld (xt 3) 6 true),
 xF 21 19 (.call 53 [xt 20]),
 xF 22 19 (.not (xt 21)),
 xo 23 (.pick (xt 19) (xb true) (xt 22))] [2,3,4,5,7,23]
def c55_4 := xG [xo 24 (.ld (xt 7) 2 true),
 xo 25 (.bld [.bool false, .int .i64 0] []),
 xn (.sto (xt 4) (xt 24) 2),
 xn (.sto (xt 5) (xt 25) 2),
 xo 6 (.mv (xb false))] [4,5,6]
def c55_5 := xQ c55_4 xR
def c55_6 := xC 23 c55_5 xS
def c55_7 := xQ c55_3 c55_6
def c55_8 := xG [xo 27 (.ld (xt 2) 2 true),
 xo 28 (.fa (xt 3) 0),
 xo 29 (.ld (xt 28) 1 false),
 xo 30 (.call 77 [xt 27, xt 29]),
 xm 26 30,
 xo 31 (.ext (xt 26) 0),
 xo 32 (.ext (xt 26) 1),
 xo 8 (.alloc [.int .i64 0, .int .i64 0, .bool false, .int .i64 0]),
 xn (.sto (xt 8) (xt 31) 4),
 xm 9 32] [2,3,4,5,7,8,9]
def c55_9 := xG [xm 33 9,
 xm 34 33,
 xT 35 34 (.fa (xt 8) 1),
 xT 36 34 (.ld (xt 35) 1 false),
 xT 37 34 (.fa (xt 3) 1),
 xT 38 34 (.ld (xt 37) 1 false),
 xT 39 34 (.bin .eql (xt 36) (xt 38)),
 xo 40 (.pick (xt 34) (xt 39) (xb false))] [2,3,4,5,7,8,9,40]
def o55_6_0 : MOper := ⟨(some 41), .ld (xt 7) 2 true, none, []⟩
def o55_6_1 : MOper := xo 42 (.faf (xt 8) 2)
def o55_6_2 : MOper := ⟨(some 43), .ld (xt 42) 2 true, none, []⟩
def o55_6_3 : MOper := ⟨none, .sto (xt 4) (xt 41) 2, none, []⟩
def o55_6_4 : MOper := ⟨none, .sto (xt 5) (xt 43) 2, none, []⟩
def o55_6_5 : MOper := ⟨(some 6), .mv (xb true), none, []⟩
def c55_10 := xA 6 (xs 0 o55_6_1 (xu (xs 1 o55_6_2 (xs 2 o55_6_0 (xs 3 o55_6_3 (xs 4 o55_6_4 (xs 5 o55_6_5 xf))))) (xs 1 o55_6_0 (xu (xs 2 o55_6_3 (xs 3 o55_6_2 (xs 4 o55_6_4 (xs 5 o55_6_5 xf)))) (xs 2 o55_6_2 (xs 3 o55_6_3 (xs 4 o55_6_4 (xs 5 o55_6_5 xf)))))))) [4,5,6]
def c55_11 := xQ c55_10 xR
def c55_12 := xC 40 c55_11 xS
def c55_13 := xQ c55_9 c55_12
def c55_14 := xG [xm 44 9,
 xm 45 44,
 xT 46 45 (.fa (xt 8) 1),
 xT 47 45 (.ld (xt 46) 1 false),
 xT 48 45 (.fa (xt 3) 1),
 xT 49 45 (.ld (xt 48) 1 false),
 xT 50 45 (.bin .gtr (xt 47) (xt 49)),
 xo 51 (.pick (xt 45) (xt 50) (xb false))] [2,3,4,5,7,9,51]
def c55_15 := xG [xo 52 (.ld (xt 7) 2 true),
 xo 53 (.bld [.bool false, .int .i64 0] []),
 xn (.sto (xt 4) (xt 52) 2),
 xn (.sto (xt 5) (xt 53) 2),
 xo 6 (.mv (xb false))] [4,5,6]
def c55_16 := xQ c55_15 xR
def c55_17 := xC 51 c55_16 xS
def c55_18 := xQ c55_14 c55_17
def c55_19 := xG [xo 54 (.fa (xt 2) 0),
 xo 55 (.ld (xt 54) 1 false),
 xo 56 (.fa (xt 3) 3),
 xo 57 (.ld (xt 56) 1 false),
 xo 58 (.ia (xt 55) (xt 57) 1),
 xo 59 (.ld (xt 58) 1 false),
 xm 10 59] [3,4,5,7,9,10]
def c55_20 := xG [xo 60 (.fa (xt 3) 2),
 xo 61 (.ld (xt 60) 1 false),
 xo 62 (.bin .eql (xt 61) (xi 1)),
 xm 63 62,
 xF 64 63 (.mv (xt 10)),
 xF 65 63 (.fa (xt 3) 4),
 xF 66 63 (.ld (xt 65) 1 false),
 xF 67 63 (.bin .eql (xt 64) (xt 66)),
 xo 68 (.pick (xt 63) (xb true) (xt 67)),
 xm 69 10,
 xo 70 (.bld [.bool false, .int .i64 0] [(0, 1, (xt 68)), (1, 1, (xt 69))]),
 xo 11 (.alloc [.bool false, .int .i64 0]),
 xn (.sto (xt 11) (xt 70) 2)] [3,4,5,7,9,11]
def c55_21 := xG [xo 71 (.fa (xt 11) 0),
 xo 72 (.ld (xt 71) 1 false)] [3,4,5,7,9,11,72]
def c55_22 := xG [xo 73 (.fa (xt 7) 0),
 xo 74 (.ld (xt 73) 1 false),
 xo 75 (.fa (xt 3) 3),
 xo 76 (.ld (xt 75) 1 false),
 xo 77 (.fa (xt 3) 5),
 xo 78 (.ld (xt 77) 1 false),
 xo 79 (.ia (xt 74) (xt 76) 1),
 xn (.sto (xt 79) (xt 78) 1)] [3,4,5,7,9,11]
def c55_23 := xC 72 c55_22 xS
def c55_24 := xQ c55_21 c55_23
def c55_25 := xG [xo 12 (.mv (xi 0))] [3,4,5,7,9,11,12]
def c55_26 := xG [xm 80 12,
 ⟨(some 81), .fa (xt 7) 1, none, [0]⟩,
 ⟨(some 82), .ld (xt 81) 1 false, none, [0]⟩,
 xo 83 (.len false (xt 82)),
 xo 84 (.bin .lss (xt 80) (xt 83)),
 xm 85 84,
 xT 86 85 (.fa (xt 7) 1),
 xT 87 85 (.ld (xt 86) 1 false),
 xT 88 85 (.mv (xt 12)),
 xT 89 85 (.ia (xt 87) (xt 88) 4),
 xT 90 85 (.fa (xt 89) 0),
 xT 91 85 (.ld (xt 90) 1 false),
 ⟨(some 92), .fa (xt 3) 0, (some (85, true)), [6, 7, 8, 9, 10, 11]⟩,
 ⟨(some 93), .ld (xt 92) 1 false, (some (85, true)), [6, 7, 8, 9, 10, 11]⟩,
 xT 94 85 (.bin .lss (xt 91) (xt 93)),
 xo 95 (.pick (xt 85) (xt 94) (xb false))] [3,4,5,7,9,11,12,95]
def c55_27 := xC 95 xS (xE 0)
def c55_28 := xQ c55_26 c55_27
def c55_29 := xG [xm 96 12,
 xo 97 (.bin .add (xt 96) (xi 1)),
 xm 12 97] [3,4,5,7,9,11,12]
def c55_30 := xB 1 c55_29
def c55_31 := xQ c55_28 c55_30
def c55_32 := xL c55_31
def c55_33 := xB 0 c55_32
def c55_34 := xG [xo 98 (.fa (xt 7) 1),
 xo 99 (.ld (xt 98) 1 false),
 xm 100 12,
 xo 101 (.slc false (xt 99) (some (xt 100)) none none 4),
 xm 13 101] [3,4,5,7,9,11,12,13]
def c55_35 := xG [xm 102 9] [3,4,5,7,11,12,13,102]
def c55_36 := xG [xo 103 (.fa (xt 7) 1),
 xo 104 (.ld (xt 103) 1 false),
 xm 105 12,
 xo 106 (.bin .add (xt 105) (xi 1)),
 xo 107 (.slc false (xt 104) (some (xt 106)) none none 4),
 xm 13 107] [3,4,5,7,11,12,13]
def c55_37 := xC 102 c55_36 xS
def c55_38 := xQ c55_35 c55_37
def c55_39 : XC := fun _ => .region [xm 122 13] [xo 108 (.bsl 4 0 [.int .i64 0, .int .i64 0, .bool false, .int .i64 0] []),
 ⟨(some 109), .fa (xt 7) 1, none, [0]⟩,
 ⟨(some 110), .ld (xt 109) 1 false, none, [0]⟩,
 xm 111 12,
 ⟨(some 112), .slc false (xt 110) none (some (xt 111)) none 4, none, [0]⟩,
 ⟨(some 113), .appn (xt 108) (xt 112) 4 32, none, [1000000]⟩,
 ⟨(some 114), .fa (xt 3) 0, none, [0, 1, 2, 3, 4, 5]⟩,
 ⟨(some 115), .ld (xt 114) 1 false, none, [0, 1, 2, 3, 4, 5]⟩,
 ⟨(some 116), .fa (xt 3) 1, none, [0, 1, 2, 3, 4, 5, 6, 7]⟩,
 ⟨(some 117), .ld (xt 116) 1 false, none, [0, 1, 2, 3, 4, 5, 6, 7]⟩,
 ⟨(some 118), .ld (xt 11) 2 true, none, [0, 1, 2, 3, 4, 5, 6, 7, 8, 9]⟩,
 xo 119 (.bld [.int .i64 0, .int .i64 0, .bool false, .int .i64 0] [(0, 1, (xt 115)), (1, 1, (xt 117)), (2, 2, (xt 118))]),
 xo 120 (.bsl 4 1 [.int .i64 0, .int .i64 0, .bool false, .int .i64 0] [(0, (xt 119))]),
 xo 121 (.app (xt 113) (xt 120) 4 32),
 ⟨(some 122), .mv (xt 122), none, []⟩,
 xo 123 (.app (xt 121) (xt 122) 4 32),
 xo 124 (.fa (xt 7) 1),
 xn (.sto (xt 124) (xt 123) 1)] [4,5,7,11]
def o55_20_0 : MOper := ⟨(some 125), .ld (xt 7) 2 true, none, []⟩
def o55_20_1 : MOper := ⟨(some 126), .ld (xt 11) 2 true, none, []⟩
def o55_20_2 : MOper := ⟨none, .sto (xt 4) (xt 125) 2, none, []⟩
def o55_20_3 : MOper := ⟨none, .sto (xt 5) (xt 126) 2, none, []⟩
def o55_20_4 : MOper := ⟨(some 6), .mv (xb true), none, []⟩
def c55_40 := xA 5 (xu (xs 0 o55_20_1 (xs 1 o55_20_0 (xs 2 o55_20_2 (xs 3 o55_20_3 (xs 4 o55_20_4 xf))))) (xs 0 o55_20_0 (xu (xs 1 o55_20_2 (xs 2 o55_20_1 (xs 3 o55_20_3 (xs 4 o55_20_4 xf)))) (xs 1 o55_20_1 (xs 2 o55_20_2 (xs 3 o55_20_3 (xs 4 o55_20_4 xf))))))) [4,5,6]
def c55_41 := xQ c55_40 xR
def c55_42 := xQ c55_39 c55_41
def c55_43 := xQ c55_38 c55_42
def c55_44 := xQ c55_34 c55_43
def c55_45 := xQ c55_33 c55_44
def c55_46 := xQ c55_25 c55_45
def c55_47 := xQ c55_24 c55_46
def c55_48 := xQ c55_20 c55_47
def c55_49 := xQ c55_19 c55_48
def c55_50 := xQ c55_18 c55_49
def c55_51 := xQ c55_13 c55_50
def c55_52 := xQ c55_8 c55_51
def c55_53 := xQ c55_7 c55_52
def c55_54 := xQ c55_2 c55_53
def c55_55 := xQ c55_1 c55_54
abbrev n_spec_ApplyOp : Nat := 55
theorem k_spec_ApplyOp : Known Pr mu n_spec_ApplyOp (c55_55 ()) [.c 4 2 true, .c 5 2 true, .t 6] Go.Proofs.Tryz.f55.ntmps := .of [(0, [2,3,4,5], [], [], []), (1, [2,3,4,5,7], [], [], []), (2, [2,3,4,5,7,23], [], [], []), (3, [4,5,6], [], [], []), (4, [2,3,4,5,7,8,9], [], [], []), (5, [2,3,4,5,7,8,9,40], [], [], []), (6, [4,5,6], [], [9999], [1]), (7, [2,3,4,5,7,9,51], [], [], []), (8, [4,5,6], [], [], []), (9, [3,4,5,7,9,10], [], [], []), (10, [3,4,5,7,9,11], [], [], []), (11, [3,4,5,7,9,11,72], [], [], []), (12, [3,4,5,7,9,11], [], [], []), (13, [3,4,5,7,9,11,12], [], [], []), (14, [3,4,5,7,9,11,12,95], [[],[0],[0],[],[],[],[],[],[],[],[],[],[6,7,8,9,10,11],[6,7,8,9,10,11]], [], []), (15, [3,4,5,7,9,11,12], [], [], []), (16, [3,4,5,7,9,11,12,13], [], [], []), (17, [3,4,5,7,11,12,13,102], [], [], []), (18, [3,4,5,7,11,12,13], [], [], []), (19, [4,5,7,11], [[],[0],[0],[],[0],[1000000],[0,1,2,3,4,5],[0,1,2,3,4,5],[0,1,2,3,4,5,6,7],[0,1,2,3,4,5,6,7],[0,1,2,3,4,5,6,7,8,9]], [14], []), (20, [4,5,6], [], [9999], [])] hm Go.Proofs.Tryz.func55
def c56_1 := xG [xo 2 (.mv (.const (.slice none 0 0)))] [0]
def c56_2 := xG [xo 6 (.bsl 1 0 [.int .i64 0] []),
 xm 3 6] [0,3]
def c56_3 := xG [xm 7 0,
 xo 8 (.call 25 [xt 7]),
 xo 9 (.not (xt 8))] [0,3,9]
def c56_4 := xG [xm 10 3,
 xm 2 10] [2]
def c56_5 := xQ c56_4 xR
def c56_6 := xC 9 c56_5 xS
def c56_7 := xQ c56_3 c56_6
def c56_8 := xG [xo 4 (.mv (xi 11))] [0,3,4]
def c56_9 := xG [xm 11 3,
 xm 12 4,
 xo 13 (.bsl 1 1 [.int .i64 0] [(0, (xt 12))]),
 xo 14 (.app (xt 11) (xt 13) 1 8),
 xm 3 14] [0,3,4]
def c56_10 := xG [xo 5 (.mv (xi 0))] [0,3,4,5]
def c56_11 := xG [xm 15 5,
 xm 16 0,
 xo 17 (.len false (xt 16)),
 xo 18 (.bin .lss (xt 15) (xt 17))] [0,3,4,5,18]
def c56_12 := xC 18 xS (xE 0)
def c56_13 := xQ c56_11 c56_12
def c56_14 := xG [xm 21 4,
 xo 22 (.bin .mul (xt 21) (xi 31)),
 xm 23 0,
 xm 24 5,
 xm 25 5,
 xo 26 (.bin .add (xt 25) (xi 1)),
 xo 27 (.slc false (xt 23) (some (xt 24)) (some (xt 26)) none 7),
 xo 28 (.call 79 [xt 27]),
 xo 29 (.call 78 [xt 28]),
 xo 30 (.bin .add (xt 22) (xt 29)),
 xo 31 (.bin .rem (xt 30) (xi 9973)),
 xm 4 31] [0,3,4,5]
def c56_15 := xG [xm 32 3,
 xm 33 4,
 xo 34 (.bsl 1 1 [.int .i64 0] [(0, (xt 33))]),
 xo 35 (.app (xt 32) (xt 34) 1 8),
 xm 3 35] [0,3,4,5]
def c56_16 := xQ c56_14 c56_15
def c56_17 := xB 1 c56_16
def c56_18 := xG [xm 19 5,
 xo 20 (.bin .add (xt 19) (xi 1)),
 xm 5 20] [0,3,4,5]
def c56_19 := xQ c56_17 c56_18
def c56_20 := xQ c56_13 c56_19
def c56_21 := xL c56_20
def c56_22 := xB 0 c56_21
def c56_23 := xQ c56_10 c56_22
def c56_24 := xG [xm 36 3,
 xm 2 36] [2]
def c56_25 := xQ c56_24 xR
def c56_26 := xQ c56_23 c56_25
def c56_27 := xQ c56_9 c56_26
def c56_28 := xQ c56_8 c56_27
def c56_29 := xQ c56_7 c56_28
def c56_30 := xQ c56_2 c56_29
def c56_31 := xQ c56_1 c56_30
abbrev n_spec_DigestList : Nat := 56
theorem k_spec_DigestList : Known Pr mu n_spec_DigestList (c56_31 ()) [.t 2] Go.Proofs.Tryz.f56.ntmps := .of [(0, [0], [], [], []), (1, [0,3], [], [], []), (2, [0,3,9], [], [], []), (3, [2], [], [], []), (4, [0,3,4], [], [], []), (5, [0,3,4], [], [], []), (6, [0,3,4,5], [], [], []), (7, [0,3,4,5,18], [], [], []), (9, [0,3,4,5], [], [], []), (10, [0,3,4,5], [], [], []), (8, [0,3,4,5], [], [], []), (11, [2], [], [], [])] hm Go.Proofs.Tryz.func56
def c57_1 := xG [xo 4 (.mv (xb false))] [0,1]
def c57_2 := xG [xm 6 0,
 xo 7 (.len false (xt 6)),
 xm 8 1,
 xo 9 (.len false (xt 8)),
 xo 10 (.bin .neq (xt 7) (xt 9))] [0,1,10]
def c57_3 := xG [xo 4 (.mv (xb false))] [4]
def c57_4 := xQ c57_3 xR
def c57_5 := xC 10 c57_4 xS
def c57_6 := xQ c57_2 c57_5
def c57_7 := xG [xm 11 0,
 xo 12 (.len false (xt 11)),
 xo 13 (.mv (xi 0))] [0,1,12,13]
def c57_8 := xG [xo 14 (.bin .lss (xt 13) (xt 12))] [0,1,12,13,14]
def c57_9 := xC 14 xS (xE 0)
def c57_10 := xG [xm 15 13,
 xm 5 15] [0,1,5,12,13]
def c57_11 := xG [xm 16 0,
 xm 17 5,
 xo 18 (.ia (xt 16) (xt 17) 1),
 xo 19 (.ld (xt 18) 1 false),
 xm 20 1,
 xm 21 5,
 ⟨(some 22), .ia (xt 20) (xt 21) 1, none, [0, 1, 2, 3]⟩,
 ⟨(some 23), .ld (xt 22) 1 false, none, [0, 1, 2, 3]⟩,
 xo 24 (.bin .neq (xt 19) (xt 23))] [0,1,12,13,24]
def c57_12 := xG [xo 4 (.mv (xb false))] [4]
def c57_13 := xQ c57_12 xR
def c57_14 := xC 24 c57_13 xS
def c57_15 := xQ c57_11 c57_14
def c57_16 := xQ c57_10 c57_15
def c57_17 := xB 1 c57_16
def c57_18 := xG [xo 25 (.bin .add (xt 13) (xi 1)),
 xm 13 25] [0,1,12,13]
def c57_19 := xQ c57_17 c57_18
def c57_20 := xQ c57_9 c57_19
def c57_21 := xQ c57_8 c57_20
def c57_22 := xL c57_21
def c57_23 := xB 0 c57_22
def c57_24 := xQ c57_7 c57_23
def c57_25 := xG [xo 4 (.mv (xb true))] [4]
def c57_26 := xQ c57_25 xR
def c57_27 := xQ c57_24 c57_26
def c57_28 := xQ c57_6 c57_27
def c57_29 := xQ c57_1 c57_28
abbrev n_slices_Equal_intint : Nat := 57
theorem k_slices_Equal_intint : Known Pr mu n_slices_Equal_intint (c57_29 ()) [.t 4] Go.Proofs.Tryz.f57.ntmps := .of [(0, [0,1], [], [], []), (1, [0,1,10], [], [], []), (2, [4], [], [], []), (3, [0,1,12,13], [], [], []), (4, [0,1,12,13,14], [], [], []), (5, [0,1,5,12,13], [], [], []), (6, [0,1,12,13,24], [[],[],[],[],[],[],[0,1,2,3],[0,1,2,3]], [], []), (7, [4], [], [], []), (8, [0,1,12,13], [], [], []), (9, [4], [], [], [])] hm Go.Proofs.Tryz.func57
def c58_1 := xG [xo 4 (.mv (xb false))] [0,1]
def c58_2 := xG [xm 6 0,
 xo 7 (.len false (xt 6)),
 xm 8 1,
 xo 9 (.len false (xt 8)),
 xo 10 (.bin .neq (xt 7) (xt 9))] [0,1,10]
def c58_3 := xG [xo 4 (.mv (xb false))] [4]
def c58_4 := xQ c58_3 xR
def c58_5 := xC 10 c58_4 xS
def c58_6 := xQ c58_2 c58_5
def c58_7 := xG [xm 11 0,
 xo 12 (.len false (xt 11)),
 xo 13 (.mv (xi 0))] [0,1,12,13]
def c58_8 := xG [xo 14 (.bin .lss (xt 13) (xt 12))] [0,1,12,13,14]
def c58_9 := xC 14 xS (xE 0)
def c58_10 := xG [xm 15 13,
 xm 5 15] [0,1,5,12,13]
def c58_11 := xG [xm 16 0,
 xm 17 5,
 xo 18 (.ia (xt 16) (xt 17) 4),
 xo 19 (.ld (xt 18) 4 true),
 xm 20 1,
 xm 21 5,
 ⟨(some 22), .ia (xt 20) (xt 21) 4, none, [0, 1, 2, 3]⟩,
 ⟨(some 23), .ld (xt 22) 4 true, none, [0, 1, 2, 3]⟩,
 xo 24 (.aeq true [.i, .i, .b, .i] (xt 19) (xt 23))] [0,1,12,13,24]
def c58_12 := xG [xo 4 (.mv (xb false))] [4]
def c58_13 := xQ c58_12 xR
def c58_14 := xC 24 c58_13 xS
def c58_15 := xQ c58_11 c58_14
def c58_16 := xQ c58_10 c58_15
def c58_17 := xB 1 c58_16
def c58_18 := xG [xo 25 (.bin .add (xt 13) (xi 1)),
 xm 13 25] [0,1,12,13]
def c58_19 := xQ c58_17 c58_18
def c58_20 := xQ c58_9 c58_19
def c58_21 := xQ c58_8 c58_20
def c58_22 := xL c58_21
def c58_23 := xB 0 c58_22
def c58_24 := xQ c58_7 c58_23
def c58_25 := xG [xo 4 (.mv (xb true))] [4]
def c58_26 := xQ c58_25 xR
def c58_27 := xQ c58_24 c58_26
def c58_28 := xQ c58_6 c58_27
def c58_29 := xQ c58_1 c58_28
abbrev n_slices_Equal_implSessionimplSession : Nat := 58
theorem k_slices_Equal_implSessionimplSession : Known Pr mu n_slices_Equal_implSessionimplSession (c58_29 ()) [.t 4] Go.Proofs.Tryz.f58.ntmps := .of [(0, [0,1], [], [], []), (1, [0,1,10], [], [], []), (2, [4], [], [], []), (3, [0,1,12,13], [], [], []), (4, [0,1,12,13,14], [], [], []), (5, [0,1,5,12,13], [], [], []), (6, [0,1,12,13,24], [[],[],[],[],[],[],[0,1,2,3],[0,1,2,3]], [], []), (7, [4], [], [], []), (8, [0,1,12,13], [], [], []), (9, [4], [], [], [])] hm Go.Proofs.Tryz.func58
def c59_1 := xG [xo 2 (.alloc [.slice none 0 0, .slice none 0 0])] [0,2]
def c59_2 := xG [xm 4 0,
 xo 5 (.callp 80 [xt 4]),
 xo 3 (.alloc [.slice none 0 0, .slice none 0 0]),
 xn (.sto (xt 3) (xt 5) 2)] [0,2,3]
def c59_3 := xG [xm 6 0,
 xo 7 (.callp 20 [xt 6, xi 14])] [0,2,3,7]
def c59_4 := xG [xo 9 (.bin .eql (xt 7) (xi 0)),
 xm 8 9] [0,2,3,7,8]
def o59_4_0 : MOper := xo 10 (.faf (xt 3) 0)
def o59_4_1 : MOper := ⟨(some 11), .ld (xt 10) 1 false, none, []⟩
def o59_4_2 : MOper := xm 12 0
def o59_4_3 : MOper := ⟨(some 13), .callp 20 [xt 12, xi 3], none, []⟩
def o59_4_4 : MOper := xm 14 0
def o59_4_5 : MOper := ⟨(some 15), .bsl 1 3 [.int .i64 0] [(0, (xi (-1))), (1, (xi 9)), (2, (xi 10))], none, []⟩
def o59_4_6 : MOper := ⟨(some 16), .callp 45 [xt 14, xt 15], none, []⟩
def o59_4_7 : MOper := ⟨(some 17), .ia (xt 11) (xt 13) 1, none, []⟩
def o59_4_8 : MOper := ⟨none, .sto (xt 17) (xt 16) 1, none, []⟩
def c59_5 := xA 9 (xs 0 o59_4_4 (xs 1 o59_4_2 (xs 2 o59_4_0 (xu (xs 3 o59_4_5 (xu (xs 4 o59_4_3 (xu (xs 5 o59_4_6 (xs 6 o59_4_1 (xs 7 o59_4_7 (xs 8 o59_4_8 xf)))) (xs 5 o59_4_1 (xs 6 o59_4_6 (xs 7 o59_4_7 (xs 8 o59_4_8 xf)))))) (xs 4 o59_4_1 (xs 5 o59_4_3 (xs 6 o59_4_6 (xs 7 o59_4_7 (xs 8 o59_4_8 xf))))))) (xu (xs 3 o59_4_3 (xu (xs 4 o59_4_5 (xu (xs 5 o59_4_6 (xs 6 o59_4_1 (xs 7 o59_4_7 (xs 8 o59_4_8 xf)))) (xs 5 o59_4_1 (xs 6 o59_4_6 (xs 7 o59_4_7 (xs 8 o59_4_8 xf)))))) (xs 4 o59_4_1 (xs 5 o59_4_5 (xs 6 o59_4_6 (xs 7 o59_4_7 (xs 8 o59_4_8 xf))))))) (xs 3 o59_4_1 (xu (xs 4 o59_4_5 (xs 5 o59_4_3 (xs 6 o59_4_6 (xs 7 o59_4_7 (xs 8 o59_4_8 xf))))) (xs 4 o59_4_3 (xs 5 o59_4_5 (xs 6 o59_4_6 (xs 7 o59_4_7 (xs 8 o59_4_8 xf)))))))))))) [2,3]
def c59_6 := xG [xo 19 (.bin .eql (xt 7) (xi 1)),
 xm 18 19] [0,2,3,7,18]
def c59_7 := xG [xo 20 (.fa (xt 3) 0),
 xo 21 (.ld (xt 20) 1 false),
 xo 22 (.slc false (xt 21) (some (xi 1)) none none 1),
 xo 23 (.fa (xt 3) 0),
 xn (.sto (xt 23) (xt 22) 1)] [2,3]
def c59_8 := xG [xo 25 (.bin .eql (xt 7) (xi 2)),
 xm 24 25] [0,2,3,24]
def o59_8_0 : MOper := xo 26 (.faf (xt 3) 1)
def o59_8_1 : MOper := ⟨(some 27), .ld (xt 26) 1 false, none, []⟩
def o59_8_2 : MOper := xm 28 0
def o59_8_3 : MOper := ⟨(some 29), .callp 20 [xt 28, xi 4], none, []⟩
def o59_8_4 : MOper := xm 30 0
def o59_8_5 : MOper := ⟨(some 31), .callp 20 [xt 30, xi 3], none, []⟩
def o59_8_6 : MOper := xm 32 0
def o59_8_7 : MOper := ⟨(some 33), .bsl 1 2 [.int .i64 0] [(0, (xi 0)), (1, (xi 10))], none, []⟩
def o59_8_8 : MOper := ⟨(some 34), .callp 45 [xt 32, xt 33], none, []⟩
def o59_8_9 : MOper := ⟨(some 35), .bld [.bool false, .int .i64 0] [(1, 1, (xt 34))], none, []⟩
def o59_8_10 : MOper := ⟨(some 36), .bld [.int .i64 0, .int .i64 0, .bool false, .int .i64 0] [(0, 1, (xt 29)), (1, 1, (xt 31)), (2, 2, (xt 35))], none, []⟩
def o59_8_11 : MOper := ⟨(some 37), .bsl 4 1 [.int .i64 0, .int .i64 0, .bool false, .int .i64 0] [(0, (xt 36))], none, []⟩
def o59_8_12 : MOper := ⟨(some 38), .app (xt 27) (xt 37) 4 32, none, []⟩
def o59_8_13 : MOper := xo 39 (.faf (xt 3) 1)
def o59_8_14 : MOper := ⟨none, .sto (xt 39) (xt 38) 1, none, []⟩
def c59_9 := xA 15 (xs 0 o59_8_6 (xs 1 o59_8_4 (xs 2 o59_8_2 (xs 3 o59_8_0 (xu (xs 4 o59_8_7 (xu (xs 5 o59_8_3 (xu (xs 6 o59_8_5 (xu (xs 7 o59_8_8 (xu (xs 8 o59_8_9 (xu (xs 9 o59_8_10 (xu (xs 10 o59_8_11 (xs 11 o59_8_1 (xs 12 o59_8_12 (xs 13 o59_8_13 (xs 14 o59_8_14 xf))))) (xs 10 o59_8_1 (xs 11 o59_8_11 (xs 12 o59_8_12 (xs 13 o59_8_13 (xs 14 o59_8_14 xf))))))) (xs 9 o59_8_1 (xs 10 o59_8_10 (xs 11 o59_8_11 (xs 12 o59_8_12 (xs 13 o59_8_13 (xs 14 o59_8_14 xf)))))))) (xs 8 o59_8_1 (xs 9 o59_8_9 (xs 10 o59_8_10 (xs 11 o59_8_11 (xs 12 o59_8_12 (xs 13 o59_8_13 (xs 14 o59_8_14 xf))))))))) (xs 7 o59_8_1 (xs 8 o59_8_8 (xs 9 o59_8_9 (xs 10 o59_8_10 (xs 11 o59_8_11 (xs 12 o59_8_12 (xs 13 o59_8_13 (xs 14 o59_8_14 xf)))))))))) (xs 6 o59_8_1 (xs 7 o59_8_5 (xs 8 o59_8_8 (xs 9 o59_8_9 (xs 10 o59_8_10 (xs 11 o59_8_11 (xs 12 o59_8_12 (xs 13 o59_8_13 (xs 14 o59_8_14 xf))))))))))) (xs 5 o59_8_1 (xs 6 o59_8_3 (xs 7 o59_8_5 (xs 8 o59_8_8 (xs 9 o59_8_9 (xs 10 o59_8_10 (xs 11 o59_8_11 (xs 12 o59_8_12 (xs 13 o59_8_13 (xs 14 o59_8_14 xf)))))))))))) (xu (xs 4 o59_8_3 (xu (xs 5 o59_8_7 (xu (xs 6 o59_8_5 (xu (xs 7 o59_8_8 (xu (xs 8 o59_8_9 (xu (xs 9 o59_8_10 (xu (xs 10 o59_8_11 (xs 11 o59_8_1 (xs 12 o59_8_12 (xs 13 o59_8_13 (xs 14 o59_8_14 xf))))) (xs 10 o59_8_1 (xs 11 o59_8_11 (xs 12 o59_8_12 (xs 13 o59_8_13 (xs 14 o59_8_14 xf))))))) (xs 9 o59_8_1 (xs 10 o59_8_10 (xs 11 o59_8_11 (xs 12 o59_8_12 (xs 13 o59_8_13 (xs 14 o59_8_14 xf)))))))) (xs 8 o59_8_1 (xs 9 o59_8_9 (xs 10 o59_8_10 (xs 11 o59_8_11 (xs 12 o59_8_12 (xs 13 o59_8_13 (xs 14 o59_8_14 xf))))))))) (xs 7 o59_8_1 (xs 8 o59_8_8 (xs 9 o59_8_9 (xs 10 o59_8_10 (xs 11 o59_8_11 (xs 12 o59_8_12 (xs 13 o59_8_13 (xs 14 o59_8_14 xf)))))))))) (xs 6 o59_8_1 (xs 7 o59_8_5 (xs 8 o59_8_8 (xs 9 o59_8_9 (xs 10 o59_8_10 (xs 11 o59_8_11 (xs 12 o59_8_12 (xs 13 o59_8_13 (xs 14 o59_8_14 xf))))))))))) (xu (xs 5 o59_8_5 (xu (xs 6 o59_8_7 (xu (xs 7 o59_8_8 (xu (xs 8 o59_8_9 (xu (xs 9 o59_8_10 (xu (xs 10 o59_8_11 (xs 11 o59_8_1 (xs 12 o59_8_12 (xs 13 o59_8_13 (xs 14 o59_8_14 xf))))) (xs 10 o59_8_1 (xs 11 o59_8_11 (xs 12 o59_8_12 (xs 13 o59_8_13 (xs 14 o59_8_14 xf))))))) (xs 9 o59_8_1 (xs 10 o59_8_10 (xs 11 o59_8_11 (xs 12 o59_8_12 (xs 13 o59_8_13 (xs 14 o59_8_14 xf)))))))) (xs 8 o59_8_1 (xs 9 o59_8_9 (xs 10 o59_8_10 (xs 11 o59_8_11 (xs 12 o59_8_12 (xs 13 o59_8_13 (xs 14 o59_8_14 xf))))))))) (xs 7 o59_8_1 (xs 8 o59_8_8 (xs 9 o59_8_9 (xs 10 o59_8_10 (xs 11 o59_8_11 (xs 12 o59_8_12 (xs 13 o59_8_13 (xs 14 o59_8_14 xf)))))))))) (xs 6 o59_8_1 (xs 7 o59_8_7 (xs 8 o59_8_8 (xs 9 o59_8_9 (xs 10 o59_8_10 (xs 11 o59_8_11 (xs 12 o59_8_12 (xs 13 o59_8_13 (xs 14 o59_8_14 xf))))))))))) (xs 5 o59_8_1 (xu (xs 6 o59_8_7 (xs 7 o59_8_5 (xs 8 o59_8_8 (xs 9 o59_8_9 (xs 10 o59_8_10 (xs 11 o59_8_11 (xs 12 o59_8_12 (xs 13 o59_8_13 (xs 14 o59_8_14 xf))))))))) (xs 6 o59_8_5 (xs 7 o59_8_7 (xs 8 o59_8_8 (xs 9 o59_8_9 (xs 10 o59_8_10 (xs 11 o59_8_11 (xs 12 o59_8_12 (xs 13 o59_8_13 (xs 14 o59_8_14 xf)))))))))))))) (xs 4 o59_8_1 (xu (xs 5 o59_8_7 (xs 6 o59_8_3 (xs 7 o59_8_5 (xs 8 o59_8_8 (xs 9 o59_8_9 (xs 10 o59_8_10 (xs 11 o59_8_11 (xs 12 o59_8_12 (xs 13 o59_8_13 (xs 14 o59_8_14 xf)))))))))) (xs 5 o59_8_3 (xu (xs 6 o59_8_7 (xs 7 o59_8_5 (xs 8 o59_8_8 (xs 9 o59_8_9 (xs 10 o59_8_10 (xs 11 o59_8_11 (xs 12 o59_8_12 (xs 13 o59_8_13 (xs 14 o59_8_14 xf))))))))) (xs 6 o59_8_5 (xs 7 o59_8_7 (xs 8 o59_8_8 (xs 9 o59_8_9 (xs 10 o59_8_10 (xs 11 o59_8_11 (xs 12 o59_8_12 (xs 13 o59_8_13 (xs 14 o59_8_14 xf))))))))))))))))))) [2,3]
def c59_10 := xC 24 c59_9 xS
def c59_11 := xQ c59_8 c59_10
def c59_12 := xC 18 c59_7 c59_11
def c59_13 := xQ c59_6 c59_12
def c59_14 := xC 8 c59_5 c59_13
def c59_15 := xQ c59_4 c59_14
def c59_16 := xB 0 c59_15
def c59_17 := xQ c59_3 c59_16
def c59_18 := xG [xo 40 (.ld (xt 3) 2 true),
 xn (.sto (xt 2) (xt 40) 2)] [2]
def c59_19 := xQ c59_18 xR
def c59_20 := xQ c59_17 c59_19
def c59_21 := xQ c59_2 c59_20
def c59_22 := xQ c59_1 c59_21
abbrev n_spec_l4Any : Nat := 59
theorem k_spec_l4Any : Known Pr mu n_spec_l4Any (c59_22 ()) [.c 2 2 true] Go.Proofs.Tryz.f59.ntmps := .of [(0, [0,2], [], [], []), (1, [0,2,3], [], [], []), (2, [0,2,3,7], [], [], []), (3, [0,2,3,7,8], [], [], []), (4, [2,3], [], [9999], [0,2,4]), (5, [0,2,3,7,18], [], [], []), (6, [2,3], [], [], []), (7, [0,2,3,24], [], [], []), (8, [2,3], [], [9999], [0,2,4,6,13]), (9, [2], [], [], [])] hm Go.Proofs.Tryz.func59
def c60_1 := xG [xo 4 (.mv (xb false))] [0,1]
def c60_2 := xG [xm 5 0,
 xm 6 1,
 xo 7 (.call 81 [xt 5, xt 6]),
 xo 8 (.bin .geq (xt 7) (xi 0)),
 xm 4 8] [4]
def c60_3 := xQ c60_2 xR
def c60_4 := xQ c60_1 c60_3
abbrev n_slices_ContainsFunc_intint : Nat := 60
theorem k_slices_ContainsFunc_intint : Known Pr mu n_slices_ContainsFunc_intint (c60_4 ()) [.t 4] Go.Proofs.Tryz.f60.ntmps := .of [(0, [0,1], [], [], []), (1, [4], [], [], [])] hm Go.Proofs.Tryz.func60
def c61_1 := xG [xo 2 (.mv (xb false))] [0]
def c61_2 := xG [xm 3 0,
 xo 4 (.call 22 [xt 3, xi 0, xi 9]),
 xo 5 (.not (xt 4)),
 xm 2 5] [2]
def c61_3 := xQ c61_2 xR
def c61_4 := xQ c61_1 c61_3
abbrev n_impl_IsValidMachine_c1 : Nat := 61
theorem k_impl_IsValidMachine_c1 : Known Pr mu n_impl_IsValidMachine_c1 (c61_4 ()) [.t 2] Go.Proofs.Tryz.f61.ntmps := .of [(0, [0], [], [], []), (1, [2], [], [], [])] hm Go.Proofs.Tryz.func61
def c62_1 := xG [xo 2 (.mv (.const (.string ⟨#[]⟩)))] [0]
def c62_2 := xG [xm 3 0,
 xo 4 (.call 82 [xt 3]),
 xm 2 4] [2]
def c62_3 := xQ c62_2 xR
def c62_4 := xQ c62_1 c62_3
abbrev n_strconv_Itoa : Nat := 62
theorem k_strconv_Itoa : Known Pr mu n_strconv_Itoa (c62_4 ()) [.t 2] Go.Proofs.Tryz.f62.ntmps := .of [(0, [0], [], [], []), (1, [2], [], [], [])] hm Go.Proofs.Tryz.func62
def c64_1 := xG [xo 4 (.mv (.const (.slice none 0 0)))] [0,1]
def c64_2 := xG [xm 5 0,
 xm 6 1,
 xo 7 (.call 63 [xt 5, xt 6, xi 0, (xi (-1))]),
 xm 4 7] [4]
def c64_3 := xQ c64_2 xR
def c64_4 := xQ c64_1 c64_3
abbrev n_strings_Split : Nat := 64
theorem k_strings_Split : Known Pr mu n_strings_Split (c64_4 ()) [.t 4] Go.Proofs.Tryz.f64.ntmps := .of [(0, [0,1], [], [], []), (1, [4], [], [], [])] hm Go.Proofs.Tryz.func64
def c65_1 := xG [xo 4 (.mv (.const (.string ⟨#[]⟩))),
 xo 5 (.mv (.const (.string ⟨#[]⟩))),
 xo 6 (.mv (xb false))] [0,1]
def c65_2 := xG [xm 7 0,
 xm 8 1,
 xo 9 (.call 86 [xt 7, xt 8]),
 xo 10 (.ext (xt 9) 0),
 xo 11 (.ext (xt 9) 1),
 xo 12 (.ext (xt 9) 2),
 xm 4 10,
 xm 5 11,
 xm 6 12] [4,5,6]
def c65_3 := xQ c65_2 xR
def c65_4 := xQ c65_1 c65_3
abbrev n_strings_Cut : Nat := 65
theorem k_strings_Cut : Known Pr mu n_strings_Cut (c65_4 ()) [.t 4, .t 5, .t 6] Go.Proofs.Tryz.f65.ntmps := .of [(0, [0,1], [], [], []), (1, [4,5,6], [], [], [])] hm Go.Proofs.Tryz.func65
def c66_1 := xG [xo 4 (.mv (xi 0))] [0,1]
def c66_2 := xG [xm 11 1,
 xo 12 (.bin .eql (xt 11) (.const (.string ⟨#[]⟩)))] [0,1,12]
def c66_3 := xG [xo 4 (.mv (xi (-1)))] [4]
def c66_4 := xQ c66_3 xR
def c66_5 := xC 12 c66_4 xS
def c66_6 := xQ c66_2 c66_5
def c66_7 := xG [xm 13 1,
 xo 14 (.len true (xt 13)),
 xo 15 (.bin .eql (xt 14) (xi 1))] [0,1,15]
def c66_8 := xG [xm 16 1,
 xo 17 (.sidx (xt 16) (xi 0)),
 xo 18 (.conv .i32 (xt 17)),
 xm 5 18] [0,5]
def c66_9 := xG [xm 19 5,
 xo 20 (.bin .geq (xt 19) (.const (.int .i32 128)))] [0,5,20]
def c66_10 := xG [xo 5 (.mv (.const (.int .i32 65533)))] [0,5]
def c66_11 := xC 20 c66_10 xS
def c66_12 := xQ c66_9 c66_11
def c66_13 := xG [xm 21 0,
 xm 22 5,
 xo 23 (.call 87 [xt 21, xt 22]),
 xm 4 23] [4]
def c66_14 := xQ c66_13 xR
def c66_15 := xQ c66_12 c66_14
def c66_16 := xQ c66_8 c66_15
def c66_17 := xC 15 c66_16 xS
def c66_18 := xQ c66_7 c66_17
def c66_19 := xG [xm 24 0,
 xo 25 (.len true (xt 24)),
 xo 26 (.call 88 [xt 25])] [0,1,26]
def c66_20 := xG [xm 28 1,
 xo 29 (.call 89 [xt 28]),
 xm 27 29,
 xo 30 (.ext (xt 27) 0),
 xo 31 (.ext (xt 27) 1),
 xo 6 (.alloc [.bool false, .bool false, .bool false, .bool false, .bool false, .bool false, .bool false, .bool false, .bool false, .bool false, .bool false, .bool false, .bool false, .bool false, .bool false, .bool false, .bool false, .bool false, .bool false, .bool false, .bool false, .bool false, .bool false, .bool false, .bool false, .bool false, .bool false, .bool false, .bool false, .bool false, .bool false, .bool false, .bool false, .bool false, .bool false, .bool false, .bool false, .bool false, .bool false, .bool false, .bool false, .bool false, .bool false, .bool false, .bool false, .bool false, .bool false, .bool false, .bool false, .bool false, .bool false, .bool false, .bool false, .bool false, .bool false, .bool false, .bool false, .bool false, .bool false, .bool false, .bool false, .bool false, .bool false, .bool false, .bool false, .bool false, .bool false, .bool false, .bool false, .bool false, .bool false, .bool false, .bool false, .bool false, .bool false, .bool false, .bool false, .bool false, .bool false, .bool false, .bool false, .bool false, .bool false, .bool false, .bool false, .bool false, .bool false, .bool false, .bool false, .bool false, .bool false, .bool false, .bool false, .bool false, .bool false, .bool false, .bool false, .bool false, .bool false, .bool false, .bool false, .bool false, .bool false, .bool false, .bool false, .bool false, .bool false, .bool false, .bool false, .bool false, .bool false, .bool false, .bool false, .bool false, .bool false, .bool false, .bool false, .bool false, .bool false, .bool false, .bool false, .bool false, .bool false, .bool false, .bool false, .bool false, .bool false, .bool false, .bool false, .bool false, .bool false, .bool false, .bool false, .bool false, .bool false, .bool false, .bool false, .bool false, .bool false, .bool false, .bool false, .bool false, .bool false, .bool false, .bool false, .bool false, .bool false, .bool false, .bool false, .bool false, .bool false, .bool false, .bool false, .bool false, .bool false, .bool false, .bool false, .bool false, .bool false, .bool false, .bool false, .bool false, .bool false, .bool false, .bool false, .bool false, .bool false, .bool false, .bool false, .bool false, .bool false, .bool false, .bool false, .bool false, .bool false, .bool false, .bool false, .bool false, .bool false, .bool false, .bool false, .bool false, .bool false, .bool false, .bool false, .bool false, .bool false, .bool false, .bool false, .bool false, .bool false, .bool false, .bool false, .bool false, .bool false, .bool false, .bool false, .bool false, .bool false, .bool false, .bool false, .bool false, .bool false, .bool false, .bool false, .bool false, .bool false, .bool false, .bool false, .bool false, .bool false, .bool false, .bool false, .bool false, .bool false, .bool false, .bool false, .bool false, .bool false, .bool false, .bool false, .bool false, .bool false, .bool false, .bool false, .bool false, .bool false, .bool false, .bool false, .bool false, .bool false, .bool false, .bool false, .bool false, .bool false, .bool false, .bool false, .bool false, .bool false, .bool false, .bool false, .bool false, .bool false, .bool false, .bool false, .bool false, .bool false, .bool false, .bool false, .bool false, .bool false, .bool false, .bool false, .bool false, .bool false, .bool false]),
 xn (.sto (xt 6) (xt 30) 256),
 xm 7 31] [0,1,6,7]
def c66_21 := xG [xm 32 7] [0,1,6,32]
def c66_22 := xG [xo 8 (.mv (xi 0))] [0,6,8]
def c66_23 := xG [xm 33 8,
 xm 34 0,
 xo 35 (.len true (xt 34)),
 xo 36 (.bin .lss (xt 33) (xt 35))] [0,6,8,36]
def c66_24 := xC 36 xS (xE 0)
def c66_25 := xQ c66_23 c66_24
def c66_26 := xG [xm 39 0,
 xm 40 8,
 xo 41 (.sidx (xt 39) (xt 40)),
 xo 42 (.call 90 [xt 6, xt 41])] [0,6,8,42]
def c66_27 := xG [xm 43 8,
 xm 4 43] [4]
def c66_28 := xQ c66_27 xR
def c66_29 := xC 42 c66_28 xS
def c66_30 := xQ c66_26 c66_29
def c66_31 := xB 1 c66_30
def c66_32 := xG [xm 37 8,
 xo 38 (.bin .add (xt 37) (xi 1)),
 xm 8 38] [0,6,8]
def c66_33 := xQ c66_31 c66_32
def c66_34 := xQ c66_25 c66_33
def c66_35 := xL c66_34
def c66_36 := xB 0 c66_35
def c66_37 := xQ c66_22 c66_36
def c66_38 := xG [xo 4 (.mv (xi (-1)))] [4]
def c66_39 := xQ c66_38 xR
def c66_40 := xQ c66_37 c66_39
def c66_41 := xC 32 c66_40 xS
def c66_42 := xQ c66_21 c66_41
def c66_43 := xQ c66_20 c66_42
def c66_44 := xC 26 c66_43 xS
def c66_45 := xQ c66_19 c66_44
def c66_46 := xG [xm 44 0,
 xo 45 (.no)] [1,45]
def c66_47 := xG [xo 46 (.no),
 xo 47 (.ext (xt 46) 0)] [1,45,46,47]
def c66_48 := xC 47 xS (xE 2)
def c66_49 := xG [xo 48 (.ext (xt 46) 1),
 xo 49 (.ext (xt 46) 2),
 xm 9 48,
 xm 10 49] [1,9,10,45]
def c66_50 := xG [xm 50 1,
 xm 51 10,
 xo 52 (.call 87 [xt 50, xt 51]),
 xo 53 (.bin .geq (xt 52) (xi 0))] [1,9,45,53]
def c66_51 := xG [xm 54 9,
 xm 4 54] [4]
def c66_52 := xQ c66_51 xR
def c66_53 := xC 53 c66_52 xS
def c66_54 := xQ c66_50 c66_53
def c66_55 := xQ c66_49 c66_54
def c66_56 := xB 3 c66_55
def c66_57 := xQ c66_48 c66_56
def c66_58 := xQ c66_47 c66_57
def c66_59 := xL c66_58
def c66_60 := xB 2 c66_59
def c66_61 := xQ c66_46 c66_60
def c66_62 := xG [xo 4 (.mv (xi (-1)))] [4]
def c66_63 := xQ c66_62 xR
def c66_64 := xQ c66_61 c66_63
def c66_65 := xQ c66_45 c66_64
def c66_66 := xQ c66_18 c66_65
def c66_67 := xQ c66_6 c66_66
def c66_68 := xQ c66_1 c66_67
abbrev n_strings_IndexAny : Nat := 66
theorem k_strings_IndexAny : Known Pr mu n_strings_IndexAny (c66_68 ()) [.t 4] Go.Proofs.Tryz.f66.ntmps := .of [(0, [0,1], [], [], []), (1, [0,1,12], [], [], []), (2, [4], [], [], []), (3, [0,1,15], [], [], []), (4, [0,5], [], [], []), (5, [0,5,20], [], [], []), (6, [0,5], [], [], []), (7, [4], [], [], []), (8, [0,1,26], [], [], []), (9, [0,1,6,7], [], [], []), (10, [0,1,6,32], [], [], []), (11, [0,6,8], [], [], []), (12, [0,6,8,36], [], [], []), (14, [0,6,8,42], [], [], []), (15, [4], [], [], []), (13, [0,6,8], [], [], []), (16, [4], [], [], []), (17, [1,45], [], [], []), (18, [1,45,46,47], [], [], []), (19, [1,9,10,45], [], [], []), (20, [1,9,45,53], [], [], []), (21, [4], [], [], []), (22, [4], [], [], [])] hm Go.Proofs.Tryz.func66
def c67_1 := xG [xo 2 (.mv (xi 0)),
 xo 3 (.mv (xb false))] [0]
def c67_2 := xG [xm 8 0,
 xm 4 8,
 xo 5 (.mv (xi 1))] [0,4,5]
def c67_3 := xG [xm 9 0,
 xo 10 (.len true (xt 9)),
 xo 11 (.bin .gtr (xt 10) (xi 0)),
 xm 12 11,
 xT 13 12 (.mv (xt 0)),
 xT 14 12 (.sidx (xt 13) (xi 0)),
 xT 15 12 (.bin .eql (xt 14) (.const (.int .u8 45))),
 xo 16 (.pick (xt 12) (xt 15) (xb false))] [0,4,5,16]
def c67_4 := xG [xm 17 0,
 xo 18 (.slc true (xt 17) (some (xi 1)) none none 0),
 xm 4 18,
 xo 5 (.mv (xi (-1)))] [0,4,5]
def c67_5 := xC 16 c67_4 xS
def c67_6 := xQ c67_3 c67_5
def c67_7 := xG [xm 19 4,
 xo 20 (.len true (xt 19)),
 xo 21 (.call 22 [xt 20, xi 1, xi 9]),
 xo 22 (.not (xt 21))] [0,4,5,22]
def c67_8 := xG [xo 2 (.mv (xi 0)),
 xo 3 (.mv (xb false))] [2,3]
def c67_9 := xQ c67_8 xR
def c67_10 := xC 22 c67_9 xS
def c67_11 := xQ c67_7 c67_10
def c67_12 := xG [xo 6 (.mv (xi 0))] [0,4,5,6]
def c67_13 := xG [xm 23 4,
 xo 24 (.len true (xt 23)),
 xo 25 (.mv (xi 0))] [0,4,5,6,24,25]
def c67_14 := xG [xo 26 (.bin .lss (xt 25) (xt 24))] [0,4,5,6,24,25,26]
def c67_15 := xC 26 xS (xE 0)
def c67_16 := xG [xm 27 25,
 xm 7 27] [0,4,5,6,7,24,25]
def c67_17 := xG [xm 28 4,
 xm 29 7,
 xo 30 (.sidx (xt 28) (xt 29)),
 xo 31 (.bin .lss (xt 30) (.const (.int .u8 48))),
 xm 32 31,
 xF 33 32 (.mv (xt 4)),
 xF 34 32 (.mv (xt 7)),
 xF 35 32 (.sidx (xt 33) (xt 34)),
 xF 36 32 (.bin .gtr (xt 35) (.const (.int .u8 57))),
 xo 37 (.pick (xt 32) (xb true) (xt 36))] [0,4,5,6,7,24,25,37]
def c67_18 := xG [xo 2 (.mv (xi 0)),
 xo 3 (.mv (xb false))] [2,3]
def c67_19 := xQ c67_18 xR
def c67_20 := xC 37 c67_19 xS
def c67_21 := xQ c67_17 c67_20
def c67_22 := xG [xm 38 6,
 xo 39 (.bin .mul (xi 10) (xt 38)),
 xm 40 4,
 xm 41 7,
 xo 42 (.sidx (xt 40) (xt 41)),
 xo 43 (.bin .sub (xt 42) (.const (.int .u8 48))),
 xo 44 (.conv .i64 (xt 43)),
 xo 45 (.bin .add (xt 39) (xt 44)),
 xm 6 45] [0,4,5,6,24,25]
def c67_23 := xQ c67_21 c67_22
def c67_24 := xQ c67_16 c67_23
def c67_25 := xB 1 c67_24
def c67_26 := xG [xo 46 (.bin .add (xt 25) (xi 1)),
 xm 25 46] [0,4,5,6,24,25]
def c67_27 := xQ c67_25 c67_26
def c67_28 := xQ c67_15 c67_27
def c67_29 := xQ c67_14 c67_28
def c67_30 := xL c67_29
def c67_31 := xB 0 c67_30
def c67_32 := xQ c67_13 c67_31
def c67_33 := xG [xm 47 5,
 xm 48 6,
 xo 49 (.bin .mul (xt 47) (xt 48)),
 xo 50 (.call 32 [xt 49]),
 xm 51 0,
 xo 52 (.bin .neq (xt 50) (xt 51))] [5,6,52]
def c67_34 := xG [xo 2 (.mv (xi 0)),
 xo 3 (.mv (xb false))] [2,3]
def c67_35 := xQ c67_34 xR
def c67_36 := xC 52 c67_35 xS
def c67_37 := xQ c67_33 c67_36
def c67_38 := xG [xm 53 5,
 xm 54 6,
 xo 55 (.bin .mul (xt 53) (xt 54)),
 xm 2 55,
 xo 3 (.mv (xb true))] [2,3]
def c67_39 := xQ c67_38 xR
def c67_40 := xQ c67_37 c67_39
def c67_41 := xQ c67_32 c67_40
def c67_42 := xQ c67_12 c67_41
def c67_43 := xQ c67_11 c67_42
def c67_44 := xQ c67_6 c67_43
def c67_45 := xQ c67_2 c67_44
def c67_46 := xQ c67_1 c67_45
abbrev n_impl_ParseInt : Nat := 67
theorem k_impl_ParseInt : Known Pr mu n_impl_ParseInt (c67_46 ()) [.t 2, .t 3] Go.Proofs.Tryz.f67.ntmps := .of [(0, [0], [], [], []), (1, [0,4,5], [], [], []), (2, [0,4,5,16], [], [], []), (3, [0,4,5], [], [], []), (4, [0,4,5,22], [], [], []), (5, [2,3], [], [], []), (6, [0,4,5,6], [], [], []), (7, [0,4,5,6,24,25], [], [], []), (8, [0,4,5,6,24,25,26], [], [], []), (9, [0,4,5,6,7,24,25], [], [], []), (10, [0,4,5,6,7,24,25,37], [], [], []), (11, [2,3], [], [], []), (12, [0,4,5,6,24,25], [], [], []), (13, [0,4,5,6,24,25], [], [], []), (14, [5,6,52], [], [], []), (15, [2,3], [], [], []), (16, [2,3], [], [], [])] hm Go.Proofs.Tryz.func67
def c68_1 := xG [xo 1 (.box (xt 0)),
 xo 2 (.mv (xb false))] [1]
def c68_2 := xG [xo 3 (.mv (xi 0))] [1,3]
def c68_3 := xG [xm 6 3,
 xo 7 (.fa (xt 1) 0),
 xo 8 (.ld (xt 7) 1 false),
 xo 9 (.len false (xt 8)),
 xo 10 (.bin .lss (xt 6) (xt 9))] [1,3,10]
def c68_4 := xC 10 xS (xE 0)
def c68_5 := xQ c68_3 c68_4
def c68_6 := xG [xo 13 (.fa (xt 1) 0),
 xo 14 (.ld (xt 13) 1 false),
 xm 15 3,
 xo 16 (.ia (xt 14) (xt 15) 1),
 xo 17 (.ld (xt 16) 1 false),
 xo 18 (.call 26 [xt 17, xi 0, xi 9]),
 xo 19 (.not (xt 18))] [1,3,19]
def c68_7 := xG [xo 2 (.mv (xb false))] [2]
def c68_8 := xQ c68_7 xR
def c68_9 := xC 19 c68_8 xS
def c68_10 := xQ c68_6 c68_9
def c68_11 := xB 1 c68_10
def c68_12 := xG [xm 11 3,
 xo 12 (.bin .add (xt 11) (xi 1)),
 xm 3 12] [1,3]
def c68_13 := xQ c68_11 c68_12
def c68_14 := xQ c68_5 c68_13
def c68_15 := xL c68_14
def c68_16 := xB 0 c68_15
def c68_17 := xQ c68_2 c68_16
def c68_18 := xG [xo 4 (.mv (xi 0))] [1,4]
def c68_19 := xG [xm 20 4,
 xo 21 (.fa (xt 1) 1),
 xo 22 (.ld (xt 21) 1 false),
 xo 23 (.len false (xt 22)),
 xo 24 (.bin .lss (xt 20) (xt 23))] [1,4,24]
def c68_20 := xC 24 xS (xE 2)
def c68_21 := xQ c68_19 c68_20
def c68_22 := xG [xo 27 (.fa (xt 1) 1),
 xo 28 (.ld (xt 27) 1 false),
 xm 29 4,
 xo 30 (.ia (xt 28) (xt 29) 4),
 xo 31 (.ld (xt 30) 4 true),
 xo 5 (.alloc [.int .i64 0, .int .i64 0, .bool false, .int .i64 0]),
 xn (.sto (xt 5) (xt 31) 4)] [1,4,5]
def c68_23 := xG [xo 32 (.fa (xt 5) 0),
 xo 33 (.ld (xt 32) 1 false),
 xo 34 (.call 26 [xt 33, xi 0, xi 2]),
 xo 35 (.not (xt 34)),
 xm 36 35,
 xF 37 36 (.fa (xt 5) 1),
 xF 38 36 (.ld (xt 37) 1 false),
 xF 39 36 (.call 26 [xt 38, xi 1, xi 99]),
 xF 40 36 (.not (xt 39)),
 xo 41 (.pick (xt 36) (xb true) (xt 40)),
 xm 42 41,
 xF 43 42 (.fa (xt 5) 2),
 xF 44 42 (.fa (xt 43) 1),
 xF 45 42 (.ld (xt 44) 1 false),
 xF 46 42 (.call 26 [xt 45, xi 0, xi 9]),
 xF 47 42 (.not (xt 46)),
 xo 48 (.pick (xt 42) (xb true) (xt 47)),
 xm 49 48,
 xF 50 49 (.mv (xt 4)),
 xF 51 49 (.bin .gtr (xt 50) (xi 0)),
 xF 52 49 (.mv (xt 51)),
 xT 53 52 (.fa (xt 1) 1),
 xT 54 52 (.ld (xt 53) 1 false),
 xT 55 52 (.mv (xt 4)),
 xT 56 52 (.bin .sub (xt 55) (xi 1)),
 xT 57 52 (.ia (xt 54) (xt 56) 4),
 xT 58 52 (.fa (xt 57) 0),
 xT 59 52 (.ld (xt 58) 1 false),
 ⟨(some 60), .fa (xt 5) 0, (some (52, true)), [21, 22, 23, 24, 25, 26, 27]⟩,
 ⟨(some 61), .ld (xt 60) 1 false, (some (52, true)), [21, 22, 23, 24, 25, 26, 27]⟩,
 xT 62 52 (.bin .geq (xt 59) (xt 61)),
 xF 63 49 (.pick (xt 52) (xt 62) (xb false)),
 xo 64 (.pick (xt 49) (xb true) (xt 63))] [1,4,64]
def c68_24 := xG [xo 2 (.mv (xb false))] [2]
def c68_25 := xQ c68_24 xR
def c68_26 := xC 64 c68_25 xS
def c68_27 := xQ c68_23 c68_26
def c68_28 := xQ c68_22 c68_27
def c68_29 := xB 3 c68_28
def c68_30 := xG [xm 25 4,
 xo 26 (.bin .add (xt 25) (xi 1)),
 xm 4 26] [1,4]
def c68_31 := xQ c68_29 c68_30
def c68_32 := xQ c68_21 c68_31
def c68_33 := xL c68_32
def c68_34 := xB 2 c68_33
def c68_35 := xQ c68_18 c68_34
def c68_36 := xG [xo 65 (.fa (xt 1) 0),
 xo 66 (.ld (xt 65) 1 false),
 xo 67 (.len false (xt 66)),
 xo 68 (.bin .eql (xt 67) (xi 3)),
 xm 2 68] [2]
def c68_37 := xQ c68_36 xR
def c68_38 := xQ c68_35 c68_37
def c68_39 := xQ c68_17 c68_38
def c68_40 := xQ c68_1 c68_39
abbrev n_spec_IsValidMachine : Nat := 68
theorem k_spec_IsValidMachine : Known Pr mu n_spec_IsValidMachine (c68_40 ()) [.t 2] Go.Proofs.Tryz.f68.ntmps := .of [(0, [1], [], [], []), (1, [1,3], [], [], []), (2, [1,3,10], [], [], []), (4, [1,3,19], [], [], []), (5, [2], [], [], []), (3, [1,3], [], [], []), (6, [1,4], [], [], []), (7, [1,4,24], [], [], []), (9, [1,4,5], [], [], []), (10, [1,4,64], [[],[],[],[],[],[],[],[],[],[],[],[],[],[],[],[],[],[],[],[],[],[],[],[],[],[],[],[],[21,22,23,24,25,26,27],[21,22,23,24,25,26,27]], [], []), (11, [2], [], [], []), (8, [1,4], [], [], []), (12, [2], [], [], [])] hm Go.Proofs.Tryz.func68
def c69_1 := xG [xo 2 (.mv (xi 0))] [0]
def c69_2 := xG [xo 3 (.mv (xi 5))] [0,3]
def c69_3 := xG [xm 5 0,
 xo 6 (.len true (xt 5)),
 xo 7 (.mv (xi 0))] [0,3,6,7]
def c69_4 := xG [xo 8 (.bin .lss (xt 7) (xt 6))] [0,3,6,7,8]
def c69_5 := xC 8 xS (xE 0)
def c69_6 := xG [xm 9 7,
 xm 4 9] [0,3,4,6,7]
def c69_7 := xG [xm 10 3,
 xo 11 (.bin .mul (xi 257) (xt 10)),
 xm 12 0,
 xm 13 4,
 xo 14 (.sidx (xt 12) (xt 13)),
 xo 15 (.conv .i64 (xt 14)),
 xo 16 (.bin .add (xt 11) (xt 15)),
 xo 17 (.bin .add (xt 16) (xi 1)),
 xo 18 (.bin .rem (xt 17) (xi 9949)),
 xm 3 18] [0,3,6,7]
def c69_8 := xQ c69_6 c69_7
def c69_9 := xB 1 c69_8
def c69_10 := xG [xo 19 (.bin .add (xt 7) (xi 1)),
 xm 7 19] [0,3,6,7]
def c69_11 := xQ c69_9 c69_10
def c69_12 := xQ c69_5 c69_11
def c69_13 := xQ c69_4 c69_12
def c69_14 := xL c69_13
def c69_15 := xB 0 c69_14
def c69_16 := xQ c69_3 c69_15
def c69_17 := xG [xm 20 3,
 xm 2 20] [2]
def c69_18 := xQ c69_17 xR
def c69_19 := xQ c69_16 c69_18
def c69_20 := xQ c69_2 c69_19
def c69_21 := xQ c69_1 c69_20
abbrev n_impl_Checksum : Nat := 69
theorem k_impl_Checksum : Known Pr mu n_impl_Checksum (c69_21 ()) [.t 2] Go.Proofs.Tryz.f69.ntmps := .of [(0, [0], [], [], []), (1, [0,3], [], [], []), (2, [0,3,6,7], [], [], []), (3, [0,3,6,7,8], [], [], []), (4, [0,3,4,6,7], [], [], []), (5, [0,3,6,7], [], [], []), (6, [0,3,6,7], [], [], []), (7, [2], [], [], [])] hm Go.Proofs.Tryz.func69
def c70_1 := xG [xo 4 (.mv (xi 0))] [0,1]
def c70_2 := xG [xm 5 0,
 xm 6 1,
 xo 7 (.call 91 [xt 5, xt 6]),
 xm 4 7] [4]
def c70_3 := xQ c70_2 xR
def c70_4 := xQ c70_1 c70_3
abbrev n_strings_LastIndexByte : Nat := 70
theorem k_strings_LastIndexByte : Known Pr mu n_strings_LastIndexByte (c70_4 ()) [.t 4] Go.Proofs.Tryz.f70.ntmps := .of [(0, [0,1], [], [], []), (1, [4], [], [], [])] hm Go.Proofs.Tryz.func70
def c71_1 := xG [xo 4 (.mv (xb false))] [0,1]
def c71_2 := xG [xm 5 0,
 xm 6 1,
 xo 7 (.callp 20 [xt 5, xt 6]),
 xo 8 (.bin .eql (xt 7) (xi 0)),
 xm 4 8] [4]
def c71_3 := xQ c71_2 xR
def c71_4 := xQ c71_1 c71_3
abbrev n_spec_l1Once : Nat := 71
theorem k_spec_l1Once : Known Pr mu n_spec_l1Once (c71_4 ()) [.t 4] Go.Proofs.Tryz.f71.ntmps := .of [(0, [0,1], [], [], []), (1, [4], [], [], [])] hm Go.Proofs.Tryz.func71
def c72_1 := xG [xo 1 (.box (xt 0)),
 xo 2 (.alloc [.slice none 0 0, .slice none 0 0])] [1,2]
def c72_2 := xG [xo 3 (.fa (xt 1) 0),
 xo 4 (.ld (xt 3) 1 false),
 xo 5 (.call 92 [xt 4]),
 ⟨(some 6), .fa (xt 1) 1, none, [0, 1, 2]⟩,
 ⟨(some 7), .ld (xt 6) 1 false, none, [0, 1, 2]⟩,
 xo 8 (.call 93 [xt 7]),
 xo 9 (.bld [.slice none 0 0, .slice none 0 0] [(0, 1, (xt 5)), (1, 1, (xt 8))]),
 xn (.sto (xt 2) (xt 9) 2)] [2]
def c72_3 := xQ c72_2 xR
def c72_4 := xQ c72_1 c72_3
abbrev n_impl_machineCopy : Nat := 72
theorem k_impl_machineCopy : Known Pr mu n_impl_machineCopy (c72_4 ()) [.c 2 2 true] Go.Proofs.Tryz.f72.ntmps := .of [(0, [1,2], [], [], []), (1, [2], [[],[],[],[0,1,2],[0,1,2]], [], [])] hm Go.Proofs.Tryz.func72
def c73_1 := xG [xo 2 (.box (xt 0)),
 xo 4 (.alloc [.int .i64 0, .int .i64 0, .bool false, .int .i64 0]),
 xo 5 (.mv (xb false))] [1,2,4]
def c73_2 := xG [xo 8 (.fa (xt 2) 1),
 xo 9 (.ld (xt 8) 1 false),
 xo 10 (.len false (xt 9)),
 xo 11 (.mv (xi 0))] [1,4,9,10,11]
def c73_3 := xG [xo 12 (.bin .lss (xt 11) (xt 10))] [1,4,9,10,11,12]
def c73_4 := xC 12 xS (xE 0)
def c73_5 := xG [xo 13 (.ia (xt 9) (xt 11) 4),
 xo 14 (.ld (xt 13) 4 true),
 xo 7 (.alloc [.int .i64 0, .int .i64 0, .bool false, .int .i64 0]),
 xn (.sto (xt 7) (xt 14) 4)] [1,4,7,9,10,11]
def c73_6 := xG [xo 15 (.fa (xt 7) 0),
 xo 16 (.ld (xt 15) 1 false),
 xm 17 1,
 xo 18 (.bin .eql (xt 16) (xt 17))] [1,4,7,9,10,11,18]
def c73_7 := xG [xo 19 (.ld (xt 7) 4 true),
 xn (.sto (xt 4) (xt 19) 4),
 xo 5 (.mv (xb true))] [4,5]
def c73_8 := xQ c73_7 xR
def c73_9 := xC 18 c73_8 xS
def c73_10 := xQ c73_6 c73_9
def c73_11 := xQ c73_5 c73_10
def c73_12 := xB 1 c73_11
def c73_13 := xG [xo 20 (.bin .add (xt 11) (xi 1)),
 xm 11 20] [1,4,9,10,11]
def c73_14 := xQ c73_12 c73_13
def c73_15 := xQ c73_4 c73_14
def c73_16 := xQ c73_3 c73_15
def c73_17 := xL c73_16
def c73_18 := xB 0 c73_17
def c73_19 := xQ c73_2 c73_18
def c73_20 := xG [xo 21 (.bld [.int .i64 0, .int .i64 0, .bool false, .int .i64 0] []),
 xn (.sto (xt 4) (xt 21) 4),
 xo 5 (.mv (xb false))] [4,5]
def c73_21 := xQ c73_20 xR
def c73_22 := xQ c73_19 c73_21
def c73_23 := xQ c73_1 c73_22
abbrev n_impl_SessionOf : Nat := 73
theorem k_impl_SessionOf : Known Pr mu n_impl_SessionOf (c73_23 ()) [.c 4 4 true, .t 5] Go.Proofs.Tryz.f73.ntmps := .of [(0, [1,2,4], [], [], []), (1, [1,4,9,10,11], [], [], []), (2, [1,4,9,10,11,12], [], [], []), (3, [1,4,7,9,10,11], [], [], []), (4, [1,4,7,9,10,11,18], [], [], []), (5, [4,5], [], [], []), (6, [1,4,9,10,11], [], [], []), (7, [4,5], [], [], [])] hm Go.Proofs.Tryz.func73
def c74_1 := xG [xo 6 (.mv (.const (.slice none 0 0)))] [0,1,2]
def c74_2 := xG [xm 10 0,
 xm 11 1,
 xo 12 (.slc false (xt 10) (some (xt 11)) none none 4)] [0,1,2]
def c74_3 := xG [xm 13 2,
 xo 14 (.len false (xt 13)),
 xm 7 14] [0,1,2,7]
def c74_4 := xG [xm 15 7,
 xo 16 (.bin .eql (xt 15) (xi 0))] [0,1,2,7,16]
def c74_5 := xG [xm 17 0,
 xm 6 17] [6]
def c74_6 := xQ c74_5 xR
def c74_7 := xC 16 c74_6 xS
def c74_8 := xQ c74_4 c74_7
def c74_9 := xG [xm 18 0,
 xo 19 (.len false (xt 18)),
 xm 8 19] [0,1,2,7,8]
def c74_10 := xG [xm 20 1,
 xm 21 8,
 xo 22 (.bin .eql (xt 20) (xt 21))] [0,1,2,7,8,22]
def c74_11 := xG [xm 23 0,
 xm 24 2,
 xo 25 (.app (xt 23) (xt 24) 4 32),
 xm 6 25] [6]
def c74_12 := xQ c74_11 xR
def c74_13 := xC 22 c74_12 xS
def c74_14 := xQ c74_10 c74_13
def c74_15 := xG [xm 26 8,
 xm 27 7,
 xo 28 (.bin .add (xt 26) (xt 27)),
 xm 29 0,
 xo 30 (.cap (xt 29)),
 xo 31 (.bin .gtr (xt 28) (xt 30))] [0,1,2,7,8,31]
def c74_16 := xG [xm 32 0,
 xm 33 1,
 xo 34 (.slc false (xt 32) none (some (xt 33)) none 4),
 xm 35 8,
 xm 36 7,
 xo 37 (.bin .add (xt 35) (xt 36)),
 xm 38 1,
 xo 39 (.bin .sub (xt 37) (xt 38)),
 xo 40 (.appz (xt 34) (xt 39) 4 32 [.int .i64 0, .int .i64 0, .bool false, .int .i64 0]),
 xm 9 40] [0,1,2,7,9]
def c74_17 := xG [xm 41 9,
 xm 42 1,
 xo 43 (.slc false (xt 41) (some (xt 42)) none none 4),
 xm 44 2,
 xo 45 (.no)] [0,1,7,9]
def c74_18 := xG [xm 46 9,
 xm 47 1,
 xm 48 7,
 xo 49 (.bin .add (xt 47) (xt 48)),
 xo 50 (.slc false (xt 46) (some (xt 49)) none none 4),
 xm 51 0,
 xm 52 1,
 ⟨(some 53), .slc false (xt 51) (some (xt 52)) none none 4, none, [0, 1, 2, 3, 4]⟩,
 xo 54 (.no)] [9]
def c74_19 := xG [xm 55 9,
 xm 6 55] [6]
def c74_20 := xQ c74_19 xR
def c74_21 := xQ c74_18 c74_20
def c74_22 := xQ c74_17 c74_21
def c74_23 := xQ c74_16 c74_22
def c74_24 := xC 31 c74_23 xS
def c74_25 := xQ c74_15 c74_24
def c74_26 := xG [xm 56 0,
 xm 57 8,
 xm 58 7,
 xo 59 (.bin .add (xt 57) (xt 58)),
 xo 60 (.slc false (xt 56) none (some (xt 59)) none 4),
 xm 0 60] [0,1,2,7,8]
def c74_27 := xG [xm 61 2,
 xm 62 0,
 xm 63 1,
 xm 64 7,
 xo 65 (.bin .add (xt 63) (xt 64)),
 xo 66 (.slc false (xt 62) (some (xt 65)) none none 4),
 xo 67 (.call 94 [xt 61, xt 66]),
 xo 68 (.not (xt 67))] [0,1,2,7,8,68]
def c74_28 := xG [xm 69 0,
 xm 70 1,
 xm 71 7,
 xo 72 (.bin .add (xt 70) (xt 71)),
 xo 73 (.slc false (xt 69) (some (xt 72)) none none 4),
 xm 74 0,
 xm 75 1,
 ⟨(some 76), .slc false (xt 74) (some (xt 75)) none none 4, none, [0, 1, 2, 3, 4]⟩,
 xo 77 (.no)] [0,1,2]
def c74_29 := xG [xm 78 0,
 xm 79 1,
 xo 80 (.slc false (xt 78) (some (xt 79)) none none 4),
 xm 81 2,
 xo 82 (.no)] [0]
def c74_30 := xG [xm 83 0,
 xm 6 83] [6]
def c74_31 := xQ c74_30 xR
def c74_32 := xQ c74_29 c74_31
def c74_33 := xQ c74_28 c74_32
def c74_34 := xC 68 c74_33 xS
def c74_35 := xQ c74_27 c74_34
def c74_36 := xG [xm 84 0,
 xm 85 8,
 xo 86 (.slc false (xt 84) (some (xt 85)) none none 4),
 xm 87 2,
 xo 88 (.no)] [0,1,7]
def c74_37 := xG [xm 89 0,
 xm 90 1,
 xo 91 (.slc false (xt 89) (some (xt 90)) none none 4),
 xm 92 7,
 xo 93 (.call 95 [xt 91, xt 92])] [0]
def c74_38 := xG [xm 94 0,
 xm 6 94] [6]
def c74_39 := xQ c74_38 xR
def c74_40 := xQ c74_37 c74_39
def c74_41 := xQ c74_36 c74_40
def c74_42 := xQ c74_35 c74_41
def c74_43 := xQ c74_26 c74_42
def c74_44 := xQ c74_25 c74_43
def c74_45 := xQ c74_14 c74_44
def c74_46 := xQ c74_9 c74_45
def c74_47 := xQ c74_8 c74_46
def c74_48 := xQ c74_3 c74_47
def c74_49 := xQ c74_2 c74_48
def c74_50 := xQ c74_1 c74_49
abbrev n_slices_Insert_implSessionimplSession : Nat := 74
theorem k_slices_Insert_implSessionimplSession : Known Pr mu n_slices_Insert_implSessionimplSession (c74_50 ()) [.t 6] Go.Proofs.Tryz.f74.ntmps := .of [(0, [0,1,2], [], [], []), (1, [0,1,2], [], [], []), (2, [0,1,2,7], [], [], []), (3, [0,1,2,7,16], [], [], []), (4, [6], [], [], []), (5, [0,1,2,7,8], [], [], []), (6, [0,1,2,7,8,22], [], [], []), (7, [6], [], [], []), (8, [0,1,2,7,8,31], [], [], []), (9, [0,1,2,7,9], [], [], []), (10, [0,1,7,9], [], [], []), (11, [9], [[],[],[],[],[],[],[],[0,1,2,3,4]], [], []), (12, [6], [], [], []), (13, [0,1,2,7,8], [], [], []), (14, [0,1,2,7,8,68], [], [], []), (15, [0,1,2], [[],[],[],[],[],[],[],[0,1,2,3,4]], [], []), (16, [0], [], [], []), (17, [6], [], [], []), (18, [0,1,7], [], [], []), (19, [0], [], [], []), (20, [6], [], [], [])] hm Go.Proofs.Tryz.func74
def c75_1 := xG [xo 2 (.mv (.const (.string ⟨#[]⟩)))] [0]
def c75_2 := xG [xm 7 0,
 xo 8 (.call 21 [xt 7]),
 xo 9 (.not (xt 8)),
 xm 6 9] [0,6]
def c75_3 := xG [xo 2 (.mv (.const (.string ⟨#[]⟩)))] [2]
def c75_4 := xQ c75_3 xR
def c75_5 := xG [xm 11 0,
 xo 12 (.len false (xt 11)),
 xo 13 (.bin .eql (xt 12) (xi 0)),
 xm 10 13] [0,10]
def c75_6 := xG [xo 2 (.mv (.const (.string ⟨#[110, 111, 110, 101]⟩)))] [2]
def c75_7 := xQ c75_6 xR
def c75_8 := xC 10 c75_7 xS
def c75_9 := xQ c75_5 c75_8
def c75_10 := xC 6 c75_4 c75_9
def c75_11 := xQ c75_2 c75_10
def c75_12 := xB 0 c75_11
def c75_13 := xG [xo 14 (.bsl 1 0 [.string ⟨#[]⟩] []),
 xm 3 14] [0,3]
def c75_14 := xG [xm 15 0,
 xo 16 (.len false (xt 15)),
 xo 17 (.mv (xi 0))] [3,15,16,17]
def c75_15 := xG [xo 18 (.bin .lss (xt 17) (xt 16))] [3,15,16,17,18]
def c75_16 := xC 18 xS (xE 1)
def c75_17 := xG [xo 19 (.ia (xt 15) (xt 17) 7),
 xo 20 (.ld (xt 19) 7 true),
 xo 5 (.alloc [.int .i64 0, .int .i64 0, .int .i64 0, .int .i64 0, .int .i64 0, .int .i64 0, .int .i64 0]),
 xn (.sto (xt 5) (xt 20) 7)] [3,5,15,16,17]
def c75_18 := xG [xm 21 3,
 ⟨(some 22), .fa (xt 5) 0, none, [0]⟩,
 ⟨(some 23), .ld (xt 22) 1 false, none, [0]⟩,
 ⟨(some 24), .call 32 [xt 23], none, [0]⟩,
 xo 25 (.bin .add (xt 24) (.const (.string ⟨#[58]⟩))),
 ⟨(some 26), .fa (xt 5) 1, none, [0, 1, 2, 3, 4]⟩,
 ⟨(some 27), .ld (xt 26) 6 true, none, [0, 1, 2, 3, 4]⟩,
 ⟨(some 28), .call 96 [xt 27], none, [0, 4]⟩,
 xo 29 (.bin .add (xt 25) (xt 28)),
 xo 30 (.bsl 1 1 [.string ⟨#[]⟩] [(0, (xt 29))]),
 xo 31 (.app (xt 21) (xt 30) 1 16),
 xm 3 31] [3,15,16,17]
def c75_19 := xQ c75_17 c75_18
def c75_20 := xB 2 c75_19
def c75_21 := xG [xo 32 (.bin .add (xt 17) (xi 1)),
 xm 17 32] [3,15,16,17]
def c75_22 := xQ c75_20 c75_21
def c75_23 := xQ c75_16 c75_22
def c75_24 := xQ c75_15 c75_23
def c75_25 := xL c75_24
def c75_26 := xB 1 c75_25
def c75_27 := xQ c75_14 c75_26
def c75_28 := xG [xm 33 3,
 xo 34 (.call 97 [xt 33, (.const (.string ⟨#[59]⟩))]),
 xm 2 34] [2]
def c75_29 := xQ c75_28 xR
def c75_30 := xQ c75_27 c75_29
def c75_31 := xQ c75_13 c75_30
def c75_32 := xQ c75_12 c75_31
def c75_33 := xQ c75_1 c75_32
abbrev n_impl_FormatLog : Nat := 75
theorem k_impl_FormatLog : Known Pr mu n_impl_FormatLog (c75_33 ()) [.t 2] Go.Proofs.Tryz.f75.ntmps := .of [(0, [0], [], [], []), (1, [0,6], [], [], []), (2, [2], [], [], []), (3, [0,10], [], [], []), (4, [2], [], [], []), (5, [0,3], [], [], []), (6, [3,15,16,17], [], [], []), (7, [3,15,16,17,18], [], [], []), (8, [3,5,15,16,17], [], [], []), (9, [3,15,16,17], [[],[0],[0],[0],[],[0,1,2,3,4],[0,1,2,3,4],[0,4]], [], []), (10, [3,15,16,17], [], [], []), (11, [2], [], [], [])] hm Go.Proofs.Tryz.func75
def c76_1 := xG [xo 1 (.box (xt 0)),
 xo 2 (.alloc [.slice none 0 0, .slice none 0 0])] [1,2]
def c76_2 := xG [xo 3 (.bsl 1 0 [.int .i64 0] []),
 ⟨(some 4), .fa (xt 1) 0, none, [0]⟩,
 ⟨(some 5), .ld (xt 4) 1 false, none, [0]⟩,
 ⟨(some 6), .appn (xt 3) (xt 5) 1 8, none, [1000000]⟩,
 xo 7 (.bsl 4 0 [.int .i64 0, .int .i64 0, .bool false, .int .i64 0] []),
 ⟨(some 8), .fa (xt 1) 1, none, [0, 1, 2, 3, 4]⟩,
 ⟨(some 9), .ld (xt 8) 1 false, none, [0, 1, 2, 3, 4]⟩,
 ⟨(some 10), .appn (xt 7) (xt 9) 4 32, none, [1000000]⟩,
 xo 11 (.bld [.slice none 0 0, .slice none 0 0] [(0, 1, (xt 6)), (1, 1, (xt 10))]),
 xn (.sto (xt 2) (xt 11) 2)] [2]
def c76_3 := xQ c76_2 xR
def c76_4 := xQ c76_1 c76_3
abbrev n_spec_l4Copy : Nat := 76
theorem k_spec_l4Copy : Known Pr mu n_spec_l4Copy (c76_4 ()) [.c 2 2 true] Go.Proofs.Tryz.f76.ntmps := .of [(0, [1,2], [], [], []), (1, [2], [[],[0],[0],[1000000],[],[0,1,2,3,4],[0,1,2,3,4],[1000000]], [], [])] hm Go.Proofs.Tryz.func76
def c77_1 := xG [xo 2 (.box (xt 0)),
 xo 4 (.alloc [.int .i64 0, .int .i64 0, .bool false, .int .i64 0]),
 xo 5 (.mv (xb false))] [1,2,4]
def c77_2 := xG [xo 6 (.mv (xi 0))] [1,2,4,6]
def c77_3 := xG [xm 7 6,
 xo 8 (.fa (xt 2) 1),
 xo 9 (.ld (xt 8) 1 false),
 xo 10 (.len false (xt 9)),
 xo 11 (.bin .lss (xt 7) (xt 10))] [1,2,4,6,11]
def c77_4 := xC 11 xS (xE 0)
def c77_5 := xQ c77_3 c77_4
def c77_6 := xG [xo 14 (.fa (xt 2) 1),
 xo 15 (.ld (xt 14) 1 false),
 xm 16 6,
 xo 17 (.ia (xt 15) (xt 16) 4),
 xo 18 (.fa (xt 17) 0),
 xo 19 (.ld (xt 18) 1 false),
 xm 20 1,
 xo 21 (.bin .eql (xt 19) (xt 20))] [1,2,4,6,21]
def c77_7 := xG [xo 22 (.fa (xt 2) 1),
 xo 23 (.ld (xt 22) 1 false),
 xm 24 6,
 xo 25 (.ia (xt 23) (xt 24) 4),
 xo 26 (.ld (xt 25) 4 true),
 xn (.sto (xt 4) (xt 26) 4),
 xo 5 (.mv (xb true))] [4,5]
def c77_8 := xQ c77_7 xR
def c77_9 := xC 21 c77_8 xS
def c77_10 := xQ c77_6 c77_9
def c77_11 := xB 1 c77_10
def c77_12 := xG [xm 12 6,
 xo 13 (.bin .add (xt 12) (xi 1)),
 xm 6 13] [1,2,4,6]
def c77_13 := xQ c77_11 c77_12
def c77_14 := xQ c77_5 c77_13
def c77_15 := xL c77_14
def c77_16 := xB 0 c77_15
def c77_17 := xQ c77_2 c77_16
def c77_18 := xG [xo 27 (.bld [.int .i64 0, .int .i64 0, .bool false, .int .i64 0] []),
 xn (.sto (xt 4) (xt 27) 4),
 xo 5 (.mv (xb false))] [4,5]
def c77_19 := xQ c77_18 xR
def c77_20 := xQ c77_17 c77_19
def c77_21 := xQ c77_1 c77_20
abbrev n_spec_SessionOf : Nat := 77
theorem k_spec_SessionOf : Known Pr mu n_spec_SessionOf (c77_21 ()) [.c 4 4 true, .t 5] Go.Proofs.Tryz.f77.ntmps := .of [(0, [1,2,4], [], [], []), (1, [1,2,4,6], [], [], []), (2, [1,2,4,6,11], [], [], []), (4, [1,2,4,6,21], [], [], []), (5, [4,5], [], [], []), (3, [1,2,4,6], [], [], []), (6, [4,5], [], [], [])] hm Go.Proofs.Tryz.func77
def c78_1 := xG [xo 2 (.mv (xi 0))] [0]
def c78_2 := xG [xo 3 (.mv (xi 5))] [0,3]
def c78_3 := xG [xo 4 (.mv (xi 0))] [0,3,4]
def c78_4 := xG [xm 5 4,
 xm 6 0,
 xo 7 (.len true (xt 6)),
 xo 8 (.bin .lss (xt 5) (xt 7))] [0,3,4,8]
def c78_5 := xC 8 xS (xE 0)
def c78_6 := xQ c78_4 c78_5
def c78_7 := xG [xm 11 3,
 xo 12 (.bin .mul (xt 11) (xi 257)),
 xm 13 0,
 xm 14 4,
 xo 15 (.sidx (xt 13) (xt 14)),
 xo 16 (.conv .i64 (xt 15)),
 xo 17 (.bin .add (xt 12) (xt 16)),
 xo 18 (.bin .add (xt 17) (xi 1)),
 xo 19 (.bin .rem (xt 18) (xi 9949)),
 xm 3 19] [0,3,4]
def c78_8 := xB 1 c78_7
def c78_9 := xG [xm 9 4,
 xo 10 (.bin .add (xt 9) (xi 1)),
 xm 4 10] [0,3,4]
def c78_10 := xQ c78_8 c78_9
def c78_11 := xQ c78_6 c78_10
def c78_12 := xL c78_11
def c78_13 := xB 0 c78_12
def c78_14 := xQ c78_3 c78_13
def c78_15 := xG [xm 20 3,
 xm 2 20] [2]
def c78_16 := xQ c78_15 xR
def c78_17 := xQ c78_14 c78_16
def c78_18 := xQ c78_2 c78_17
def c78_19 := xQ c78_1 c78_18
abbrev n_spec_Checksum : Nat := 78
theorem k_spec_Checksum : Known Pr mu n_spec_Checksum (c78_19 ()) [.t 2] Go.Proofs.Tryz.f78.ntmps := .of [(0, [0], [], [], []), (1, [0,3], [], [], []), (2, [0,3,4], [], [], []), (3, [0,3,4,8], [], [], []), (5, [0,3,4], [], [], []), (4, [0,3,4], [], [], []), (6, [2], [], [], [])] hm Go.Proofs.Tryz.func78
def c79_1 := xG [xo 2 (.mv (.const (.string ⟨#[]⟩)))] [0]
def c79_2 := xG [xm 5 0,
 xo 6 (.call 25 [xt 5]),
 xo 7 (.not (xt 6))] [0,7]
def c79_3 := xG [xo 2 (.mv (.const (.string ⟨#[]⟩)))] [2]
def c79_4 := xQ c79_3 xR
def c79_5 := xC 7 c79_4 xS
def c79_6 := xQ c79_2 c79_5
def c79_7 := xG [xm 8 0,
 xo 9 (.len false (xt 8)),
 xo 10 (.bin .eql (xt 9) (xi 0))] [0,10]
def c79_8 := xG [xo 2 (.mv (.const (.string ⟨#[110, 111, 110, 101]⟩)))] [2]
def c79_9 := xQ c79_8 xR
def c79_10 := xC 10 c79_9 xS
def c79_11 := xQ c79_7 c79_10
def c79_12 := xG [xo 3 (.mv (.const (.string ⟨#[]⟩)))] [0,3]
def c79_13 := xG [xo 4 (.mv (xi 0))] [0,3,4]
def c79_14 := xG [xm 11 4,
 xm 12 0,
 xo 13 (.len false (xt 12)),
 xo 14 (.bin .lss (xt 11) (xt 13))] [0,3,4,14]
def c79_15 := xC 14 xS (xE 0)
def c79_16 := xQ c79_14 c79_15
def c79_17 := xG [xm 17 4,
 xo 18 (.bin .gtr (xt 17) (xi 0))] [0,3,4,18]
def c79_18 := xG [xm 19 3,
 xo 20 (.bin .add (xt 19) (.const (.string ⟨#[59]⟩))),
 xm 3 20] [0,3,4]
def c79_19 := xC 18 c79_18 xS
def c79_20 := xQ c79_17 c79_19
def c79_21 := xG [xm 21 3,
 xm 22 0,
 xm 23 4,
 ⟨(some 24), .ia (xt 22) (xt 23) 7, none, [0]⟩,
 ⟨(some 25), .fa (xt 24) 0, none, [0]⟩,
 ⟨(some 26), .ld (xt 25) 1 false, none, [0]⟩,
 ⟨(some 27), .call 38 [xt 26], none, [0]⟩,
 xo 28 (.bin .add (xt 21) (xt 27)),
 xo 29 (.bin .add (xt 28) (.const (.string ⟨#[58]⟩))),
 xm 30 0,
 xm 31 4,
 ⟨(some 32), .ia (xt 30) (xt 31) 7, none, [0, 1, 2, 3, 4, 5, 6, 7, 8]⟩,
 ⟨(some 33), .fa (xt 32) 1, none, [0, 1, 2, 3, 4, 5, 6, 7, 8]⟩,
 ⟨(some 34), .ld (xt 33) 6 true, none, [0, 1, 2, 3, 4, 5, 6, 7, 8]⟩,
 ⟨(some 35), .call 98 [xt 34], none, [0, 7, 8]⟩,
 xo 36 (.bin .add (xt 29) (xt 35)),
 xm 3 36] [0,3,4]
def c79_22 := xQ c79_20 c79_21
def c79_23 := xB 1 c79_22
def c79_24 := xG [xm 15 4,
 xo 16 (.bin .add (xt 15) (xi 1)),
 xm 4 16] [0,3,4]
def c79_25 := xQ c79_23 c79_24
def c79_26 := xQ c79_16 c79_25
def c79_27 := xL c79_26
def c79_28 := xB 0 c79_27
def c79_29 := xQ c79_13 c79_28
def c79_30 := xG [xm 37 3,
 xm 2 37] [2]
def c79_31 := xQ c79_30 xR
def c79_32 := xQ c79_29 c79_31
def c79_33 := xQ c79_12 c79_32
def c79_34 := xQ c79_11 c79_33
def c79_35 := xQ c79_6 c79_34
def c79_36 := xQ c79_1 c79_35
abbrev n_spec_FormatLog : Nat := 79
theorem k_spec_FormatLog : Known Pr mu n_spec_FormatLog (c79_36 ()) [.t 2] Go.Proofs.Tryz.f79.ntmps := .of [(0, [0], [], [], []), (1, [0,7], [], [], []), (2, [2], [], [], []), (3, [0,10], [], [], []), (4, [2], [], [], []), (5, [0,3], [], [], []), (6, [0,3,4], [], [], []), (7, [0,3,4,14], [], [], []), (9, [0,3,4,18], [], [], []), (10, [0,3,4], [], [], []), (11, [0,3,4], [[],[],[],[0],[0],[0],[0],[],[],[],[],[0,1,2,3,4,5,6,7,8],[0,1,2,3,4,5,6,7,8],[0,1,2,3,4,5,6,7,8],[0,7,8]], [], []), (8, [0,3,4], [], [], []), (12, [2], [], [], [])] hm Go.Proofs.Tryz.func79
def c80_1 := xG [xo 2 (.alloc [.slice none 0 0, .slice none 0 0])] [0,2]
def c80_2 := xG [xo 5 (.call 54 []),
 xo 3 (.alloc [.slice none 0 0, .slice none 0 0]),
 xn (.sto (xt 3) (xt 5) 2)] [0,2,3]
def c80_3 := xG [xm 6 0,
 xo 7 (.callp 20 [xt 6, xi 6]),
 xm 4 7] [0,2,3,4]
def c80_4 := xG [xm 8 4,
 xo 9 (.bin .gtr (xt 8) (xi 0))] [0,2,3,4,9]
def c80_5 := xC 9 xS (xE 0)
def c80_6 := xQ c80_4 c80_5
def o80_5_0 : MOper := ⟨(some 13), .ld (xt 3) 2 true, none, []⟩
def o80_5_1 : MOper := xm 14 0
def o80_5_2 : MOper := ⟨(some 15), .callp 47 [xt 14], none, []⟩
def o80_5_3 : MOper := ⟨(some 16), .call 55 [xt 13, xt 15], none, []⟩
def o80_5_4 : MOper := xm 12 16
def o80_5_5 : MOper := xo 17 (.ext (xt 12) 0)
def o80_5_6 : MOper := xo 18 (.ext (xt 12) 1)
def o80_5_7 : MOper := xo 19 (.ext (xt 12) 2)
def o80_5_8 : MOper := ⟨none, .sto (xt 3) (xt 17) 2, none, []⟩
def c80_7 := xA 9 (xs 0 o80_5_1 (xu (xs 1 o80_5_2 (xs 2 o80_5_0 (xs 3 o80_5_3 (xs 4 o80_5_4 (xs 5 o80_5_7 (xs 6 o80_5_6 (xs 7 o80_5_5 (xs 8 o80_5_8 xf)))))))) (xs 1 o80_5_0 (xs 2 o80_5_2 (xs 3 o80_5_3 (xs 4 o80_5_4 (xs 5 o80_5_7 (xs 6 o80_5_6 (xs 7 o80_5_5 (xs 8 o80_5_8 xf)))))))))) [0,2,3,4]
def c80_8 := xB 1 c80_7
def c80_9 := xG [xm 10 4,
 xo 11 (.bin .sub (xt 10) (xi 1)),
 xm 4 11] [0,2,3,4]
def c80_10 := xQ c80_8 c80_9
def c80_11 := xQ c80_6 c80_10
def c80_12 := xL c80_11
def c80_13 := xB 0 c80_12
def c80_14 := xQ c80_3 c80_13
def c80_15 := xG [xo 20 (.ld (xt 3) 2 true),
 xn (.sto (xt 2) (xt 20) 2)] [2]
def c80_16 := xQ c80_15 xR
def c80_17 := xQ c80_14 c80_16
def c80_18 := xQ c80_2 c80_17
def c80_19 := xQ c80_1 c80_18
abbrev n_spec_l4Machine : Nat := 80
theorem k_spec_l4Machine : Known Pr mu n_spec_l4Machine (c80_19 ()) [.c 2 2 true] Go.Proofs.Tryz.f80.ntmps := .of [(0, [0,2], [], [], []), (1, [0,2,3], [], [], []), (2, [0,2,3,4], [], [], []), (3, [0,2,3,4,9], [], [], []), (5, [0,2,3,4], [], [9999], [1,4,5,6,7]), (4, [0,2,3,4], [], [], []), (6, [2], [], [], [])] hm Go.Proofs.Tryz.func80
def c81_1 := xG [xo 4 (.mv (xi 0))] [0,1]
def c81_2 := xG [xm 6 0,
 xo 7 (.len false (xt 6)),
 xo 8 (.mv (xi 0))] [0,1,7,8]
def c81_3 := xG [xo 9 (.bin .lss (xt 8) (xt 7))] [0,1,7,8,9]
def c81_4 := xC 9 xS (xE 0)
def c81_5 := xG [xm 10 8,
 xm 5 10] [0,1,5,7,8]
def c81_6 := xG [xm 11 1,
 xm 12 0,
 xm 13 5,
 xo 14 (.ia (xt 12) (xt 13) 1),
 xo 15 (.ld (xt 14) 1 false),
 xo 16 (.callv (xt 11) [xt 15])] [0,1,5,7,8,16]
def c81_7 := xG [xm 17 5,
 xm 4 17] [4]
def c81_8 := xQ c81_7 xR
def c81_9 := xC 16 c81_8 xS
def c81_10 := xQ c81_6 c81_9
def c81_11 := xQ c81_5 c81_10
def c81_12 := xB 1 c81_11
def c81_13 := xG [xo 18 (.bin .add (xt 8) (xi 1)),
 xm 8 18] [0,1,7,8]
def c81_14 := xQ c81_12 c81_13
def c81_15 := xQ c81_4 c81_14
def c81_16 := xQ c81_3 c81_15
def c81_17 := xL c81_16
def c81_18 := xB 0 c81_17
def c81_19 := xQ c81_2 c81_18
def c81_20 := xG [xo 4 (.mv (xi (-1)))] [4]
def c81_21 := xQ c81_20 xR
def c81_22 := xQ c81_19 c81_21
def c81_23 := xQ c81_1 c81_22
abbrev n_slices_IndexFunc_intint : Nat := 81
theorem k_slices_IndexFunc_intint : Known Pr mu n_slices_IndexFunc_intint (c81_23 ()) [.t 4] Go.Proofs.Tryz.f81.ntmps := .of [(0, [0,1], [], [], []), (1, [0,1,7,8], [], [], []), (2, [0,1,7,8,9], [], [], []), (3, [0,1,5,7,8], [], [], []), (4, [0,1,5,7,8,16], [], [], []), (5, [4], [], [], []), (6, [0,1,7,8], [], [], []), (7, [4], [], [], [])] hm Go.Proofs.Tryz.func81
def c91_1 := xG [xo 4 (.mv (xi 0))] [0,1]
def c91_2 := xG [xm 6 0,
 xo 7 (.len true (xt 6)),
 xo 8 (.bin .sub (xt 7) (xi 1)),
 xm 5 8] [0,1,5]
def c91_3 := xG [xm 9 5,
 xo 10 (.bin .geq (xt 9) (xi 0))] [0,1,5,10]
def c91_4 := xC 10 xS (xE 0)
def c91_5 := xQ c91_3 c91_4
def c91_6 := xG [xm 13 0,
 xm 14 5,
 xo 15 (.sidx (xt 13) (xt 14)),
 xm 16 1,
 xo 17 (.bin .eql (xt 15) (xt 16))] [0,1,5,17]
def c91_7 := xG [xm 18 5,
 xm 4 18] [4]
def c91_8 := xQ c91_7 xR
def c91_9 := xC 17 c91_8 xS
def c91_10 := xQ c91_6 c91_9
def c91_11 := xB 1 c91_10
def c91_12 := xG [xm 11 5,
 xo 12 (.bin .sub (xt 11) (xi 1)),
 xm 5 12] [0,1,5]
def c91_13 := xQ c91_11 c91_12
def c91_14 := xQ c91_5 c91_13
def c91_15 := xL c91_14
def c91_16 := xB 0 c91_15
def c91_17 := xQ c91_2 c91_16
def c91_18 := xG [xo 4 (.mv (xi (-1)))] [4]
def c91_19 := xQ c91_18 xR
def c91_20 := xQ c91_17 c91_19
def c91_21 := xQ c91_1 c91_20
abbrev n_internal_bytealg_LastIndexByteString : Nat := 91
theorem k_internal_bytealg_LastIndexByteString : Known Pr mu n_internal_bytealg_LastIndexByteString (c91_21 ()) [.t 4] Go.Proofs.Tryz.f91.ntmps := .of [(0, [0,1], [], [], []), (1, [0,1,5], [], [], []), (2, [0,1,5,10], [], [], []), (4, [0,1,5,17], [], [], []), (5, [4], [], [], []), (3, [0,1,5], [], [], []), (6, [4], [], [], [])] hm Go.Proofs.Tryz.func91
def c92_1 := xG [xo 2 (.mv (.const (.slice none 0 0)))] [0]
def c92_2 := xG [xm 3 0,
 xo 4 (.nbin .eql (xt 3) (.const (.slice none 0 0)))] [0,4]
def c92_3 := xG [xo 2 (.mv (.const (.slice none 0 0)))] [2]
def c92_4 := xQ c92_3 xR
def c92_5 := xC 4 c92_4 xS
def c92_6 := xQ c92_2 c92_5
def c92_7 := xG [xo 5 (.bsl 1 0 [.int .i64 0] []),
 xm 6 0,
 xo 7 (.app (xt 5) (xt 6) 1 8),
 xm 2 7] [2]
def c92_8 := xQ c92_7 xR
def c92_9 := xQ c92_6 c92_8
def c92_10 := xQ c92_1 c92_9
abbrev n_slices_Clone_intint : Nat := 92
theorem k_slices_Clone_intint : Known Pr mu n_slices_Clone_intint (c92_10 ()) [.t 2] Go.Proofs.Tryz.f92.ntmps := .of [(0, [0], [], [], []), (1, [0,4], [], [], []), (2, [2], [], [], []), (3, [2], [], [], [])] hm Go.Proofs.Tryz.func92
def c93_1 := xG [xo 2 (.mv (.const (.slice none 0 0)))] [0]
def c93_2 := xG [xm 3 0,
 xo 4 (.nbin .eql (xt 3) (.const (.slice none 0 0)))] [0,4]
def c93_3 := xG [xo 2 (.mv (.const (.slice none 0 0)))] [2]
def c93_4 := xQ c93_3 xR
def c93_5 := xC 4 c93_4 xS
def c93_6 := xQ c93_2 c93_5
def c93_7 := xG [xo 5 (.bsl 4 0 [.int .i64 0, .int .i64 0, .bool false, .int .i64 0] []),
 xm 6 0,
 xo 7 (.app (xt 5) (xt 6) 4 32),
 xm 2 7] [2]
def c93_8 := xQ c93_7 xR
def c93_9 := xQ c93_6 c93_8
def c93_10 := xQ c93_1 c93_9
abbrev n_slices_Clone_implSessionimplSession : Nat := 93
theorem k_slices_Clone_implSessionimplSession : Known Pr mu n_slices_Clone_implSessionimplSession (c93_10 ()) [.t 2] Go.Proofs.Tryz.f93.ntmps := .of [(0, [0], [], [], []), (1, [0,4], [], [], []), (2, [2], [], [], []), (3, [2], [], [], [])] hm Go.Proofs.Tryz.func93
def c96_1 := xG [xo 1 (.box (xt 0)),
 xo 2 (.mv (.const (.string ⟨#[]⟩)))] [1]
def c96_2 := xG [xo 4 (.ld (xt 1) 6 true),
 xo 5 (.call 49 [xt 4]),
 xo 6 (.not (xt 5))] [1,6]
def c96_3 := xG [xo 2 (.mv (.const (.string ⟨#[]⟩)))] [2]
def c96_4 := xQ c96_3 xR
def c96_5 := xC 6 c96_4 xS
def c96_6 := xQ c96_2 c96_5
def c96_7 := xG [xo 7 (.fa (xt 1) 0),
 xo 8 (.ld (xt 7) 1 false),
 xo 9 (.call 32 [xt 8]),
 xo 10 (.bin .add (xt 9) (.const (.string ⟨#[46]⟩))),
 ⟨(some 11), .fa (xt 1) 1, none, [0, 1, 2, 3]⟩,
 ⟨(some 12), .ld (xt 11) 1 false, none, [0, 1, 2, 3]⟩,
 ⟨(some 13), .call 32 [xt 12], none, [3]⟩,
 xo 14 (.bin .add (xt 10) (xt 13)),
 xm 3 14] [1,3]
def c96_8 := xG [xo 15 (.fa (xt 1) 2),
 xo 16 (.ld (xt 15) 1 false),
 xo 17 (.bin .eql (xt 16) (xi 2))] [1,3,17]
def c96_9 := xG [xm 18 3,
 xo 19 (.bin .add (xt 18) (.const (.string ⟨#[32, 115, 119, 97, 112, 32]⟩))),
 ⟨(some 20), .fa (xt 1) 3, none, [0, 1]⟩,
 ⟨(some 21), .ld (xt 20) 1 false, none, [0, 1]⟩,
 ⟨(some 22), .call 32 [xt 21], none, [0, 1]⟩,
 xo 23 (.bin .add (xt 19) (xt 22)),
 xo 24 (.bin .add (xt 23) (.const (.string ⟨#[32]⟩))),
 ⟨(some 25), .fa (xt 1) 4, none, [0, 1, 2, 3, 4, 5, 6]⟩,
 ⟨(some 26), .ld (xt 25) 1 false, none, [0, 1, 2, 3, 4, 5, 6]⟩,
 ⟨(some 27), .call 32 [xt 26], none, [0, 1, 5, 6]⟩,
 xo 28 (.bin .add (xt 24) (xt 27)),
 xo 29 (.bin .add (xt 28) (.const (.string ⟨#[32]⟩))),
 ⟨(some 30), .fa (xt 1) 5, none, [0, 1, 2, 3, 4, 5, 6, 7, 8, 9, 10, 11]⟩,
 ⟨(some 31), .ld (xt 30) 1 false, none, [0, 1, 2, 3, 4, 5, 6, 7, 8, 9, 10, 11]⟩,
 ⟨(some 32), .call 32 [xt 31], none, [0, 1, 5, 6, 10, 11]⟩,
 xo 33 (.bin .add (xt 29) (xt 32)),
 xm 2 33] [2]
def c96_10 := xQ c96_9 xR
def c96_11 := xC 17 c96_10 xS
def c96_12 := xQ c96_8 c96_11
def c96_13 := xG [xm 34 3,
 xo 35 (.bin .add (xt 34) (.const (.string ⟨#[32, 119, 114, 105, 116, 101, 32]⟩))),
 ⟨(some 36), .fa (xt 1) 3, none, [0, 1]⟩,
 ⟨(some 37), .ld (xt 36) 1 false, none, [0, 1]⟩,
 ⟨(some 38), .call 32 [xt 37], none, [0, 1]⟩,
 xo 39 (.bin .add (xt 35) (xt 38)),
 xo 40 (.bin .add (xt 39) (.const (.string ⟨#[32]⟩))),
 ⟨(some 41), .fa (xt 1) 5, none, [0, 1, 2, 3, 4, 5, 6]⟩,
 ⟨(some 42), .ld (xt 41) 1 false, none, [0, 1, 2, 3, 4, 5, 6]⟩,
 ⟨(some 43), .call 32 [xt 42], none, [0, 1, 5, 6]⟩,
 xo 44 (.bin .add (xt 40) (xt 43)),
 xm 2 44] [2]
def c96_14 := xQ c96_13 xR
def c96_15 := xQ c96_12 c96_14
def c96_16 := xQ c96_7 c96_15
def c96_17 := xQ c96_6 c96_16
def c96_18 := xQ c96_1 c96_17
abbrev n_impl_FormatOp : Nat := 96
theorem k_impl_FormatOp : Known Pr mu n_impl_FormatOp (c96_18 ()) [.t 2] Go.Proofs.Tryz.f96.ntmps := .of [(0, [1], [], [], []), (1, [1,6], [], [], []), (2, [2], [], [], []), (3, [1,3], [[],[],[],[],[0,1,2,3],[0,1,2,3],[3]], [], []), (4, [1,3,17], [], [], []), (5, [2], [[],[],[0,1],[0,1],[0,1],[],[],[0,1,2,3,4,5,6],[0,1,2,3,4,5,6],[0,1,5,6],[],[],[0,1,2,3,4,5,6,7,8,9,10,11],[0,1,2,3,4,5,6,7,8,9,10,11],[0,1,5,6,10,11]], [], []), (6, [2], [[],[],[0,1],[0,1],[0,1],[],[],[0,1,2,3,4,5,6],[0,1,2,3,4,5,6],[0,1,5,6]], [], [])] hm Go.Proofs.Tryz.func96
def c98_1 := xG [xo 1 (.box (xt 0)),
 xo 2 (.mv (.const (.string ⟨#[]⟩)))] [1]
def c98_2 := xG [xo 4 (.ld (xt 1) 6 true),
 xo 5 (.call 53 [xt 4]),
 xo 6 (.not (xt 5))] [1,6]
def c98_3 := xG [xo 2 (.mv (.const (.string ⟨#[]⟩)))] [2]
def c98_4 := xQ c98_3 xR
def c98_5 := xC 6 c98_4 xS
def c98_6 := xQ c98_2 c98_5
def c98_7 := xG [xo 7 (.fa (xt 1) 0),
 xo 8 (.ld (xt 7) 1 false),
 xo 9 (.call 38 [xt 8]),
 xo 10 (.bin .add (xt 9) (.const (.string ⟨#[46]⟩))),
 ⟨(some 11), .fa (xt 1) 1, none, [0, 1, 2, 3]⟩,
 ⟨(some 12), .ld (xt 11) 1 false, none, [0, 1, 2, 3]⟩,
 ⟨(some 13), .call 38 [xt 12], none, [3]⟩,
 xo 14 (.bin .add (xt 10) (xt 13)),
 xo 15 (.bin .add (xt 14) (.const (.string ⟨#[32]⟩))),
 xm 3 15] [1,3]
def c98_8 := xG [xo 16 (.fa (xt 1) 2),
 xo 17 (.ld (xt 16) 1 false),
 xo 18 (.bin .eql (xt 17) (xi 1))] [1,3,18]
def c98_9 := xG [xm 19 3,
 xo 20 (.bin .add (xt 19) (.const (.string ⟨#[119, 114, 105, 116, 101, 32]⟩))),
 ⟨(some 21), .fa (xt 1) 3, none, [0, 1]⟩,
 ⟨(some 22), .ld (xt 21) 1 false, none, [0, 1]⟩,
 ⟨(some 23), .call 38 [xt 22], none, [0, 1]⟩,
 xo 24 (.bin .add (xt 20) (xt 23)),
 xo 25 (.bin .add (xt 24) (.const (.string ⟨#[32]⟩))),
 ⟨(some 26), .fa (xt 1) 5, none, [0, 1, 2, 3, 4, 5, 6]⟩,
 ⟨(some 27), .ld (xt 26) 1 false, none, [0, 1, 2, 3, 4, 5, 6]⟩,
 ⟨(some 28), .call 38 [xt 27], none, [0, 1, 5, 6]⟩,
 xo 29 (.bin .add (xt 25) (xt 28)),
 xm 2 29] [2]
def c98_10 := xQ c98_9 xR
def c98_11 := xC 18 c98_10 xS
def c98_12 := xQ c98_8 c98_11
def c98_13 := xG [xm 30 3,
 xo 31 (.bin .add (xt 30) (.const (.string ⟨#[115, 119, 97, 112, 32]⟩))),
 ⟨(some 32), .fa (xt 1) 3, none, [0, 1]⟩,
 ⟨(some 33), .ld (xt 32) 1 false, none, [0, 1]⟩,
 ⟨(some 34), .call 38 [xt 33], none, [0, 1]⟩,
 xo 35 (.bin .add (xt 31) (xt 34)),
 xo 36 (.bin .add (xt 35) (.const (.string ⟨#[32]⟩))),
 ⟨(some 37), .fa (xt 1) 4, none, [0, 1, 2, 3, 4, 5, 6]⟩,
 ⟨(some 38), .ld (xt 37) 1 false, none, [0, 1, 2, 3, 4, 5, 6]⟩,
 ⟨(some 39), .call 38 [xt 38], none, [0, 1, 5, 6]⟩,
 xo 40 (.bin .add (xt 36) (xt 39)),
 xo 41 (.bin .add (xt 40) (.const (.string ⟨#[32]⟩))),
 ⟨(some 42), .fa (xt 1) 5, none, [0, 1, 2, 3, 4, 5, 6, 7, 8, 9, 10, 11]⟩,
 ⟨(some 43), .ld (xt 42) 1 false, none, [0, 1, 2, 3, 4, 5, 6, 7, 8, 9, 10, 11]⟩,
 ⟨(some 44), .call 38 [xt 43], none, [0, 1, 5, 6, 10, 11]⟩,
 xo 45 (.bin .add (xt 41) (xt 44)),
 xm 2 45] [2]
def c98_14 := xQ c98_13 xR
def c98_15 := xQ c98_12 c98_14
def c98_16 := xQ c98_7 c98_15
def c98_17 := xQ c98_6 c98_16
def c98_18 := xQ c98_1 c98_17
abbrev n_spec_FormatOp : Nat := 98
theorem k_spec_FormatOp : Known Pr mu n_spec_FormatOp (c98_18 ()) [.t 2] Go.Proofs.Tryz.f98.ntmps := .of [(0, [1], [], [], []), (1, [1,6], [], [], []), (2, [2], [], [], []), (3, [1,3], [[],[],[],[],[0,1,2,3],[0,1,2,3],[3]], [], []), (4, [1,3,18], [], [], []), (5, [2], [[],[],[0,1],[0,1],[0,1],[],[],[0,1,2,3,4,5,6],[0,1,2,3,4,5,6],[0,1,5,6]], [], []), (6, [2], [[],[],[0,1],[0,1],[0,1],[],[],[0,1,2,3,4,5,6],[0,1,2,3,4,5,6],[0,1,5,6],[],[],[0,1,2,3,4,5,6,7,8,9,10,11],[0,1,2,3,4,5,6,7,8,9,10,11],[0,1,5,6,10,11]], [], [])] hm Go.Proofs.Tryz.func98
end Go.V.T
