/- The short code of the functions that FnOps reaches, held against the program. Conditions: none. -/
import Derived.Test.YtgjnigpoemkkaaaGreatDoorV6
import Derived.Test.YtgjnigpoemkkaaaGreatDoorProg
namespace Go.V.T
open Go Go.V
noncomputable abbrev Pr := Go.Proofs.Tryz.prog
def mu : Nat → Bool := fun n => Nat.beq n 109 || Nat.beq n 122 || Nat.beq n 123 || Nat.beq n 129 || Nat.beq n 133 || Nat.beq n 134 || Nat.beq n 135 || Nat.beq n 137 || Nat.beq n 138 || Nat.beq n 140 || Nat.beq n 141 || Nat.beq n 143 || Nat.beq n 1000005 || Nat.beq n 1000008 || Nat.beq n 1000011 || Nat.beq n 1000014 || Nat.beq n 1000028 || Nat.beq n 1000035 || Nat.beq n 1000038 || Nat.beq n 1000042 || Nat.beq n 1000055 || Nat.beq n 1000056 || Nat.beq n 1000057 || Nat.beq n 1000063 || Nat.beq n 1000067 || Nat.beq n 1000068 || Nat.beq n 1000072 || Nat.beq n 1000080 || Nat.beq n 1000081 || Nat.beq n 1000089 || Nat.beq n 2000029
def muc : Nat → Bool := fun n => Nat.beq n 3000000 || mu n
abbrev XC := Unit → MCode
def xt (n : Nat) : Operand := .tmp n
def xi (n : Int) : Operand := .const (.int .i64 n)
def xb (b : Bool) : Operand := .const (.bool b)
def xo (d : Nat) (m : MOp) : MOper := ⟨some d, m, none, []⟩
def xn (m : MOp) : MOper := ⟨none, m, none, []⟩
theorem hm : Pr.follows .mixedOrders = true := by kernel_rfl
def xR : XC := fun _ => .ret
def xS : XC := fun _ => .skip
def xE (n : Nat) : XC := fun _ => .exit n
def xQ (a b : XC) : XC := fun _ => .seq a b
def xC (n : Nat) (a b : XC) : XC := fun _ => .cond (.tmp n) a b
def xB (n : Nat) (a : XC) : XC := fun _ => .block n a
def xL (a : XC) : XC := fun _ => .loop a
def xG (o : List MOper) (l : List Nat) : XC := fun _ => .region [] o l
def xA (n : Nat) (o : Unit → Ord) (l : List Nat) : XC := fun _ => .regionA n o l
def xs (n : Nat) (o : MOper) (r : Unit → Ord) : Unit → Ord := fun _ => .step n o r
def xu (a b : Unit → Ord) : Unit → Ord := fun _ => .both a b
def xf : Unit → Ord := fun _ => .fin
def xm (d s : Nat) : MOper := ⟨some d, .mv (.tmp s), none, []⟩
def xT (d g : Nat) (m : MOp) : MOper := ⟨some d, m, some (g, true), []⟩
def xF (d g : Nat) (m : MOp) : MOper := ⟨some d, m, some (g, false), []⟩
def c3_1 := xG [xo 2 (.mv (xb false))] [0,9998]
def c3_2 := xG [xm 19 0,
 xo 20 (.call 4 [xt 19])] [0,20,9998]
def c3_3 := xG [xo 2 (.mv (xb true))] [2,9998]
def c3_4 := xQ c3_3 xR
def c3_5 := xC 20 c3_4 xS
def c3_6 := xQ c3_2 c3_5
def c3_7 := xG [xm 21 0,
 xo 22 (.callp 5 [xt 21]),
 xo 3 (.alloc [.int .i64 0, .int .i64 0, .int .i64 0, .int .i64 0, .int .i64 0, .int .i64 0]),
 xn (.sto (xt 3) (xt 22) 6)] [0,3,9998]
def c3_8 := xG [xo 23 (.ld (xt 3) 6 true),
 xo 24 (.call 6 [xt 23]),
 xm 4 24] [0,3,4,9998]
def c3_9 := xG [xm 26 4,
 xo 27 (.call 7 [xt 26]),
 xm 25 27,
 xo 28 (.ext (xt 25) 0),
 xo 29 (.ext (xt 25) 1),
 xo 5 (.alloc [.int .i64 0, .int .i64 0, .int .i64 0, .int .i64 0, .int .i64 0, .int .i64 0]),
 xn (.sto (xt 5) (xt 28) 6),
 xm 6 29] [0,3,4,5,6,9998]
def c3_10 := xG [xm 30 0,
 xo 31 (.callp 8 [xt 30]),
 xm 7 31] [0,3,4,5,6,7,9998]
def c3_11 := xG [xm 32 7,
 xo 33 (.call 9 [xt 32]),
 xm 8 33] [0,3,4,5,6,7,8,9998]
def c3_12 := xG [xm 35 8,
 xo 36 (.call 10 [xt 35]),
 xm 34 36,
 xo 37 (.ext (xt 34) 0),
 xo 38 (.ext (xt 34) 1),
 xm 9 37,
 xm 10 38] [0,3,4,5,6,7,8,9,10,9998]
def c3_13 := xG [xm 39 0,
 xo 40 (.callp 11 [xt 39]),
 xo 11 (.alloc [.int .i64 0, .int .i64 0, .slice none 0 0, .slice none 0 0]),
 xn (.sto (xt 11) (xt 40) 4)] [0,3,4,5,6,7,8,9,10,11,9998]
def c3_14 := xG [xo 41 (.ld (xt 11) 4 true),
 xo 42 (.call 12 [xt 41]),
 xm 12 42] [0,3,4,5,6,7,8,9,10,11,12,9998]
def c3_15 := xG [xm 44 12,
 xo 45 (.call 13 [xt 44]),
 xm 43 45,
 xo 46 (.ext (xt 43) 0),
 xo 47 (.ext (xt 43) 1),
 xo 13 (.alloc [.int .i64 0, .int .i64 0, .slice none 0 0, .slice none 0 0]),
 xn (.sto (xt 13) (xt 46) 4),
 xm 14 47] [0,3,4,5,6,7,8,9,10,11,12,13,14,9998]
def c3_16 := xG [xm 48 0,
 xo 49 (.callp 14 [xt 48]),
 xo 15 (.alloc [.slice none 0 0, .slice none 0 0]),
 xn (.sto (xt 15) (xt 49) 2)] [3,4,5,6,7,8,9,10,11,12,13,14,15,9998]
def c3_17 := xG [xo 50 (.ld (xt 15) 2 true),
 xo 51 (.call 15 [xt 50]),
 xm 16 51] [3,4,5,6,7,8,9,10,11,12,13,14,15,16,9998]
def c3_18 := xG [xm 53 16,
 xo 54 (.call 16 [xt 53]),
 xm 52 54,
 xo 55 (.ext (xt 52) 0),
 xo 56 (.ext (xt 52) 1),
 xo 17 (.alloc [.slice none 0 0, .slice none 0 0]),
 xn (.sto (xt 17) (xt 55) 2),
 xm 18 56] [3,4,5,6,7,8,9,10,11,12,13,14,15,16,17,18,9998]
def c3_19 := xG [xm 57 6,
 xo 58 (.ld (xt 3) 6 true),
 xo 59 (.call 17 [xt 58]),
 xo 60 (.bbin .neq (xt 57) (xt 59)),
 xm 61 60,
 xF 62 61 (.mv (xt 10)),
 xF 63 61 (.mv (xt 7)),
 xF 64 61 (.call 18 [xt 63]),
 xF 65 61 (.bbin .neq (xt 62) (xt 64)),
 xo 66 (.pick (xt 61) (xb true) (xt 65)),
 xm 67 66,
 xF 68 67 (.mv (xt 14)),
 xF 69 67 (.ld (xt 11) 4 true),
 xF 70 67 (.call 19 [xt 69]),
 xF 71 67 (.bbin .neq (xt 68) (xt 70)),
 xo 72 (.pick (xt 67) (xb true) (xt 71)),
 xm 73 72,
 xF 74 73 (.mv (xt 18)),
 xF 75 73 (.ld (xt 15) 2 true),
 xF 76 73 (.call 20 [xt 75]),
 xF 77 73 (.bbin .neq (xt 74) (xt 76)),
 xo 78 (.pick (xt 73) (xb true) (xt 77))] [3,4,5,6,7,8,9,10,11,12,13,14,15,16,17,18,78,9998]
def c3_20 := xG [xo 2 (.mv (xb false))] [2,9998]
def c3_21 := xQ c3_20 xR
def c3_22 := xC 78 c3_21 xS
def c3_23 := xQ c3_19 c3_22
def c3_24 := xG [xm 79 4,
 xo 80 (.ld (xt 3) 6 true),
 xo 81 (.call 21 [xt 80]),
 xo 82 (.bin .eql (xt 79) (xt 81)),
 xm 83 82,
 xT 84 83 (.mv (xt 8)),
 xT 85 83 (.mv (xt 7)),
 xT 86 83 (.call 22 [xt 85]),
 xT 87 83 (.bin .eql (xt 84) (xt 86)),
 xo 88 (.pick (xt 83) (xt 87) (xb false)),
 xm 89 88,
 xT 90 89 (.mv (xt 12)),
 xT 91 89 (.ld (xt 11) 4 true),
 xT 92 89 (.call 23 [xt 91]),
 xT 93 89 (.bin .eql (xt 90) (xt 92)),
 xo 94 (.pick (xt 89) (xt 93) (xb false)),
 xm 95 94,
 xT 96 95 (.mv (xt 16)),
 xT 97 95 (.ld (xt 15) 2 true),
 xT 98 95 (.call 24 [xt 97]),
 xT 99 95 (.bin .eql (xt 96) (xt 98)),
 xo 100 (.pick (xt 95) (xt 99) (xb false)),
 xm 101 100,
 xT 102 101 (.mv (xt 6)),
 xT 103 101 (.not (xt 102)),
 xT 104 101 (.mv (xt 103)),
 xF 105 104 (.ld (xt 5) 6 true),
 xF 106 104 (.ld (xt 3) 6 true),
 xF 107 104 (.aeq false [.i, .i, .i, .i, .i, .i] (xt 105) (xt 106)),
 xT 108 101 (.pick (xt 104) (xb true) (xt 107)),
 xo 109 (.pick (xt 101) (xt 108) (xb false)),
 xm 110 109,
 xT 111 110 (.mv (xt 10)),
 xT 112 110 (.not (xt 111)),
 xT 113 110 (.mv (xt 112)),
 xF 114 113 (.mv (xt 9)),
 xF 115 113 (.len false (xt 114)),
 xF 116 113 (.mv (xt 7)),
 xF 117 113 (.len false (xt 116)),
 xF 118 113 (.bin .eql (xt 115) (xt 117)),
 xF 119 113 (.mv (xt 118)),
 xT 120 119 (.mv (xt 9)),
 xT 121 119 (.mv (xt 7)),
 xT 122 119 (.call 25 [xt 120, xt 121]),
 xF 123 113 (.pick (xt 119) (xt 122) (xb false)),
 xT 124 110 (.pick (xt 113) (xb true) (xt 123)),
 xo 125 (.pick (xt 110) (xt 124) (xb false)),
 xm 126 125,
 xT 127 126 (.mv (xt 14)),
 xT 128 126 (.not (xt 127)),
 xT 129 126 (.mv (xt 128)),
 xF 130 129 (.ld (xt 13) 4 true),
 xF 131 129 (.ld (xt 11) 4 true),
 xF 132 129 (.call 26 [xt 130, xt 131]),
 xT 133 126 (.pick (xt 129) (xb true) (xt 132)),
 xo 134 (.pick (xt 126) (xt 133) (xb false)),
 xm 135 134,
 xT 136 135 (.mv (xt 18)),
 xT 137 135 (.not (xt 136)),
 xT 138 135 (.mv (xt 137)),
 xF 139 138 (.ld (xt 17) 2 true),
 xF 140 138 (.ld (xt 15) 2 true),
 xF 141 138 (.call 27 [xt 139, xt 140]),
 xT 142 135 (.pick (xt 138) (xb true) (xt 141)),
 xo 143 (.pick (xt 135) (xt 142) (xb false)),
 xm 2 143] [2,9998]
def c3_25 := xQ c3_24 xR
def c3_26 := xQ c3_23 c3_25
def c3_27 := xQ c3_18 c3_26
def c3_28 := xQ c3_17 c3_27
def c3_29 := xQ c3_16 c3_28
def c3_30 := xQ c3_15 c3_29
def c3_31 := xQ c3_14 c3_30
def c3_32 := xQ c3_13 c3_31
def c3_33 := xQ c3_12 c3_32
def c3_34 := xQ c3_11 c3_33
def c3_35 := xQ c3_10 c3_34
def c3_36 := xQ c3_9 c3_35
def c3_37 := xQ c3_8 c3_36
def c3_38 := xQ c3_7 c3_37
def c3_39 := xQ c3_6 c3_38
def c3_40 := xQ c3_1 c3_39
abbrev n_laws_FnOps : Nat := 3
theorem k_laws_FnOps : Known Pr mu n_laws_FnOps (c3_40 ()) [.t 2] Go.Proofs.Tryz.f3.ntmps := .of [(0, [0,9998], [], [], []), (1, [0,20,9998], [], [], []), (2, [2,9998], [], [], []), (3, [0,3,9998], [], [], []), (4, [0,3,4,9998], [], [], []), (5, [0,3,4,5,6,9998], [], [], []), (6, [0,3,4,5,6,7,9998], [], [], []), (7, [0,3,4,5,6,7,8,9998], [], [], []), (8, [0,3,4,5,6,7,8,9,10,9998], [], [], []), (9, [0,3,4,5,6,7,8,9,10,11,9998], [], [], []), (10, [0,3,4,5,6,7,8,9,10,11,12,9998], [], [], []), (11, [0,3,4,5,6,7,8,9,10,11,12,13,14,9998], [], [], []), (12, [3,4,5,6,7,8,9,10,11,12,13,14,15,9998], [], [], []), (13, [3,4,5,6,7,8,9,10,11,12,13,14,15,16,9998], [], [], []), (14, [3,4,5,6,7,8,9,10,11,12,13,14,15,16,17,18,9998], [], [], []), (15, [3,4,5,6,7,8,9,10,11,12,13,14,15,16,17,18,78,9998], [], [], []), (16, [2,9998], [], [], []), (17, [2,9998], [], [], [])] hm Go.Proofs.Tryz.func3
def c4_1 := xG [xo 2 (.mv (xb false))] [0]
def c4_2 := xG [xm 3 0,
 xo 4 (.len false (xt 3)),
 xo 5 (.bin .gtr (xt 4) (xi 1048576)),
 xm 2 5] [2]
def c4_3 := xQ c4_2 xR
def c4_4 := xQ c4_1 c4_3
abbrev n_laws_big : Nat := 4
theorem k_laws_big : Known Pr mu n_laws_big (c4_4 ()) [.t 2] Go.Proofs.Tryz.f4.ntmps := .of [(0, [0], [], [], []), (1, [2], [], [], [])] hm Go.Proofs.Tryz.func4
def c5_1 := xG [xo 2 (.alloc [.int .i64 0, .int .i64 0, .int .i64 0, .int .i64 0, .int .i64 0, .int .i64 0])] [0,2]
def c5_2 := xG [xm 3 0,
 xo 4 (.calln 29 [xt 3]),
 xo 5 (.callp 28 [xt 4]),
 xn (.stoc (xt 2) (xt 5) 6)] [2]
def c5_3 := xQ c5_2 xR
def c5_4 := xQ c5_1 c5_3
abbrev n_spec_DrawFormatOp : Nat := 5
theorem k_spec_DrawFormatOp : Known Pr muc n_spec_DrawFormatOp (c5_4 ()) [.c 2 6 true] Go.Proofs.Tryz.f5.ntmps := .of [(0, [0,2], [], [], []), (1, [2], [], [], [])] hm Go.Proofs.Tryz.func5
def c6_1 := xG [xo 1 (.box (xt 0)),
 xo 2 (.mv (.const (.string ⟨#[]⟩)))] [1]
def c6_2 := xG [xo 4 (.ld (xt 1) 6 true),
 xo 5 (.call 30 [xt 4]),
 xo 6 (.not (xt 5))] [1,6]
def c6_3 := xG [xo 2 (.mv (.const (.string ⟨#[]⟩)))] [2]
def c6_4 := xQ c6_3 xR
def c6_5 := xC 6 c6_4 xS
def c6_6 := xQ c6_2 c6_5
def c6_7 := xG [xo 7 (.fa (xt 1) 0),
 xo 8 (.ld (xt 7) 1 false),
 xo 9 (.call 31 [xt 8]),
 xo 10 (.bin .add (xt 9) (.const (.string ⟨#[46]⟩))),
 ⟨(some 11), .fa (xt 1) 1, none, [0, 1, 2, 3]⟩,
 ⟨(some 12), .ld (xt 11) 1 false, none, [0, 1, 2, 3]⟩,
 ⟨(some 13), .call 31 [xt 12], none, [3]⟩,
 xo 14 (.bin .add (xt 10) (xt 13)),
 xm 3 14] [1,3]
def c6_8 := xG [xo 15 (.fa (xt 1) 2),
 xo 16 (.ld (xt 15) 1 false),
 xo 17 (.bin .eql (xt 16) (xi 2))] [1,3,17]
def c6_9 := xG [xm 18 3,
 xo 19 (.bin .add (xt 18) (.const (.string ⟨#[32, 115, 119, 97, 112, 32]⟩))),
 ⟨(some 20), .fa (xt 1) 3, none, [0, 1]⟩,
 ⟨(some 21), .ld (xt 20) 1 false, none, [0, 1]⟩,
 ⟨(some 22), .call 31 [xt 21], none, [0, 1]⟩,
 xo 23 (.bin .add (xt 19) (xt 22)),
 xo 24 (.bin .add (xt 23) (.const (.string ⟨#[32]⟩))),
 ⟨(some 25), .fa (xt 1) 4, none, [0, 1, 2, 3, 4, 5, 6]⟩,
 ⟨(some 26), .ld (xt 25) 1 false, none, [0, 1, 2, 3, 4, 5, 6]⟩,
 ⟨(some 27), .call 31 [xt 26], none, [0, 1, 5, 6]⟩,
 xo 28 (.bin .add (xt 24) (xt 27)),
 xo 29 (.bin .add (xt 28) (.const (.string ⟨#[32]⟩))),
 ⟨(some 30), .fa (xt 1) 5, none, [0, 1, 2, 3, 4, 5, 6, 7, 8, 9, 10, 11]⟩,
 ⟨(some 31), .ld (xt 30) 1 false, none, [0, 1, 2, 3, 4, 5, 6, 7, 8, 9, 10, 11]⟩,
 ⟨(some 32), .call 31 [xt 31], none, [0, 1, 5, 6, 10, 11]⟩,
 xo 33 (.bin .add (xt 29) (xt 32)),
 xm 2 33] [2]
def c6_10 := xQ c6_9 xR
def c6_11 := xC 17 c6_10 xS
def c6_12 := xQ c6_8 c6_11
def c6_13 := xG [xm 34 3,
 xo 35 (.bin .add (xt 34) (.const (.string ⟨#[32, 119, 114, 105, 116, 101, 32]⟩))),
 ⟨(some 36), .fa (xt 1) 3, none, [0, 1]⟩,
 ⟨(some 37), .ld (xt 36) 1 false, none, [0, 1]⟩,
 ⟨(some 38), .call 31 [xt 37], none, [0, 1]⟩,
 xo 39 (.bin .add (xt 35) (xt 38)),
 xo 40 (.bin .add (xt 39) (.const (.string ⟨#[32]⟩))),
 ⟨(some 41), .fa (xt 1) 5, none, [0, 1, 2, 3, 4, 5, 6]⟩,
 ⟨(some 42), .ld (xt 41) 1 false, none, [0, 1, 2, 3, 4, 5, 6]⟩,
 ⟨(some 43), .call 31 [xt 42], none, [0, 1, 5, 6]⟩,
 xo 44 (.bin .add (xt 40) (xt 43)),
 xm 2 44] [2]
def c6_14 := xQ c6_13 xR
def c6_15 := xQ c6_12 c6_14
def c6_16 := xQ c6_7 c6_15
def c6_17 := xQ c6_6 c6_16
def c6_18 := xQ c6_1 c6_17
abbrev n_impl_FormatOp : Nat := 6
theorem k_impl_FormatOp : Known Pr mu n_impl_FormatOp (c6_18 ()) [.t 2] Go.Proofs.Tryz.f6.ntmps := .of [(0, [1], [], [], []), (1, [1,6], [], [], []), (2, [2], [], [], []), (3, [1,3], [[],[],[],[],[0,1,2,3],[0,1,2,3],[3]], [], []), (4, [1,3,17], [], [], []), (5, [2], [[],[],[0,1],[0,1],[0,1],[],[],[0,1,2,3,4,5,6],[0,1,2,3,4,5,6],[0,1,5,6],[],[],[0,1,2,3,4,5,6,7,8,9,10,11],[0,1,2,3,4,5,6,7,8,9,10,11],[0,1,5,6,10,11]], [], []), (6, [2], [[],[],[0,1],[0,1],[0,1],[],[],[0,1,2,3,4,5,6],[0,1,2,3,4,5,6],[0,1,5,6]], [], [])] hm Go.Proofs.Tryz.func6
def c7_1 := xG [xo 2 (.alloc [.int .i64 0, .int .i64 0, .int .i64 0, .int .i64 0, .int .i64 0, .int .i64 0]),
 xo 3 (.mv (xb false))] [0,2]
def c7_2 := xG [xm 9 0,
 xo 10 (.call 32 [xt 9, (.const (.string ⟨#[32]⟩))]),
 xm 4 10] [0,2,4]
def c7_3 := xG [xm 11 4,
 xo 12 (.len false (xt 11)),
 xo 13 (.bin .lss (xt 12) (xi 4))] [0,2,4,13]
def c7_4 := xG [xo 14 (.bld [.int .i64 0, .int .i64 0, .int .i64 0, .int .i64 0, .int .i64 0, .int .i64 0] []),
 xn (.sto (xt 2) (xt 14) 6),
 xo 3 (.mv (xb false))] [2,3]
def c7_5 := xQ c7_4 xR
def c7_6 := xC 13 c7_5 xS
def c7_7 := xQ c7_3 c7_6
def c7_8 := xG [xm 16 4,
 xo 17 (.ia (xt 16) (xi 0) 1),
 xo 18 (.ld (xt 17) 1 false),
 xo 19 (.call 33 [xt 18, (.const (.string ⟨#[46]⟩))]),
 xm 15 19,
 xo 20 (.ext (xt 15) 0),
 xo 21 (.ext (xt 15) 1),
 xo 22 (.ext (xt 15) 2),
 xm 5 20,
 xm 6 21,
 xm 7 22] [0,2,4,5,6]
def c7_9 := xG [xm 23 5,
 xo 24 (.call 34 [xt 23]),
 xm 25 6,
 xo 26 (.call 34 [xt 25]),
 xm 27 4,
 ⟨(some 28), .ia (xt 27) (xi 2) 1, none, [0, 1, 2, 3]⟩,
 ⟨(some 29), .ld (xt 28) 1 false, none, [0, 1, 2, 3]⟩,
 xo 30 (.call 34 [xt 29]),
 xm 31 4,
 xm 32 4,
 xo 33 (.len false (xt 32)),
 xo 34 (.bin .sub (xt 33) (xi 1)),
 ⟨(some 35), .ia (xt 31) (xt 34) 1, none, [0, 1, 2, 3, 4, 5, 6, 7]⟩,
 ⟨(some 36), .ld (xt 35) 1 false, none, [0, 1, 2, 3, 4, 5, 6, 7]⟩,
 xo 37 (.call 34 [xt 36]),
 xo 38 (.bld [.int .i64 0, .int .i64 0, .int .i64 0, .int .i64 0, .int .i64 0, .int .i64 0] [(0, 1, (xt 24)), (1, 1, (xt 26)), (2, 1, (xi 1)), (3, 1, (xt 30)), (5, 1, (xt 37))]),
 xo 8 (.alloc [.int .i64 0, .int .i64 0, .int .i64 0, .int .i64 0, .int .i64 0, .int .i64 0]),
 xn (.sto (xt 8) (xt 38) 6)] [0,2,4,8]
def c7_10 := xG [xm 39 4,
 xo 40 (.len false (xt 39)),
 xo 41 (.bin .eql (xt 40) (xi 5))] [0,2,4,8,41]
def c7_11 := xG [xm 42 4,
 xo 43 (.ia (xt 42) (xi 3) 1),
 xo 44 (.ld (xt 43) 1 false),
 xo 45 (.call 34 [xt 44]),
 xo 46 (.fa (xt 8) 2),
 xn (.sto (xt 46) (xi 2) 1),
 xo 47 (.fa (xt 8) 4),
 xn (.sto (xt 47) (xt 45) 1)] [0,2,8]
def c7_12 := xC 41 c7_11 xS
def c7_13 := xQ c7_10 c7_12
def c7_14 := xG [xo 48 (.ld (xt 8) 6 true),
 xo 49 (.call 6 [xt 48]),
 xm 50 0,
 xo 51 (.bin .neq (xt 49) (xt 50))] [2,8,51]
def c7_15 := xG [xo 52 (.bld [.int .i64 0, .int .i64 0, .int .i64 0, .int .i64 0, .int .i64 0, .int .i64 0] []),
 xn (.sto (xt 2) (xt 52) 6),
 xo 3 (.mv (xb false))] [2,3]
def c7_16 := xQ c7_15 xR
def c7_17 := xC 51 c7_16 xS
def c7_18 := xQ c7_14 c7_17
def c7_19 := xG [xo 53 (.ld (xt 8) 6 true),
 xn (.sto (xt 2) (xt 53) 6),
 xo 3 (.mv (xb true))] [2,3]
def c7_20 := xQ c7_19 xR
def c7_21 := xQ c7_18 c7_20
def c7_22 := xQ c7_13 c7_21
def c7_23 := xQ c7_9 c7_22
def c7_24 := xQ c7_8 c7_23
def c7_25 := xQ c7_7 c7_24
def c7_26 := xQ c7_2 c7_25
def c7_27 := xQ c7_1 c7_26
abbrev n_impl_ParseOp : Nat := 7
theorem k_impl_ParseOp : Known Pr mu n_impl_ParseOp (c7_27 ()) [.c 2 6 true, .t 3] Go.Proofs.Tryz.f7.ntmps := .of [(0, [0,2], [], [], []), (1, [0,2,4], [], [], []), (2, [0,2,4,13], [], [], []), (3, [2,3], [], [], []), (4, [0,2,4,5,6], [], [], []), (5, [0,2,4,8], [[],[],[],[],[],[0,1,2,3],[0,1,2,3],[],[],[],[],[],[0,1,2,3,4,5,6,7],[0,1,2,3,4,5,6,7]], [], []), (6, [0,2,4,8,41], [], [], []), (7, [0,2,8], [], [], []), (8, [2,8,51], [], [], []), (9, [2,3], [], [], []), (10, [2,3], [], [], [])] hm Go.Proofs.Tryz.func7
def c8_1 := xG [xo 2 (.mv (.const (.slice none 0 0)))] [0]
def c8_2 := xG [xm 3 0,
 xo 4 (.calln 29 [xt 3]),
 xo 5 (.callp 35 [xt 4]),
 xm 2 5] [2]
def c8_3 := xQ c8_2 xR
def c8_4 := xQ c8_1 c8_3
abbrev n_spec_DrawFormatLog : Nat := 8
theorem k_spec_DrawFormatLog : Known Pr muc n_spec_DrawFormatLog (c8_4 ()) [.t 2] Go.Proofs.Tryz.f8.ntmps := .of [(0, [0], [], [], []), (1, [2], [], [], [])] hm Go.Proofs.Tryz.func8
def c9_1 := xG [xo 2 (.mv (.const (.string ⟨#[]⟩)))] [0]
def c9_2 := xG [xm 7 0,
 xo 8 (.call 36 [xt 7]),
 xo 9 (.not (xt 8)),
 xm 6 9] [0,6]
def c9_3 := xG [xo 2 (.mv (.const (.string ⟨#[]⟩)))] [2]
def c9_4 := xQ c9_3 xR
def c9_5 := xG [xm 11 0,
 xo 12 (.len false (xt 11)),
 xo 13 (.bin .eql (xt 12) (xi 0)),
 xm 10 13] [0,10]
def c9_6 := xG [xo 2 (.mv (.const (.string ⟨#[110, 111, 110, 101]⟩)))] [2]
def c9_7 := xQ c9_6 xR
def c9_8 := xC 10 c9_7 xS
def c9_9 := xQ c9_5 c9_8
def c9_10 := xC 6 c9_4 c9_9
def c9_11 := xQ c9_2 c9_10
def c9_12 := xB 0 c9_11
def c9_13 := xG [xo 14 (.bsl 1 0 [.string ⟨#[]⟩] []),
 xm 3 14] [0,3]
def c9_14 := xG [xm 15 0,
 xo 16 (.len false (xt 15)),
 xo 17 (.mv (xi 0))] [3,15,16,17]
def c9_15 := xG [xo 18 (.bin .lss (xt 17) (xt 16))] [3,15,16,17,18]
def c9_16 := xC 18 xS (xE 1)
def c9_17 := xG [xo 19 (.ia (xt 15) (xt 17) 7),
 xo 20 (.ld (xt 19) 7 true),
 xo 5 (.alloc [.int .i64 0, .int .i64 0, .int .i64 0, .int .i64 0, .int .i64 0, .int .i64 0, .int .i64 0]),
 xn (.sto (xt 5) (xt 20) 7)] [3,5,15,16,17]
def c9_18 := xG [xm 21 3,
 ⟨(some 22), .fa (xt 5) 0, none, [0]⟩,
 ⟨(some 23), .ld (xt 22) 1 false, none, [0]⟩,
 ⟨(some 24), .call 31 [xt 23], none, [0]⟩,
 xo 25 (.bin .add (xt 24) (.const (.string ⟨#[58]⟩))),
 ⟨(some 26), .fa (xt 5) 1, none, [0, 1, 2, 3, 4]⟩,
 ⟨(some 27), .ld (xt 26) 6 true, none, [0, 1, 2, 3, 4]⟩,
 ⟨(some 28), .call 6 [xt 27], none, [0, 4]⟩,
 xo 29 (.bin .add (xt 25) (xt 28)),
 xo 30 (.bsl 1 1 [.string ⟨#[]⟩] [(0, (xt 29))]),
 xo 31 (.app (xt 21) (xt 30) 1 16),
 xm 3 31] [3,15,16,17]
def c9_19 := xQ c9_17 c9_18
def c9_20 := xB 2 c9_19
def c9_21 := xG [xo 32 (.bin .add (xt 17) (xi 1)),
 xm 17 32] [3,15,16,17]
def c9_22 := xQ c9_20 c9_21
def c9_23 := xQ c9_16 c9_22
def c9_24 := xQ c9_15 c9_23
def c9_25 := xL c9_24
def c9_26 := xB 1 c9_25
def c9_27 := xQ c9_14 c9_26
def c9_28 := xG [xm 33 3,
 xo 34 (.call 37 [xt 33, (.const (.string ⟨#[59]⟩))]),
 xm 2 34] [2]
def c9_29 := xQ c9_28 xR
def c9_30 := xQ c9_27 c9_29
def c9_31 := xQ c9_13 c9_30
def c9_32 := xQ c9_12 c9_31
def c9_33 := xQ c9_1 c9_32
abbrev n_impl_FormatLog : Nat := 9
theorem k_impl_FormatLog : Known Pr mu n_impl_FormatLog (c9_33 ()) [.t 2] Go.Proofs.Tryz.f9.ntmps := .of [(0, [0], [], [], []), (1, [0,6], [], [], []), (2, [2], [], [], []), (3, [0,10], [], [], []), (4, [2], [], [], []), (5, [0,3], [], [], []), (6, [3,15,16,17], [], [], []), (7, [3,15,16,17,18], [], [], []), (8, [3,5,15,16,17], [], [], []), (9, [3,15,16,17], [[],[0],[0],[0],[],[0,1,2,3,4],[0,1,2,3,4],[0,4]], [], []), (10, [3,15,16,17], [], [], []), (11, [2], [], [], [])] hm Go.Proofs.Tryz.func9
def c10_1 := xG [xo 2 (.mv (.const (.slice none 0 0))),
 xo 3 (.mv (xb false))] [0]
def c10_2 := xG [xo 12 (.bsl 7 0 [.int .i64 0, .int .i64 0, .int .i64 0, .int .i64 0, .int .i64 0, .int .i64 0, .int .i64 0] []),
 xm 4 12] [0,4]
def c10_3 := xG [xm 13 0,
 xo 14 (.bin .eql (xt 13) (.const (.string ⟨#[110, 111, 110, 101]⟩)))] [0,4,14]
def c10_4 := xG [xm 15 4,
 xm 2 15,
 xo 3 (.mv (xb true))] [2,3]
def c10_5 := xQ c10_4 xR
def c10_6 := xC 14 c10_5 xS
def c10_7 := xQ c10_3 c10_6
def c10_8 := xG [xm 16 0,
 xo 17 (.call 32 [xt 16, (.const (.string ⟨#[59]⟩))]),
 xo 18 (.len false (xt 17)),
 xo 19 (.mv (xi 0))] [0,4,17,18,19]
def c10_9 := xG [xo 20 (.bin .lss (xt 19) (xt 18))] [0,4,17,18,19,20]
def c10_10 := xC 20 xS (xE 0)
def c10_11 := xG [xo 21 (.ia (xt 17) (xt 19) 1),
 xo 22 (.ld (xt 21) 1 false),
 xm 6 22] [0,4,6,17,18,19]
def c10_12 := xG [xm 24 6,
 xo 25 (.call 33 [xt 24, (.const (.string ⟨#[58]⟩))]),
 xm 23 25,
 xo 26 (.ext (xt 23) 0),
 xo 27 (.ext (xt 23) 1),
 xo 28 (.ext (xt 23) 2),
 xm 7 26,
 xm 8 27,
 xm 9 28] [0,4,7,8,17,18,19]
def c10_13 := xG [xm 30 8,
 xo 31 (.call 7 [xt 30]),
 xm 29 31,
 xo 32 (.ext (xt 29) 0),
 xo 33 (.ext (xt 29) 1),
 xo 10 (.alloc [.int .i64 0, .int .i64 0, .int .i64 0, .int .i64 0, .int .i64 0, .int .i64 0]),
 xn (.sto (xt 10) (xt 32) 6),
 xm 11 33] [0,4,7,10,17,18,19]
def c10_14 := xG [xm 34 4,
 xm 35 7,
 ⟨(some 36), .call 34 [xt 35], none, [0]⟩,
 ⟨(some 37), .ld (xt 10) 6 true, none, [0, 1, 2]⟩,
 xo 38 (.bld [.int .i64 0, .int .i64 0, .int .i64 0, .int .i64 0, .int .i64 0, .int .i64 0, .int .i64 0] [(0, 1, (xt 36)), (1, 6, (xt 37))]),
 xo 39 (.bsl 7 1 [.int .i64 0, .int .i64 0, .int .i64 0, .int .i64 0, .int .i64 0, .int .i64 0, .int .i64 0] [(0, (xt 38))]),
 xo 40 (.app (xt 34) (xt 39) 7 56),
 xm 4 40] [0,4,17,18,19]
def c10_15 := xQ c10_13 c10_14
def c10_16 := xQ c10_12 c10_15
def c10_17 := xQ c10_11 c10_16
def c10_18 := xB 1 c10_17
def c10_19 := xG [xo 41 (.bin .add (xt 19) (xi 1)),
 xm 19 41] [0,4,17,18,19]
def c10_20 := xQ c10_18 c10_19
def c10_21 := xQ c10_10 c10_20
def c10_22 := xQ c10_9 c10_21
def c10_23 := xL c10_22
def c10_24 := xB 0 c10_23
def c10_25 := xQ c10_8 c10_24
def c10_26 := xG [xm 42 0,
 xo 43 (.bin .eql (xt 42) (.const (.string ⟨#[]⟩))),
 xm 44 43,
 xF 45 44 (.mv (xt 4)),
 xF 46 44 (.call 9 [xt 45]),
 xF 47 44 (.mv (xt 0)),
 xF 48 44 (.bin .neq (xt 46) (xt 47)),
 xo 49 (.pick (xt 44) (xb true) (xt 48))] [4,49]
def c10_27 := xG [xo 2 (.mv (.const (.slice none 0 0))),
 xo 3 (.mv (xb false))] [2,3]
def c10_28 := xQ c10_27 xR
def c10_29 := xC 49 c10_28 xS
def c10_30 := xQ c10_26 c10_29
def c10_31 := xG [xm 50 4,
 xm 2 50,
 xo 3 (.mv (xb true))] [2,3]
def c10_32 := xQ c10_31 xR
def c10_33 := xQ c10_30 c10_32
def c10_34 := xQ c10_25 c10_33
def c10_35 := xQ c10_7 c10_34
def c10_36 := xQ c10_2 c10_35
def c10_37 := xQ c10_1 c10_36
abbrev n_impl_ParseLog : Nat := 10
theorem k_impl_ParseLog : Known Pr mu n_impl_ParseLog (c10_37 ()) [.t 2, .t 3] Go.Proofs.Tryz.f10.ntmps := .of [(0, [0], [], [], []), (1, [0,4], [], [], []), (2, [0,4,14], [], [], []), (3, [2,3], [], [], []), (4, [0,4,17,18,19], [], [], []), (5, [0,4,17,18,19,20], [], [], []), (6, [0,4,6,17,18,19], [], [], []), (7, [0,4,7,8,17,18,19], [], [], []), (8, [0,4,7,10,17,18,19], [], [], []), (9, [0,4,17,18,19], [[],[],[0],[0,1,2]], [], []), (10, [0,4,17,18,19], [], [], []), (11, [4,49], [], [], []), (12, [2,3], [], [], []), (13, [2,3], [], [], [])] hm Go.Proofs.Tryz.func10
def c11_1 := xG [xo 2 (.alloc [.int .i64 0, .int .i64 0, .slice none 0 0, .slice none 0 0])] [0,2]
def c11_2 := xG [xm 3 0,
 xo 4 (.calln 29 [xt 3]),
 xo 5 (.callp 38 [xt 4]),
 xn (.stoc (xt 2) (xt 5) 4)] [2]
def c11_3 := xQ c11_2 xR
def c11_4 := xQ c11_1 c11_3
abbrev n_spec_DrawFormatConfig : Nat := 11
theorem k_spec_DrawFormatConfig : Known Pr muc n_spec_DrawFormatConfig (c11_4 ()) [.c 2 4 true] Go.Proofs.Tryz.f11.ntmps := .of [(0, [0,2], [], [], []), (1, [2], [], [], [])] hm Go.Proofs.Tryz.func11
def c12_1 := xG [xo 1 (.box (xt 0)),
 xo 2 (.mv (.const (.string ⟨#[]⟩)))] [1]
def c12_2 := xG [xo 3 (.ld (xt 1) 4 true),
 xo 4 (.call 39 [xt 3]),
 xo 5 (.not (xt 4))] [1,5]
def c12_3 := xG [xo 2 (.mv (.const (.string ⟨#[]⟩)))] [2]
def c12_4 := xQ c12_3 xR
def c12_5 := xC 5 c12_4 xS
def c12_6 := xQ c12_2 c12_5
def c12_7 := xG [xo 6 (.fa (xt 1) 0),
 xo 7 (.ld (xt 6) 1 false),
 xo 8 (.call 31 [xt 7]),
 ⟨(some 9), .fa (xt 1) 1, none, [0, 1, 2]⟩,
 ⟨(some 10), .ld (xt 9) 1 false, none, [0, 1, 2]⟩,
 xo 11 (.call 31 [xt 10]),
 ⟨(some 12), .fa (xt 1) 2, none, [0, 1, 2, 3, 4, 5]⟩,
 ⟨(some 13), .ld (xt 12) 1 false, none, [0, 1, 2, 3, 4, 5]⟩,
 xo 14 (.call 40 [xt 13]),
 ⟨(some 15), .fa (xt 1) 3, none, [0, 1, 2, 3, 4, 5, 6, 7, 8]⟩,
 ⟨(some 16), .ld (xt 15) 1 false, none, [0, 1, 2, 3, 4, 5, 6, 7, 8]⟩,
 xo 17 (.call 40 [xt 16]),
 xo 18 (.bsl 1 4 [.string ⟨#[]⟩] [(0, (xt 8)), (1, (xt 11)), (2, (xt 14)), (3, (xt 17))]),
 xo 19 (.call 37 [xt 18, (.const (.string ⟨#[32]⟩))]),
 xm 2 19] [2]
def c12_8 := xQ c12_7 xR
def c12_9 := xQ c12_6 c12_8
def c12_10 := xQ c12_1 c12_9
abbrev n_impl_FormatConfig : Nat := 12
theorem k_impl_FormatConfig : Known Pr mu n_impl_FormatConfig (c12_10 ()) [.t 2] Go.Proofs.Tryz.f12.ntmps := .of [(0, [1], [], [], []), (1, [1,5], [], [], []), (2, [2], [], [], []), (3, [2], [[],[],[],[0,1,2],[0,1,2],[],[0,1,2,3,4,5],[0,1,2,3,4,5],[],[0,1,2,3,4,5,6,7,8],[0,1,2,3,4,5,6,7,8]], [], [])] hm Go.Proofs.Tryz.func12
def c13_1 := xG [xo 2 (.alloc [.int .i64 0, .int .i64 0, .slice none 0 0, .slice none 0 0]),
 xo 3 (.mv (xb false))] [0,2]
def c13_2 := xG [xm 10 0,
 xo 11 (.call 32 [xt 10, (.const (.string ⟨#[32]⟩))]),
 xm 4 11] [0,2,4]
def c13_3 := xG [xm 12 4,
 xo 13 (.len false (xt 12)),
 xo 14 (.bin .neq (xt 13) (xi 4))] [0,2,4,14]
def c13_4 := xG [xo 15 (.bld [.int .i64 0, .int .i64 0, .slice none 0 0, .slice none 0 0] []),
 xn (.sto (xt 2) (xt 15) 4),
 xo 3 (.mv (xb false))] [2,3]
def c13_5 := xQ c13_4 xR
def c13_6 := xC 14 c13_5 xS
def c13_7 := xQ c13_3 c13_6
def c13_8 := xG [xm 17 4,
 xo 18 (.ia (xt 17) (xi 2) 1),
 xo 19 (.ld (xt 18) 1 false),
 xo 20 (.call 41 [xt 19]),
 xm 16 20,
 xo 21 (.ext (xt 16) 0),
 xo 22 (.ext (xt 16) 1),
 xm 5 21,
 xm 6 22] [0,2,4,5]
def c13_9 := xG [xm 24 4,
 xo 25 (.ia (xt 24) (xi 3) 1),
 xo 26 (.ld (xt 25) 1 false),
 xo 27 (.call 41 [xt 26]),
 xm 23 27,
 xo 28 (.ext (xt 23) 0),
 xo 29 (.ext (xt 23) 1),
 xm 7 28,
 xm 8 29] [0,2,4,5,7]
def c13_10 := xG [xm 30 4,
 xo 31 (.ia (xt 30) (xi 0) 1),
 xo 32 (.ld (xt 31) 1 false),
 xo 33 (.call 34 [xt 32]),
 xm 34 4,
 ⟨(some 35), .ia (xt 34) (xi 1) 1, none, [0, 1, 2, 3]⟩,
 ⟨(some 36), .ld (xt 35) 1 false, none, [0, 1, 2, 3]⟩,
 xo 37 (.call 34 [xt 36]),
 xm 38 5,
 xm 39 7,
 xo 40 (.bld [.int .i64 0, .int .i64 0, .slice none 0 0, .slice none 0 0] [(0, 1, (xt 33)), (1, 1, (xt 37)), (2, 1, (xt 38)), (3, 1, (xt 39))]),
 xo 9 (.alloc [.int .i64 0, .int .i64 0, .slice none 0 0, .slice none 0 0]),
 xn (.sto (xt 9) (xt 40) 4)] [0,2,9]
def c13_11 := xG [xo 41 (.ld (xt 9) 4 true),
 xo 42 (.call 12 [xt 41]),
 xm 43 0,
 xo 44 (.bin .neq (xt 42) (xt 43))] [2,9,44]
def c13_12 := xG [xo 45 (.bld [.int .i64 0, .int .i64 0, .slice none 0 0, .slice none 0 0] []),
 xn (.sto (xt 2) (xt 45) 4),
 xo 3 (.mv (xb false))] [2,3]
def c13_13 := xQ c13_12 xR
def c13_14 := xC 44 c13_13 xS
def c13_15 := xQ c13_11 c13_14
def c13_16 := xG [xo 46 (.ld (xt 9) 4 true),
 xn (.sto (xt 2) (xt 46) 4),
 xo 3 (.mv (xb true))] [2,3]
def c13_17 := xQ c13_16 xR
def c13_18 := xQ c13_15 c13_17
def c13_19 := xQ c13_10 c13_18
def c13_20 := xQ c13_9 c13_19
def c13_21 := xQ c13_8 c13_20
def c13_22 := xQ c13_7 c13_21
def c13_23 := xQ c13_2 c13_22
def c13_24 := xQ c13_1 c13_23
abbrev n_impl_ParseConfig : Nat := 13
theorem k_impl_ParseConfig : Known Pr mu n_impl_ParseConfig (c13_24 ()) [.c 2 4 true, .t 3] Go.Proofs.Tryz.f13.ntmps := .of [(0, [0,2], [], [], []), (1, [0,2,4], [], [], []), (2, [0,2,4,14], [], [], []), (3, [2,3], [], [], []), (4, [0,2,4,5], [], [], []), (5, [0,2,4,5,7], [], [], []), (6, [0,2,9], [[],[],[],[],[],[0,1,2,3],[0,1,2,3]], [], []), (7, [2,9,44], [], [], []), (8, [2,3], [], [], []), (9, [2,3], [], [], [])] hm Go.Proofs.Tryz.func13
def c14_1 := xG [xo 2 (.alloc [.slice none 0 0, .slice none 0 0])] [0,2]
def c14_2 := xG [xm 3 0,
 xo 4 (.calln 29 [xt 3]),
 xo 5 (.callp 42 [xt 4]),
 xn (.stoc (xt 2) (xt 5) 2)] [2]
def c14_3 := xQ c14_2 xR
def c14_4 := xQ c14_1 c14_3
abbrev n_spec_DrawFormatMachine : Nat := 14
theorem k_spec_DrawFormatMachine : Known Pr muc n_spec_DrawFormatMachine (c14_4 ()) [.c 2 2 true] Go.Proofs.Tryz.f14.ntmps := .of [(0, [0,2], [], [], []), (1, [2], [], [], [])] hm Go.Proofs.Tryz.func14
def c15_1 := xG [xo 1 (.box (xt 0)),
 xo 2 (.mv (.const (.string ⟨#[]⟩)))] [1]
def c15_2 := xG [xo 9 (.ld (xt 1) 2 true),
 xo 10 (.call 43 [xt 9]),
 xo 11 (.not (xt 10))] [1,11]
def c15_3 := xG [xo 2 (.mv (.const (.string ⟨#[]⟩)))] [2]
def c15_4 := xQ c15_3 xR
def c15_5 := xC 11 c15_4 xS
def c15_6 := xQ c15_2 c15_5
def c15_7 := xG [xo 3 (.mv (.const (.string ⟨#[]⟩)))] [1,3]
def c15_8 := xG [xo 12 (.fa (xt 1) 0),
 xo 13 (.ld (xt 12) 1 false),
 xo 14 (.len false (xt 13)),
 xo 15 (.mv (xi 0))] [1,3,13,14,15]
def c15_9 := xG [xo 16 (.bin .lss (xt 15) (xt 14))] [1,3,13,14,15,16]
def c15_10 := xC 16 xS (xE 0)
def c15_11 := xG [xo 17 (.ia (xt 13) (xt 15) 1),
 xo 18 (.ld (xt 17) 1 false),
 xm 5 18] [1,3,5,13,14,15]
def c15_12 := xG [xm 19 3,
 xm 20 5,
 xo 21 (.call 31 [xt 20]),
 xo 22 (.bin .add (xt 19) (xt 21)),
 xm 3 22] [1,3,13,14,15]
def c15_13 := xQ c15_11 c15_12
def c15_14 := xB 1 c15_13
def c15_15 := xG [xo 23 (.bin .add (xt 15) (xi 1)),
 xm 15 23] [1,3,13,14,15]
def c15_16 := xQ c15_14 c15_15
def c15_17 := xQ c15_10 c15_16
def c15_18 := xQ c15_9 c15_17
def c15_19 := xL c15_18
def c15_20 := xB 0 c15_19
def c15_21 := xQ c15_8 c15_20
def c15_22 := xG [xo 24 (.fa (xt 1) 1),
 xo 25 (.ld (xt 24) 1 false),
 xo 26 (.len false (xt 25)),
 xo 27 (.mv (xi 0))] [3,25,26,27]
def c15_23 := xG [xo 28 (.bin .lss (xt 27) (xt 26))] [3,25,26,27,28]
def c15_24 := xC 28 xS (xE 2)
def c15_25 := xG [xo 29 (.ia (xt 25) (xt 27) 4),
 xo 30 (.ld (xt 29) 4 true),
 xo 7 (.alloc [.int .i64 0, .int .i64 0, .bool false, .int .i64 0]),
 xn (.sto (xt 7) (xt 30) 4)] [3,7,25,26,27]
def c15_26 := xG [xo 8 (.mv (.const (.string ⟨#[45]⟩)))] [3,7,8,25,26,27]
def c15_27 := xG [xo 31 (.fa (xt 7) 2),
 xo 32 (.fa (xt 31) 0),
 xo 33 (.ld (xt 32) 1 false)] [3,7,8,25,26,27,33]
def c15_28 := xG [xo 8 (.mv (.const (.string ⟨#[43]⟩)))] [3,7,8,25,26,27]
def c15_29 := xC 33 c15_28 xS
def c15_30 := xQ c15_27 c15_29
def c15_31 := xG [xm 34 3,
 ⟨(some 35), .fa (xt 7) 0, none, [0]⟩,
 ⟨(some 36), .ld (xt 35) 1 false, none, [0]⟩,
 ⟨(some 37), .call 31 [xt 36], none, [0]⟩,
 xo 38 (.bin .add (.const (.string ⟨#[32]⟩)) (xt 37)),
 xo 39 (.bin .add (xt 38) (.const (.string ⟨#[46]⟩))),
 ⟨(some 40), .fa (xt 7) 1, none, [0, 1, 2, 3, 4, 5]⟩,
 ⟨(some 41), .ld (xt 40) 1 false, none, [0, 1, 2, 3, 4, 5]⟩,
 ⟨(some 42), .call 31 [xt 41], none, [0, 4, 5]⟩,
 xo 43 (.bin .add (xt 39) (xt 42)),
 xm 44 8,
 xo 45 (.bin .add (xt 43) (xt 44)),
 ⟨(some 46), .fa (xt 7) 2, none, [0, 1, 2, 3, 4, 5, 6, 7, 8, 9, 10, 11]⟩,
 ⟨(some 47), .fa (xt 46) 1, none, [0, 1, 2, 3, 4, 5, 6, 7, 8, 9, 10, 11]⟩,
 ⟨(some 48), .ld (xt 47) 1 false, none, [0, 1, 2, 3, 4, 5, 6, 7, 8, 9, 10, 11]⟩,
 ⟨(some 49), .call 31 [xt 48], none, [0, 4, 5, 9, 10, 11]⟩,
 xo 50 (.bin .add (xt 45) (xt 49)),
 xo 51 (.bin .add (xt 34) (xt 50)),
 xm 3 51] [3,25,26,27]
def c15_32 := xQ c15_30 c15_31
def c15_33 := xQ c15_26 c15_32
def c15_34 := xQ c15_25 c15_33
def c15_35 := xB 3 c15_34
def c15_36 := xG [xo 52 (.bin .add (xt 27) (xi 1)),
 xm 27 52] [3,25,26,27]
def c15_37 := xQ c15_35 c15_36
def c15_38 := xQ c15_24 c15_37
def c15_39 := xQ c15_23 c15_38
def c15_40 := xL c15_39
def c15_41 := xB 2 c15_40
def c15_42 := xQ c15_22 c15_41
def c15_43 := xG [xm 53 3,
 xm 2 53] [2]
def c15_44 := xQ c15_43 xR
def c15_45 := xQ c15_42 c15_44
def c15_46 := xQ c15_21 c15_45
def c15_47 := xQ c15_7 c15_46
def c15_48 := xQ c15_6 c15_47
def c15_49 := xQ c15_1 c15_48
abbrev n_impl_FormatMachine : Nat := 15
theorem k_impl_FormatMachine : Known Pr mu n_impl_FormatMachine (c15_49 ()) [.t 2] Go.Proofs.Tryz.f15.ntmps := .of [(0, [1], [], [], []), (1, [1,11], [], [], []), (2, [2], [], [], []), (3, [1,3], [], [], []), (4, [1,3,13,14,15], [], [], []), (5, [1,3,13,14,15,16], [], [], []), (6, [1,3,5,13,14,15], [], [], []), (7, [1,3,13,14,15], [], [], []), (8, [1,3,13,14,15], [], [], []), (9, [3,25,26,27], [], [], []), (10, [3,25,26,27,28], [], [], []), (11, [3,7,25,26,27], [], [], []), (12, [3,7,8,25,26,27], [], [], []), (13, [3,7,8,25,26,27,33], [], [], []), (14, [3,7,8,25,26,27], [], [], []), (15, [3,25,26,27], [[],[0],[0],[0],[],[],[0,1,2,3,4,5],[0,1,2,3,4,5],[0,4,5],[],[],[],[0,1,2,3,4,5,6,7,8,9,10,11],[0,1,2,3,4,5,6,7,8,9,10,11],[0,1,2,3,4,5,6,7,8,9,10,11],[0,4,5,9,10,11]], [], []), (16, [3,25,26,27], [], [], []), (17, [2], [], [], [])] hm Go.Proofs.Tryz.func15
def c16_1 := xG [xo 2 (.alloc [.slice none 0 0, .slice none 0 0]),
 xo 3 (.mv (xb false))] [0,2]
def c16_2 := xG [xm 13 0,
 xo 14 (.call 32 [xt 13, (.const (.string ⟨#[32]⟩))]),
 xo 15 (.bld [.slice none 0 0, .slice none 0 0] []),
 xo 5 (.alloc [.slice none 0 0, .slice none 0 0]),
 xm 4 14,
 xn (.sto (xt 5) (xt 15) 2)] [0,2,4,5]
def c16_3 := xG [xm 16 4,
 xo 17 (.ia (xt 16) (xi 0) 1),
 xo 18 (.ld (xt 17) 1 false),
 xo 19 (.len true (xt 18)),
 xo 20 (.mv (xi 0))] [0,2,4,5,19,20]
def c16_4 := xG [xo 21 (.bin .lss (xt 20) (xt 19))] [0,2,4,5,19,20,21]
def c16_5 := xC 21 xS (xE 0)
def c16_6 := xG [xm 22 20,
 xm 6 22] [0,2,4,5,6,19,20]
def c16_7 := xG [xo 23 (.fa (xt 5) 0),
 xo 24 (.ld (xt 23) 1 false),
 xm 25 4,
 ⟨(some 26), .ia (xt 25) (xi 0) 1, none, [0, 1]⟩,
 ⟨(some 27), .ld (xt 26) 1 false, none, [0, 1]⟩,
 xm 28 6,
 xo 29 (.sidx (xt 27) (xt 28)),
 ⟨(some 30), .conv .i64 (xt 29), none, [0, 1]⟩,
 xo 31 (.bin .sub (xt 30) (xi 48)),
 xo 32 (.bsl 1 1 [.int .i64 0] [(0, (xt 31))]),
 xo 33 (.app (xt 24) (xt 32) 1 8),
 xo 34 (.fa (xt 5) 0),
 xn (.sto (xt 34) (xt 33) 1)] [0,2,4,5,19,20]
def c16_8 := xQ c16_6 c16_7
def c16_9 := xB 1 c16_8
def c16_10 := xG [xo 35 (.bin .add (xt 20) (xi 1)),
 xm 20 35] [0,2,4,5,19,20]
def c16_11 := xQ c16_9 c16_10
def c16_12 := xQ c16_5 c16_11
def c16_13 := xQ c16_4 c16_12
def c16_14 := xL c16_13
def c16_15 := xB 0 c16_14
def c16_16 := xQ c16_3 c16_15
def c16_17 := xG [xm 36 4,
 xo 37 (.slc false (xt 36) (some (xi 1)) none none 1),
 xo 38 (.len false (xt 37)),
 xo 39 (.mv (xi 0))] [0,2,5,37,38,39]
def c16_18 := xG [xo 40 (.bin .lss (xt 39) (xt 38))] [0,2,5,37,38,39,40]
def c16_19 := xC 40 xS (xE 2)
def c16_20 := xG [xo 41 (.ia (xt 37) (xt 39) 1),
 xo 42 (.ld (xt 41) 1 false),
 xm 8 42] [0,2,5,8,37,38,39]
def c16_21 := xG [xm 44 8,
 xo 45 (.call 33 [xt 44, (.const (.string ⟨#[46]⟩))]),
 xm 43 45,
 xo 46 (.ext (xt 43) 0),
 xo 47 (.ext (xt 43) 1),
 xo 48 (.ext (xt 43) 2),
 xm 9 46,
 xm 10 47,
 xm 11 48] [0,2,5,9,10,37,38,39]
def c16_22 := xG [xm 49 10,
 xo 50 (.call 44 [xt 49, (.const (.string ⟨#[43, 45]⟩))]),
 xm 12 50] [0,2,5,9,10,12,37,38,39]
def c16_23 := xG [xm 51 12,
 xo 52 (.bin .lss (xt 51) (xi 0))] [0,2,5,9,10,12,37,38,39,52]
def c16_24 := xG [xo 53 (.bld [.slice none 0 0, .slice none 0 0] []),
 xn (.sto (xt 2) (xt 53) 2),
 xo 3 (.mv (xb false))] [2,3]
def c16_25 := xQ c16_24 xR
def c16_26 := xC 52 c16_25 xS
def c16_27 := xQ c16_23 c16_26
def c16_28 := xG [xo 54 (.fa (xt 5) 1),
 xo 55 (.ld (xt 54) 1 false),
 xm 56 9,
 ⟨(some 57), .call 34 [xt 56], none, [0, 1]⟩,
 xm 58 10,
 xm 59 12,
 ⟨(some 60), .slc true (xt 58) none (some (xt 59)) none 0, none, [0, 1, 2, 3]⟩,
 ⟨(some 61), .call 34 [xt 60], none, [0, 1]⟩,
 xm 62 10,
 xm 63 12,
 xo 64 (.sidx (xt 62) (xt 63)),
 xo 65 (.bin .eql (xt 64) (.const (.int .u8 43))),
 xm 66 10,
 xm 67 12,
 xo 68 (.bin .add (xt 67) (xi 1)),
 ⟨(some 69), .slc true (xt 66) (some (xt 68)) none none 0, none, [0, 1, 2, 3, 4, 5, 6, 7, 8, 9, 10, 11]⟩,
 ⟨(some 70), .call 34 [xt 69], none, [0, 1, 8, 9, 10, 11]⟩,
 xo 71 (.bld [.bool false, .int .i64 0] [(0, 1, (xt 65)), (1, 1, (xt 70))]),
 xo 72 (.bld [.int .i64 0, .int .i64 0, .bool false, .int .i64 0] [(0, 1, (xt 57)), (1, 1, (xt 61)), (2, 2, (xt 71))]),
 xo 73 (.bsl 4 1 [.int .i64 0, .int .i64 0, .bool false, .int .i64 0] [(0, (xt 72))]),
 xo 74 (.app (xt 55) (xt 73) 4 32),
 xo 75 (.fa (xt 5) 1),
 xn (.sto (xt 75) (xt 74) 1)] [0,2,5,37,38,39]
def c16_29 := xQ c16_27 c16_28
def c16_30 := xQ c16_22 c16_29
def c16_31 := xQ c16_21 c16_30
def c16_32 := xQ c16_20 c16_31
def c16_33 := xB 3 c16_32
def c16_34 := xG [xo 76 (.bin .add (xt 39) (xi 1)),
 xm 39 76] [0,2,5,37,38,39]
def c16_35 := xQ c16_33 c16_34
def c16_36 := xQ c16_19 c16_35
def c16_37 := xQ c16_18 c16_36
def c16_38 := xL c16_37
def c16_39 := xB 2 c16_38
def c16_40 := xQ c16_17 c16_39
def c16_41 := xG [xm 77 0,
 xo 78 (.bin .eql (xt 77) (.const (.string ⟨#[]⟩))),
 xm 79 78,
 xF 80 79 (.ld (xt 5) 2 true),
 xF 81 79 (.call 15 [xt 80]),
 xF 82 79 (.mv (xt 0)),
 xF 83 79 (.bin .neq (xt 81) (xt 82)),
 xo 84 (.pick (xt 79) (xb true) (xt 83))] [2,5,84]
def c16_42 := xG [xo 85 (.bld [.slice none 0 0, .slice none 0 0] []),
 xn (.sto (xt 2) (xt 85) 2),
 xo 3 (.mv (xb false))] [2,3]
def c16_43 := xQ c16_42 xR
def c16_44 := xC 84 c16_43 xS
def c16_45 := xQ c16_41 c16_44
def c16_46 := xG [xo 86 (.ld (xt 5) 2 true),
 xn (.sto (xt 2) (xt 86) 2),
 xo 3 (.mv (xb true))] [2,3]
def c16_47 := xQ c16_46 xR
def c16_48 := xQ c16_45 c16_47
def c16_49 := xQ c16_40 c16_48
def c16_50 := xQ c16_16 c16_49
def c16_51 := xQ c16_2 c16_50
def c16_52 := xQ c16_1 c16_51
abbrev n_impl_ParseMachine : Nat := 16
theorem k_impl_ParseMachine : Known Pr mu n_impl_ParseMachine (c16_52 ()) [.c 2 2 true, .t 3] Go.Proofs.Tryz.f16.ntmps := .of [(0, [0,2], [], [], []), (1, [0,2,4,5], [], [], []), (2, [0,2,4,5,19,20], [], [], []), (3, [0,2,4,5,19,20,21], [], [], []), (4, [0,2,4,5,6,19,20], [], [], []), (5, [0,2,4,5,19,20], [[],[],[],[0,1],[0,1],[],[],[0,1]], [], []), (6, [0,2,4,5,19,20], [], [], []), (7, [0,2,5,37,38,39], [], [], []), (8, [0,2,5,37,38,39,40], [], [], []), (9, [0,2,5,8,37,38,39], [], [], []), (10, [0,2,5,9,10,37,38,39], [], [], []), (11, [0,2,5,9,10,12,37,38,39], [], [], []), (12, [0,2,5,9,10,12,37,38,39,52], [], [], []), (13, [2,3], [], [], []), (14, [0,2,5,37,38,39], [[],[],[],[0,1],[],[],[0,1,2,3],[0,1],[],[],[],[],[],[],[],[0,1,2,3,4,5,6,7,8,9,10,11],[0,1,8,9,10,11]], [], []), (15, [0,2,5,37,38,39], [], [], []), (16, [2,5,84], [], [], []), (17, [2,3], [], [], []), (18, [2,3], [], [], [])] hm Go.Proofs.Tryz.func16
def c17_1 := xG [xo 1 (.box (xt 0)),
 xo 2 (.mv (xb false))] [1]
def c17_2 := xG [xo 3 (.fa (xt 1) 0),
 xo 4 (.ld (xt 3) 1 false),
 xo 5 (.call 45 [xt 4, xi 0, xi 2]),
 xo 6 (.not (xt 5)),
 xm 7 6,
 xF 8 7 (.fa (xt 1) 1),
 xF 9 7 (.ld (xt 8) 1 false),
 xF 10 7 (.call 45 [xt 9, xi 1, xi 99]),
 xF 11 7 (.not (xt 10)),
 xo 12 (.pick (xt 7) (xb true) (xt 11)),
 xm 13 12,
 xF 14 13 (.fa (xt 1) 3),
 xF 15 13 (.ld (xt 14) 1 false),
 xF 16 13 (.call 45 [xt 15, xi 0, xi 2]),
 xF 17 13 (.not (xt 16)),
 xo 18 (.pick (xt 13) (xb true) (xt 17)),
 xm 19 18,
 xF 20 19 (.fa (xt 1) 5),
 xF 21 19 (.ld (xt 20) 1 false),
 xF 22 19 (.call 45 [xt 21, xi 0, xi 9]),
 xF 23 19 (.not (xt 22)),
 xo 24 (.pick (xt 19) (xb true) (xt 23))] [1,24]
def c17_3 := xG [xo 2 (.mv (xb false))] [2]
def c17_4 := xQ c17_3 xR
def c17_5 := xC 24 c17_4 xS
def c17_6 := xQ c17_2 c17_5
def c17_7 := xG [xo 25 (.fa (xt 1) 2),
 xo 26 (.ld (xt 25) 1 false),
 xo 27 (.bin .eql (xt 26) (xi 1)),
 xm 28 27,
 xT 29 28 (.fa (xt 1) 4),
 xT 30 28 (.ld (xt 29) 1 false),
 xT 31 28 (.bin .eql (xt 30) (xi 0)),
 xo 32 (.pick (xt 28) (xt 31) (xb false)),
 xm 33 32,
 xF 34 33 (.fa (xt 1) 2),
 xF 35 33 (.ld (xt 34) 1 false),
 xF 36 33 (.bin .eql (xt 35) (xi 2)),
 xF 37 33 (.mv (xt 36)),
 xT 38 37 (.fa (xt 1) 4),
 xT 39 37 (.ld (xt 38) 1 false),
 xT 40 37 (.call 45 [xt 39, xi 0, xi 9]),
 xF 41 33 (.pick (xt 37) (xt 40) (xb false)),
 xo 42 (.pick (xt 33) (xb true) (xt 41)),
 xm 2 42] [2]
def c17_8 := xQ c17_7 xR
def c17_9 := xQ c17_6 c17_8
def c17_10 := xQ c17_1 c17_9
abbrev n_spec_IsValidOp : Nat := 17
theorem k_spec_IsValidOp : Known Pr mu n_spec_IsValidOp (c17_10 ()) [.t 2] Go.Proofs.Tryz.f17.ntmps := .of [(0, [1], [], [], []), (1, [1,24], [], [], []), (2, [2], [], [], []), (3, [2], [], [], [])] hm Go.Proofs.Tryz.func17
def c18_1 := xG [xo 2 (.mv (xb false))] [0]
def c18_2 := xG [xo 3 (.mv (xi 0))] [0,3]
def c18_3 := xG [xm 4 3,
 xm 5 0,
 xo 6 (.len false (xt 5)),
 xo 7 (.bin .lss (xt 4) (xt 6))] [0,3,7]
def c18_4 := xC 7 xS (xE 0)
def c18_5 := xQ c18_3 c18_4
def c18_6 := xG [xm 10 0,
 xm 11 3,
 xo 12 (.ia (xt 10) (xt 11) 7),
 xo 13 (.fa (xt 12) 0),
 xo 14 (.ld (xt 13) 1 false),
 xo 15 (.call 45 [xt 14, xi 1, xi 20]),
 xo 16 (.not (xt 15)),
 xm 17 16,
 xF 18 17 (.mv (xt 0)),
 xF 19 17 (.mv (xt 3)),
 xF 20 17 (.ia (xt 18) (xt 19) 7),
 xF 21 17 (.fa (xt 20) 1),
 xF 22 17 (.ld (xt 21) 6 true),
 xF 23 17 (.call 17 [xt 22]),
 xF 24 17 (.not (xt 23)),
 xo 25 (.pick (xt 17) (xb true) (xt 24)),
 xm 26 25,
 xF 27 26 (.mv (xt 3)),
 xF 28 26 (.bin .gtr (xt 27) (xi 0)),
 xF 29 26 (.mv (xt 28)),
 xT 30 29 (.mv (xt 0)),
 xT 31 29 (.mv (xt 3)),
 xT 32 29 (.bin .sub (xt 31) (xi 1)),
 xT 33 29 (.ia (xt 30) (xt 32) 7),
 xT 34 29 (.fa (xt 33) 0),
 xT 35 29 (.ld (xt 34) 1 false),
 xT 36 29 (.mv (xt 0)),
 xT 37 29 (.mv (xt 3)),
 ⟨(some 38), .ia (xt 36) (xt 37) 7, (some (29, true)), [20, 21, 22, 23, 24, 25]⟩,
 ⟨(some 39), .fa (xt 38) 0, (some (29, true)), [20, 21, 22, 23, 24, 25]⟩,
 ⟨(some 40), .ld (xt 39) 1 false, (some (29, true)), [20, 21, 22, 23, 24, 25]⟩,
 xT 41 29 (.bin .gtr (xt 35) (xt 40)),
 xF 42 26 (.pick (xt 29) (xt 41) (xb false)),
 xo 43 (.pick (xt 26) (xb true) (xt 42))] [0,3,43]
def c18_7 := xG [xo 2 (.mv (xb false))] [2]
def c18_8 := xQ c18_7 xR
def c18_9 := xC 43 c18_8 xS
def c18_10 := xQ c18_6 c18_9
def c18_11 := xB 1 c18_10
def c18_12 := xG [xm 8 3,
 xo 9 (.bin .add (xt 8) (xi 1)),
 xm 3 9] [0,3]
def c18_13 := xQ c18_11 c18_12
def c18_14 := xQ c18_5 c18_13
def c18_15 := xL c18_14
def c18_16 := xB 0 c18_15
def c18_17 := xQ c18_2 c18_16
def c18_18 := xG [xm 44 0,
 xo 45 (.len false (xt 44)),
 xo 46 (.bin .leq (xt 45) (xi 16)),
 xm 2 46] [2]
def c18_19 := xQ c18_18 xR
def c18_20 := xQ c18_17 c18_19
def c18_21 := xQ c18_1 c18_20
abbrev n_spec_IsLog : Nat := 18
theorem k_spec_IsLog : Known Pr mu n_spec_IsLog (c18_21 ()) [.t 2] Go.Proofs.Tryz.f18.ntmps := .of [(0, [0], [], [], []), (1, [0,3], [], [], []), (2, [0,3,7], [], [], []), (4, [0,3,43], [[],[],[],[],[],[],[],[],[],[],[],[],[],[],[],[],[],[],[],[],[],[],[],[],[],[],[],[],[20,21,22,23,24,25],[20,21,22,23,24,25],[20,21,22,23,24,25]], [], []), (5, [2], [], [], []), (3, [0,3], [], [], []), (6, [2], [], [], [])] hm Go.Proofs.Tryz.func18
def c19_1 := xG [xo 1 (.box (xt 0)),
 xo 2 (.mv (xb false))] [1]
def c19_2 := xG [xo 3 (.fa (xt 1) 0),
 xo 4 (.ld (xt 3) 1 false),
 xo 5 (.call 45 [xt 4, xi 1, xi 20]),
 xm 6 5,
 xT 7 6 (.fa (xt 1) 2),
 xT 8 6 (.ld (xt 7) 1 false),
 xT 9 6 (.call 46 [xt 8]),
 xo 10 (.pick (xt 6) (xt 9) (xb false)),
 xm 11 10,
 xT 12 11 (.fa (xt 1) 3),
 xT 13 11 (.ld (xt 12) 1 false),
 xT 14 11 (.call 46 [xt 13]),
 xo 15 (.pick (xt 11) (xt 14) (xb false)),
 xm 16 15,
 xT 17 16 (.fa (xt 1) 2),
 xT 18 16 (.ld (xt 17) 1 false),
 xT 19 16 (.fa (xt 1) 1),
 xT 20 16 (.ld (xt 19) 1 false),
 xT 21 16 (.call 47 [xt 18, xt 20]),
 xo 22 (.pick (xt 16) (xt 21) (xb false)),
 xm 23 22,
 xT 24 23 (.fa (xt 1) 2),
 xT 25 23 (.ld (xt 24) 1 false),
 xT 26 23 (.fa (xt 1) 3),
 xT 27 23 (.ld (xt 26) 1 false),
 xT 28 23 (.call 48 [xt 25, xt 27]),
 xT 29 23 (.len false (xt 28)),
 xT 30 23 (.bin .eql (xt 29) (xi 0)),
 xo 31 (.pick (xt 23) (xt 30) (xb false)),
 xm 2 31] [2]
def c19_3 := xQ c19_2 xR
def c19_4 := xQ c19_1 c19_3
abbrev n_spec_IsValidConfig : Nat := 19
theorem k_spec_IsValidConfig : Known Pr mu n_spec_IsValidConfig (c19_4 ()) [.t 2] Go.Proofs.Tryz.f19.ntmps := .of [(0, [1], [], [], []), (1, [2], [], [], [])] hm Go.Proofs.Tryz.func19
def c20_1 := xG [xo 1 (.box (xt 0)),
 xo 2 (.mv (xb false))] [1]
def c20_2 := xG [xo 3 (.mv (xi 0))] [1,3]
def c20_3 := xG [xm 6 3,
 xo 7 (.fa (xt 1) 0),
 xo 8 (.ld (xt 7) 1 false),
 xo 9 (.len false (xt 8)),
 xo 10 (.bin .lss (xt 6) (xt 9))] [1,3,10]
def c20_4 := xC 10 xS (xE 0)
def c20_5 := xQ c20_3 c20_4
def c20_6 := xG [xo 13 (.fa (xt 1) 0),
 xo 14 (.ld (xt 13) 1 false),
 xm 15 3,
 xo 16 (.ia (xt 14) (xt 15) 1),
 xo 17 (.ld (xt 16) 1 false),
 xo 18 (.call 45 [xt 17, xi 0, xi 9]),
 xo 19 (.not (xt 18))] [1,3,19]
def c20_7 := xG [xo 2 (.mv (xb false))] [2]
def c20_8 := xQ c20_7 xR
def c20_9 := xC 19 c20_8 xS
def c20_10 := xQ c20_6 c20_9
def c20_11 := xB 1 c20_10
def c20_12 := xG [xm 11 3,
 xo 12 (.bin .add (xt 11) (xi 1)),
 xm 3 12] [1,3]
def c20_13 := xQ c20_11 c20_12
def c20_14 := xQ c20_5 c20_13
def c20_15 := xL c20_14
def c20_16 := xB 0 c20_15
def c20_17 := xQ c20_2 c20_16
def c20_18 := xG [xo 4 (.mv (xi 0))] [1,4]
def c20_19 := xG [xm 20 4,
 xo 21 (.fa (xt 1) 1),
 xo 22 (.ld (xt 21) 1 false),
 xo 23 (.len false (xt 22)),
 xo 24 (.bin .lss (xt 20) (xt 23))] [1,4,24]
def c20_20 := xC 24 xS (xE 2)
def c20_21 := xQ c20_19 c20_20
def c20_22 := xG [xo 27 (.fa (xt 1) 1),
 xo 28 (.ld (xt 27) 1 false),
 xm 29 4,
 xo 30 (.ia (xt 28) (xt 29) 4),
 xo 31 (.ld (xt 30) 4 true),
 xo 5 (.alloc [.int .i64 0, .int .i64 0, .bool false, .int .i64 0]),
 xn (.sto (xt 5) (xt 31) 4)] [1,4,5]
def c20_23 := xG [xo 32 (.fa (xt 5) 0),
 xo 33 (.ld (xt 32) 1 false),
 xo 34 (.call 45 [xt 33, xi 0, xi 2]),
 xo 35 (.not (xt 34)),
 xm 36 35,
 xF 37 36 (.fa (xt 5) 1),
 xF 38 36 (.ld (xt 37) 1 false),
 xF 39 36 (.call 45 [xt 38, xi 1, xi 99]),
 xF 40 36 (.not (xt 39)),
 xo 41 (.pick (xt 36) (xb true) (xt 40)),
 xm 42 41,
 xF 43 42 (.fa (xt 5) 2),
 xF 44 42 (.fa (xt 43) 1),
 xF 45 42 (.ld (xt 44) 1 false),
 xF 46 42 (.call 45 [xt 45, xi 0, xi 9]),
 xF 47 42 (.not (xt 46)),
 xo 48 (.pick (xt 42) (xb true) (xt 47)),
 xm 49 48,
 xF 50 49 (.mv (xt 4)),
 xF 51 49 (.bin .gtr (xt 50) (xi 0)),
 xF 52 49 (.mv (xt 51)),
 xT 53 52 (.fa (xt 1) 1),
 xT 54 52 (.ld (xt 53) 1 false),
 xT 55 52 (.mv (xt 4)),
 xT 56 52 (.bin .sub (xt 55) (xi 1)),
 xT 57 52 (.ia (xt 54) (xt 56) 4),
 xT 58 52 (.fa (xt 57) 0),
 xT 59 52 (.ld (xt 58) 1 false),
 ⟨(some 60), .fa (xt 5) 0, (some (52, true)), [21, 22, 23, 24, 25, 26, 27]⟩,
 ⟨(some 61), .ld (xt 60) 1 false, (some (52, true)), [21, 22, 23, 24, 25, 26, 27]⟩,
 xT 62 52 (.bin .geq (xt 59) (xt 61)),
 xF 63 49 (.pick (xt 52) (xt 62) (xb false)),
 xo 64 (.pick (xt 49) (xb true) (xt 63))] [1,4,64]
def c20_24 := xG [xo 2 (.mv (xb false))] [2]
def c20_25 := xQ c20_24 xR
def c20_26 := xC 64 c20_25 xS
def c20_27 := xQ c20_23 c20_26
def c20_28 := xQ c20_22 c20_27
def c20_29 := xB 3 c20_28
def c20_30 := xG [xm 25 4,
 xo 26 (.bin .add (xt 25) (xi 1)),
 xm 4 26] [1,4]
def c20_31 := xQ c20_29 c20_30
def c20_32 := xQ c20_21 c20_31
def c20_33 := xL c20_32
def c20_34 := xB 2 c20_33
def c20_35 := xQ c20_18 c20_34
def c20_36 := xG [xo 65 (.fa (xt 1) 0),
 xo 66 (.ld (xt 65) 1 false),
 xo 67 (.len false (xt 66)),
 xo 68 (.bin .eql (xt 67) (xi 3)),
 xm 2 68] [2]
def c20_37 := xQ c20_36 xR
def c20_38 := xQ c20_35 c20_37
def c20_39 := xQ c20_17 c20_38
def c20_40 := xQ c20_1 c20_39
abbrev n_spec_IsValidMachine : Nat := 20
theorem k_spec_IsValidMachine : Known Pr mu n_spec_IsValidMachine (c20_40 ()) [.t 2] Go.Proofs.Tryz.f20.ntmps := .of [(0, [1], [], [], []), (1, [1,3], [], [], []), (2, [1,3,10], [], [], []), (4, [1,3,19], [], [], []), (5, [2], [], [], []), (3, [1,3], [], [], []), (6, [1,4], [], [], []), (7, [1,4,24], [], [], []), (9, [1,4,5], [], [], []), (10, [1,4,64], [[],[],[],[],[],[],[],[],[],[],[],[],[],[],[],[],[],[],[],[],[],[],[],[],[],[],[],[],[21,22,23,24,25,26,27],[21,22,23,24,25,26,27]], [], []), (11, [2], [], [], []), (8, [1,4], [], [], []), (12, [2], [], [], [])] hm Go.Proofs.Tryz.func20
def c21_1 := xG [xo 1 (.box (xt 0)),
 xo 2 (.mv (.const (.string ⟨#[]⟩)))] [1]
def c21_2 := xG [xo 4 (.ld (xt 1) 6 true),
 xo 5 (.call 17 [xt 4]),
 xo 6 (.not (xt 5))] [1,6]
def c21_3 := xG [xo 2 (.mv (.const (.string ⟨#[]⟩)))] [2]
def c21_4 := xQ c21_3 xR
def c21_5 := xC 6 c21_4 xS
def c21_6 := xQ c21_2 c21_5
def c21_7 := xG [xo 7 (.fa (xt 1) 0),
 xo 8 (.ld (xt 7) 1 false),
 xo 9 (.call 49 [xt 8]),
 xo 10 (.bin .add (xt 9) (.const (.string ⟨#[46]⟩))),
 ⟨(some 11), .fa (xt 1) 1, none, [0, 1, 2, 3]⟩,
 ⟨(some 12), .ld (xt 11) 1 false, none, [0, 1, 2, 3]⟩,
 ⟨(some 13), .call 49 [xt 12], none, [3]⟩,
 xo 14 (.bin .add (xt 10) (xt 13)),
 xo 15 (.bin .add (xt 14) (.const (.string ⟨#[32]⟩))),
 xm 3 15] [1,3]
def c21_8 := xG [xo 16 (.fa (xt 1) 2),
 xo 17 (.ld (xt 16) 1 false),
 xo 18 (.bin .eql (xt 17) (xi 1))] [1,3,18]
def c21_9 := xG [xm 19 3,
 xo 20 (.bin .add (xt 19) (.const (.string ⟨#[119, 114, 105, 116, 101, 32]⟩))),
 ⟨(some 21), .fa (xt 1) 3, none, [0, 1]⟩,
 ⟨(some 22), .ld (xt 21) 1 false, none, [0, 1]⟩,
 ⟨(some 23), .call 49 [xt 22], none, [0, 1]⟩,
 xo 24 (.bin .add (xt 20) (xt 23)),
 xo 25 (.bin .add (xt 24) (.const (.string ⟨#[32]⟩))),
 ⟨(some 26), .fa (xt 1) 5, none, [0, 1, 2, 3, 4, 5, 6]⟩,
 ⟨(some 27), .ld (xt 26) 1 false, none, [0, 1, 2, 3, 4, 5, 6]⟩,
 ⟨(some 28), .call 49 [xt 27], none, [0, 1, 5, 6]⟩,
 xo 29 (.bin .add (xt 25) (xt 28)),
 xm 2 29] [2]
def c21_10 := xQ c21_9 xR
def c21_11 := xC 18 c21_10 xS
def c21_12 := xQ c21_8 c21_11
def c21_13 := xG [xm 30 3,
 xo 31 (.bin .add (xt 30) (.const (.string ⟨#[115, 119, 97, 112, 32]⟩))),
 ⟨(some 32), .fa (xt 1) 3, none, [0, 1]⟩,
 ⟨(some 33), .ld (xt 32) 1 false, none, [0, 1]⟩,
 ⟨(some 34), .call 49 [xt 33], none, [0, 1]⟩,
 xo 35 (.bin .add (xt 31) (xt 34)),
 xo 36 (.bin .add (xt 35) (.const (.string ⟨#[32]⟩))),
 ⟨(some 37), .fa (xt 1) 4, none, [0, 1, 2, 3, 4, 5, 6]⟩,
 ⟨(some 38), .ld (xt 37) 1 false, none, [0, 1, 2, 3, 4, 5, 6]⟩,
 ⟨(some 39), .call 49 [xt 38], none, [0, 1, 5, 6]⟩,
 xo 40 (.bin .add (xt 36) (xt 39)),
 xo 41 (.bin .add (xt 40) (.const (.string ⟨#[32]⟩))),
 ⟨(some 42), .fa (xt 1) 5, none, [0, 1, 2, 3, 4, 5, 6, 7, 8, 9, 10, 11]⟩,
 ⟨(some 43), .ld (xt 42) 1 false, none, [0, 1, 2, 3, 4, 5, 6, 7, 8, 9, 10, 11]⟩,
 ⟨(some 44), .call 49 [xt 43], none, [0, 1, 5, 6, 10, 11]⟩,
 xo 45 (.bin .add (xt 41) (xt 44)),
 xm 2 45] [2]
def c21_14 := xQ c21_13 xR
def c21_15 := xQ c21_12 c21_14
def c21_16 := xQ c21_7 c21_15
def c21_17 := xQ c21_6 c21_16
def c21_18 := xQ c21_1 c21_17
abbrev n_spec_FormatOp : Nat := 21
theorem k_spec_FormatOp : Known Pr mu n_spec_FormatOp (c21_18 ()) [.t 2] Go.Proofs.Tryz.f21.ntmps := .of [(0, [1], [], [], []), (1, [1,6], [], [], []), (2, [2], [], [], []), (3, [1,3], [[],[],[],[],[0,1,2,3],[0,1,2,3],[3]], [], []), (4, [1,3,18], [], [], []), (5, [2], [[],[],[0,1],[0,1],[0,1],[],[],[0,1,2,3,4,5,6],[0,1,2,3,4,5,6],[0,1,5,6]], [], []), (6, [2], [[],[],[0,1],[0,1],[0,1],[],[],[0,1,2,3,4,5,6],[0,1,2,3,4,5,6],[0,1,5,6],[],[],[0,1,2,3,4,5,6,7,8,9,10,11],[0,1,2,3,4,5,6,7,8,9,10,11],[0,1,5,6,10,11]], [], [])] hm Go.Proofs.Tryz.func21
def c22_1 := xG [xo 2 (.mv (.const (.string ⟨#[]⟩)))] [0]
def c22_2 := xG [xm 5 0,
 xo 6 (.call 18 [xt 5]),
 xo 7 (.not (xt 6))] [0,7]
def c22_3 := xG [xo 2 (.mv (.const (.string ⟨#[]⟩)))] [2]
def c22_4 := xQ c22_3 xR
def c22_5 := xC 7 c22_4 xS
def c22_6 := xQ c22_2 c22_5
def c22_7 := xG [xm 8 0,
 xo 9 (.len false (xt 8)),
 xo 10 (.bin .eql (xt 9) (xi 0))] [0,10]
def c22_8 := xG [xo 2 (.mv (.const (.string ⟨#[110, 111, 110, 101]⟩)))] [2]
def c22_9 := xQ c22_8 xR
def c22_10 := xC 10 c22_9 xS
def c22_11 := xQ c22_7 c22_10
def c22_12 := xG [xo 3 (.mv (.const (.string ⟨#[]⟩)))] [0,3]
def c22_13 := xG [xo 4 (.mv (xi 0))] [0,3,4]
def c22_14 := xG [xm 11 4,
 xm 12 0,
 xo 13 (.len false (xt 12)),
 xo 14 (.bin .lss (xt 11) (xt 13))] [0,3,4,14]
def c22_15 := xC 14 xS (xE 0)
def c22_16 := xQ c22_14 c22_15
def c22_17 := xG [xm 17 4,
 xo 18 (.bin .gtr (xt 17) (xi 0))] [0,3,4,18]
def c22_18 := xG [xm 19 3,
 xo 20 (.bin .add (xt 19) (.const (.string ⟨#[59]⟩))),
 xm 3 20] [0,3,4]
def c22_19 := xC 18 c22_18 xS
def c22_20 := xQ c22_17 c22_19
def c22_21 := xG [xm 21 3,
 xm 22 0,
 xm 23 4,
 ⟨(some 24), .ia (xt 22) (xt 23) 7, none, [0]⟩,
 ⟨(some 25), .fa (xt 24) 0, none, [0]⟩,
 ⟨(some 26), .ld (xt 25) 1 false, none, [0]⟩,
 ⟨(some 27), .call 49 [xt 26], none, [0]⟩,
 xo 28 (.bin .add (xt 21) (xt 27)),
 xo 29 (.bin .add (xt 28) (.const (.string ⟨#[58]⟩))),
 xm 30 0,
 xm 31 4,
 ⟨(some 32), .ia (xt 30) (xt 31) 7, none, [0, 1, 2, 3, 4, 5, 6, 7, 8]⟩,
 ⟨(some 33), .fa (xt 32) 1, none, [0, 1, 2, 3, 4, 5, 6, 7, 8]⟩,
 ⟨(some 34), .ld (xt 33) 6 true, none, [0, 1, 2, 3, 4, 5, 6, 7, 8]⟩,
 ⟨(some 35), .call 21 [xt 34], none, [0, 7, 8]⟩,
 xo 36 (.bin .add (xt 29) (xt 35)),
 xm 3 36] [0,3,4]
def c22_22 := xQ c22_20 c22_21
def c22_23 := xB 1 c22_22
def c22_24 := xG [xm 15 4,
 xo 16 (.bin .add (xt 15) (xi 1)),
 xm 4 16] [0,3,4]
def c22_25 := xQ c22_23 c22_24
def c22_26 := xQ c22_16 c22_25
def c22_27 := xL c22_26
def c22_28 := xB 0 c22_27
def c22_29 := xQ c22_13 c22_28
def c22_30 := xG [xm 37 3,
 xm 2 37] [2]
def c22_31 := xQ c22_30 xR
def c22_32 := xQ c22_29 c22_31
def c22_33 := xQ c22_12 c22_32
def c22_34 := xQ c22_11 c22_33
def c22_35 := xQ c22_6 c22_34
def c22_36 := xQ c22_1 c22_35
abbrev n_spec_FormatLog : Nat := 22
theorem k_spec_FormatLog : Known Pr mu n_spec_FormatLog (c22_36 ()) [.t 2] Go.Proofs.Tryz.f22.ntmps := .of [(0, [0], [], [], []), (1, [0,7], [], [], []), (2, [2], [], [], []), (3, [0,10], [], [], []), (4, [2], [], [], []), (5, [0,3], [], [], []), (6, [0,3,4], [], [], []), (7, [0,3,4,14], [], [], []), (9, [0,3,4,18], [], [], []), (10, [0,3,4], [], [], []), (11, [0,3,4], [[],[],[],[0],[0],[0],[0],[],[],[],[],[0,1,2,3,4,5,6,7,8],[0,1,2,3,4,5,6,7,8],[0,1,2,3,4,5,6,7,8],[0,7,8]], [], []), (8, [0,3,4], [], [], []), (12, [2], [], [], [])] hm Go.Proofs.Tryz.func22
def c23_1 := xG [xo 1 (.box (xt 0)),
 xo 2 (.mv (.const (.string ⟨#[]⟩)))] [1]
def c23_2 := xG [xo 3 (.ld (xt 1) 4 true),
 xo 4 (.call 19 [xt 3]),
 xo 5 (.not (xt 4))] [1,5]
def c23_3 := xG [xo 2 (.mv (.const (.string ⟨#[]⟩)))] [2]
def c23_4 := xQ c23_3 xR
def c23_5 := xC 5 c23_4 xS
def c23_6 := xQ c23_2 c23_5
def c23_7 := xG [xo 6 (.fa (xt 1) 0),
 xo 7 (.ld (xt 6) 1 false),
 xo 8 (.call 49 [xt 7]),
 xo 9 (.bin .add (xt 8) (.const (.string ⟨#[32]⟩))),
 ⟨(some 10), .fa (xt 1) 1, none, [0, 1, 2, 3]⟩,
 ⟨(some 11), .ld (xt 10) 1 false, none, [0, 1, 2, 3]⟩,
 ⟨(some 12), .call 49 [xt 11], none, [3]⟩,
 xo 13 (.bin .add (xt 9) (xt 12)),
 xo 14 (.bin .add (xt 13) (.const (.string ⟨#[32]⟩))),
 ⟨(some 15), .fa (xt 1) 2, none, [0, 1, 2, 3, 4, 5, 6, 7, 8]⟩,
 ⟨(some 16), .ld (xt 15) 1 false, none, [0, 1, 2, 3, 4, 5, 6, 7, 8]⟩,
 ⟨(some 17), .call 50 [xt 16], none, [3, 7, 8]⟩,
 xo 18 (.bin .add (xt 14) (xt 17)),
 xo 19 (.bin .add (xt 18) (.const (.string ⟨#[32]⟩))),
 ⟨(some 20), .fa (xt 1) 3, none, [0, 1, 2, 3, 4, 5, 6, 7, 8, 9, 10, 11, 12, 13]⟩,
 ⟨(some 21), .ld (xt 20) 1 false, none, [0, 1, 2, 3, 4, 5, 6, 7, 8, 9, 10, 11, 12, 13]⟩,
 ⟨(some 22), .call 50 [xt 21], none, [3, 7, 8, 12, 13]⟩,
 xo 23 (.bin .add (xt 19) (xt 22)),
 xm 2 23] [2]
def c23_8 := xQ c23_7 xR
def c23_9 := xQ c23_6 c23_8
def c23_10 := xQ c23_1 c23_9
abbrev n_spec_FormatConfig : Nat := 23
theorem k_spec_FormatConfig : Known Pr mu n_spec_FormatConfig (c23_10 ()) [.t 2] Go.Proofs.Tryz.f23.ntmps := .of [(0, [1], [], [], []), (1, [1,5], [], [], []), (2, [2], [], [], []), (3, [2], [[],[],[],[],[0,1,2,3],[0,1,2,3],[3],[],[],[0,1,2,3,4,5,6,7,8],[0,1,2,3,4,5,6,7,8],[3,7,8],[],[],[0,1,2,3,4,5,6,7,8,9,10,11,12,13],[0,1,2,3,4,5,6,7,8,9,10,11,12,13],[3,7,8,12,13]], [], [])] hm Go.Proofs.Tryz.func23
def c24_1 := xG [xo 1 (.box (xt 0)),
 xo 2 (.mv (.const (.string ⟨#[]⟩)))] [1]
def c24_2 := xG [xo 8 (.ld (xt 1) 2 true),
 xo 9 (.call 20 [xt 8]),
 xo 10 (.not (xt 9))] [1,10]
def c24_3 := xG [xo 2 (.mv (.const (.string ⟨#[]⟩)))] [2]
def c24_4 := xQ c24_3 xR
def c24_5 := xC 10 c24_4 xS
def c24_6 := xQ c24_2 c24_5
def c24_7 := xG [xo 3 (.mv (.const (.string ⟨#[]⟩)))] [1,3]
def c24_8 := xG [xo 4 (.mv (xi 0))] [1,3,4]
def c24_9 := xG [xm 11 4,
 xo 12 (.fa (xt 1) 0),
 xo 13 (.ld (xt 12) 1 false),
 xo 14 (.len false (xt 13)),
 xo 15 (.bin .lss (xt 11) (xt 14))] [1,3,4,15]
def c24_10 := xC 15 xS (xE 0)
def c24_11 := xQ c24_9 c24_10
def c24_12 := xG [xm 18 3,
 xo 19 (.fa (xt 1) 0),
 xo 20 (.ld (xt 19) 1 false),
 xm 21 4,
 xo 22 (.ia (xt 20) (xt 21) 1),
 xo 23 (.ld (xt 22) 1 false),
 xo 24 (.call 49 [xt 23]),
 xo 25 (.bin .add (xt 18) (xt 24)),
 xm 3 25] [1,3,4]
def c24_13 := xB 1 c24_12
def c24_14 := xG [xm 16 4,
 xo 17 (.bin .add (xt 16) (xi 1)),
 xm 4 17] [1,3,4]
def c24_15 := xQ c24_13 c24_14
def c24_16 := xQ c24_11 c24_15
def c24_17 := xL c24_16
def c24_18 := xB 0 c24_17
def c24_19 := xQ c24_8 c24_18
def c24_20 := xG [xo 5 (.mv (xi 0))] [1,3,5]
def c24_21 := xG [xm 26 5,
 xo 27 (.fa (xt 1) 1),
 xo 28 (.ld (xt 27) 1 false),
 xo 29 (.len false (xt 28)),
 xo 30 (.bin .lss (xt 26) (xt 29))] [1,3,5,30]
def c24_22 := xC 30 xS (xE 2)
def c24_23 := xQ c24_21 c24_22
def c24_24 := xG [xo 33 (.fa (xt 1) 1),
 xo 34 (.ld (xt 33) 1 false),
 xm 35 5,
 xo 36 (.ia (xt 34) (xt 35) 4),
 xo 37 (.ld (xt 36) 4 true),
 xo 6 (.alloc [.int .i64 0, .int .i64 0, .bool false, .int .i64 0]),
 xn (.sto (xt 6) (xt 37) 4)] [1,3,5,6]
def c24_25 := xG [xo 7 (.mv (.const (.string ⟨#[45]⟩)))] [1,3,5,6,7]
def c24_26 := xG [xo 38 (.fa (xt 6) 2),
 xo 39 (.fa (xt 38) 0),
 xo 40 (.ld (xt 39) 1 false)] [1,3,5,6,7,40]
def c24_27 := xG [xo 7 (.mv (.const (.string ⟨#[43]⟩)))] [1,3,5,6,7]
def c24_28 := xC 40 c24_27 xS
def c24_29 := xQ c24_26 c24_28
def c24_30 := xG [xm 41 3,
 xo 42 (.bin .add (xt 41) (.const (.string ⟨#[32]⟩))),
 ⟨(some 43), .fa (xt 6) 0, none, [0, 1]⟩,
 ⟨(some 44), .ld (xt 43) 1 false, none, [0, 1]⟩,
 ⟨(some 45), .call 49 [xt 44], none, [0, 1]⟩,
 xo 46 (.bin .add (xt 42) (xt 45)),
 xo 47 (.bin .add (xt 46) (.const (.string ⟨#[46]⟩))),
 ⟨(some 48), .fa (xt 6) 1, none, [0, 1, 2, 3, 4, 5, 6]⟩,
 ⟨(some 49), .ld (xt 48) 1 false, none, [0, 1, 2, 3, 4, 5, 6]⟩,
 ⟨(some 50), .call 49 [xt 49], none, [0, 1, 5, 6]⟩,
 xo 51 (.bin .add (xt 47) (xt 50)),
 xm 52 7,
 xo 53 (.bin .add (xt 51) (xt 52)),
 ⟨(some 54), .fa (xt 6) 2, none, [0, 1, 2, 3, 4, 5, 6, 7, 8, 9, 10, 11, 12]⟩,
 ⟨(some 55), .fa (xt 54) 1, none, [0, 1, 2, 3, 4, 5, 6, 7, 8, 9, 10, 11, 12]⟩,
 ⟨(some 56), .ld (xt 55) 1 false, none, [0, 1, 2, 3, 4, 5, 6, 7, 8, 9, 10, 11, 12]⟩,
 ⟨(some 57), .call 49 [xt 56], none, [0, 1, 5, 6, 10, 11, 12]⟩,
 xo 58 (.bin .add (xt 53) (xt 57)),
 xm 3 58] [1,3,5]
def c24_31 := xQ c24_29 c24_30
def c24_32 := xQ c24_25 c24_31
def c24_33 := xQ c24_24 c24_32
def c24_34 := xB 3 c24_33
def c24_35 := xG [xm 31 5,
 xo 32 (.bin .add (xt 31) (xi 1)),
 xm 5 32] [1,3,5]
def c24_36 := xQ c24_34 c24_35
def c24_37 := xQ c24_23 c24_36
def c24_38 := xL c24_37
def c24_39 := xB 2 c24_38
def c24_40 := xQ c24_20 c24_39
def c24_41 := xG [xm 59 3,
 xm 2 59] [2]
def c24_42 := xQ c24_41 xR
def c24_43 := xQ c24_40 c24_42
def c24_44 := xQ c24_19 c24_43
def c24_45 := xQ c24_7 c24_44
def c24_46 := xQ c24_6 c24_45
def c24_47 := xQ c24_1 c24_46
abbrev n_spec_FormatMachine : Nat := 24
theorem k_spec_FormatMachine : Known Pr mu n_spec_FormatMachine (c24_47 ()) [.t 2] Go.Proofs.Tryz.f24.ntmps := .of [(0, [1], [], [], []), (1, [1,10], [], [], []), (2, [2], [], [], []), (3, [1,3], [], [], []), (4, [1,3,4], [], [], []), (5, [1,3,4,15], [], [], []), (7, [1,3,4], [], [], []), (6, [1,3,4], [], [], []), (8, [1,3,5], [], [], []), (9, [1,3,5,30], [], [], []), (11, [1,3,5,6], [], [], []), (12, [1,3,5,6,7], [], [], []), (13, [1,3,5,6,7,40], [], [], []), (14, [1,3,5,6,7], [], [], []), (15, [1,3,5], [[],[],[0,1],[0,1],[0,1],[],[],[0,1,2,3,4,5,6],[0,1,2,3,4,5,6],[0,1,5,6],[],[],[],[0,1,2,3,4,5,6,7,8,9,10,11,12],[0,1,2,3,4,5,6,7,8,9,10,11,12],[0,1,2,3,4,5,6,7,8,9,10,11,12],[0,1,5,6,10,11,12]], [], []), (10, [1,3,5], [], [], []), (16, [2], [], [], [])] hm Go.Proofs.Tryz.func24
def c25_1 := xG [xo 4 (.mv (xb false))] [0,1]
def c25_2 := xG [xm 5 0,
 xm 6 1,
 xo 7 (.call 51 [xt 5, xt 6]),
 xm 8 0,
 xo 9 (.len false (xt 8)),
 xo 10 (.bin .eql (xt 7) (xt 9)),
 xm 4 10] [4]
def c25_3 := xQ c25_2 xR
def c25_4 := xQ c25_1 c25_3
abbrev n_impl_IsPrefix : Nat := 25
theorem k_impl_IsPrefix : Known Pr mu n_impl_IsPrefix (c25_4 ()) [.t 4] Go.Proofs.Tryz.f25.ntmps := .of [(0, [0,1], [], [], []), (1, [4], [], [], [])] hm Go.Proofs.Tryz.func25
def c26_1 := xG [xo 2 (.box (xt 0)),
 xo 3 (.box (xt 1)),
 xo 4 (.mv (xb false))] [2,3]
def c26_2 := xG [xo 5 (.fa (xt 2) 0),
 xo 6 (.ld (xt 5) 1 false),
 xo 7 (.fa (xt 3) 0),
 xo 8 (.ld (xt 7) 1 false),
 xo 9 (.bin .eql (xt 6) (xt 8)),
 xm 10 9,
 xT 11 10 (.fa (xt 2) 1),
 xT 12 10 (.ld (xt 11) 1 false),
 xT 13 10 (.fa (xt 3) 1),
 xT 14 10 (.ld (xt 13) 1 false),
 xT 15 10 (.bin .eql (xt 12) (xt 14)),
 xo 16 (.pick (xt 10) (xt 15) (xb false)),
 xm 17 16,
 xT 18 17 (.fa (xt 2) 2),
 xT 19 17 (.ld (xt 18) 1 false),
 xT 20 17 (.fa (xt 3) 2),
 xT 21 17 (.ld (xt 20) 1 false),
 xT 22 17 (.call 52 [xt 19, xt 21]),
 xo 23 (.pick (xt 17) (xt 22) (xb false)),
 xm 24 23,
 xT 25 24 (.fa (xt 2) 3),
 xT 26 24 (.ld (xt 25) 1 false),
 xT 27 24 (.fa (xt 3) 3),
 xT 28 24 (.ld (xt 27) 1 false),
 xT 29 24 (.call 52 [xt 26, xt 28]),
 xo 30 (.pick (xt 24) (xt 29) (xb false)),
 xm 4 30] [4]
def c26_3 := xQ c26_2 xR
def c26_4 := xQ c26_1 c26_3
abbrev n_impl_EqualConfigs : Nat := 26
theorem k_impl_EqualConfigs : Known Pr mu n_impl_EqualConfigs (c26_4 ()) [.t 4] Go.Proofs.Tryz.f26.ntmps := .of [(0, [2,3], [], [], []), (1, [4], [], [], [])] hm Go.Proofs.Tryz.func26
def c27_1 := xG [xo 2 (.box (xt 0)),
 xo 3 (.box (xt 1)),
 xo 4 (.mv (xb false))] [2,3]
def c27_2 := xG [xo 5 (.fa (xt 2) 0),
 xo 6 (.ld (xt 5) 1 false),
 xo 7 (.fa (xt 3) 0),
 xo 8 (.ld (xt 7) 1 false),
 xo 9 (.call 53 [xt 6, xt 8]),
 xm 10 9,
 xT 11 10 (.fa (xt 2) 1),
 xT 12 10 (.ld (xt 11) 1 false),
 xT 13 10 (.fa (xt 3) 1),
 xT 14 10 (.ld (xt 13) 1 false),
 xT 15 10 (.call 54 [xt 12, xt 14]),
 xo 16 (.pick (xt 10) (xt 15) (xb false)),
 xm 4 16] [4]
def c27_3 := xQ c27_2 xR
def c27_4 := xQ c27_1 c27_3
abbrev n_impl_EqualMachines : Nat := 27
theorem k_impl_EqualMachines : Known Pr mu n_impl_EqualMachines (c27_4 ()) [.t 4] Go.Proofs.Tryz.f27.ntmps := .of [(0, [2,3], [], [], []), (1, [4], [], [], [])] hm Go.Proofs.Tryz.func27
def c28_1 := xG [xo 2 (.alloc [.int .i64 0, .int .i64 0, .int .i64 0, .int .i64 0, .int .i64 0, .int .i64 0])] [0,2]
def c28_2 := xG [xm 4 0,
 xo 5 (.callp 55 [xt 4]),
 xo 3 (.alloc [.int .i64 0, .int .i64 0, .int .i64 0, .int .i64 0, .int .i64 0, .int .i64 0]),
 xn (.sto (xt 3) (xt 5) 6)] [0,2,3]
def c28_3 := xG [xm 6 0,
 xo 7 (.callp 56 [xt 6, xi 14])] [0,2,3,7]
def c28_4 := xG [xo 9 (.bin .eql (xt 7) (xi 0)),
 xm 8 9] [0,2,3,7,8]
def c28_5 := xG [xm 10 0,
 xo 11 (.bsl 1 3 [.int .i64 0] [(0, (xi (-1))), (1, (xi 2)), (2, (xi 3))]),
 xo 12 (.callp 57 [xt 10, xt 11]),
 xo 13 (.fa (xt 3) 0),
 xn (.sto (xt 13) (xt 12) 1)] [2,3]
def c28_6 := xG [xo 15 (.bin .eql (xt 7) (xi 1)),
 xm 14 15] [0,2,3,7,14]
def c28_7 := xG [xm 16 0,
 xo 17 (.bsl 1 3 [.int .i64 0] [(0, (xi 0)), (1, (xi 99)), (2, (xi 100))]),
 xo 18 (.callp 57 [xt 16, xt 17]),
 xo 19 (.fa (xt 3) 1),
 xn (.sto (xt 19) (xt 18) 1)] [2,3]
def c28_8 := xG [xo 21 (.bin .eql (xt 7) (xi 2)),
 xm 20 21] [0,2,3,7,20]
def c28_9 := xG [xm 22 0,
 xo 23 (.callp 56 [xt 22, xi 4]),
 xo 24 (.fa (xt 3) 2),
 xn (.sto (xt 24) (xt 23) 1)] [2,3]
def c28_10 := xG [xo 26 (.bin .eql (xt 7) (xi 3)),
 xm 25 26] [0,2,3,7,25]
def c28_11 := xG [xm 27 0,
 xo 28 (.bsl 1 2 [.int .i64 0] [(0, (xi (-1))), (1, (xi 3))]),
 xo 29 (.callp 57 [xt 27, xt 28]),
 xo 30 (.fa (xt 3) 3),
 xn (.sto (xt 30) (xt 29) 1)] [2,3]
def c28_12 := xG [xo 32 (.bin .eql (xt 7) (xi 4)),
 xm 31 32] [0,2,3,7,31]
def c28_13 := xG [xm 33 0,
 xo 34 (.bsl 1 3 [.int .i64 0] [(0, (xi (-1))), (1, (xi 9)), (2, (xi 10))]),
 xo 35 (.callp 57 [xt 33, xt 34]),
 xo 36 (.fa (xt 3) 5),
 xn (.sto (xt 36) (xt 35) 1)] [2,3]
def c28_14 := xG [xo 38 (.bin .eql (xt 7) (xi 5)),
 xm 37 38] [0,2,3,37]
def c28_15 := xG [xm 39 0,
 xo 40 (.bsl 1 4 [.int .i64 0] [(0, (xi (-1))), (1, (xi 0)), (2, (xi 9)), (3, (xi 10))]),
 xo 41 (.callp 57 [xt 39, xt 40]),
 xo 42 (.fa (xt 3) 4),
 xn (.sto (xt 42) (xt 41) 1)] [2,3]
def c28_16 := xC 37 c28_15 xS
def c28_17 := xQ c28_14 c28_16
def c28_18 := xC 31 c28_13 c28_17
def c28_19 := xQ c28_12 c28_18
def c28_20 := xC 25 c28_11 c28_19
def c28_21 := xQ c28_10 c28_20
def c28_22 := xC 20 c28_9 c28_21
def c28_23 := xQ c28_8 c28_22
def c28_24 := xC 14 c28_7 c28_23
def c28_25 := xQ c28_6 c28_24
def c28_26 := xC 8 c28_5 c28_25
def c28_27 := xQ c28_4 c28_26
def c28_28 := xB 0 c28_27
def c28_29 := xQ c28_3 c28_28
def c28_30 := xG [xo 43 (.ld (xt 3) 6 true),
 xn (.sto (xt 2) (xt 43) 6)] [2]
def c28_31 := xQ c28_30 xR
def c28_32 := xQ c28_29 c28_31
def c28_33 := xQ c28_2 c28_32
def c28_34 := xQ c28_1 c28_33
abbrev n_spec_l3Any : Nat := 28
theorem k_spec_l3Any : Known Pr mu n_spec_l3Any (c28_34 ()) [.c 2 6 true] Go.Proofs.Tryz.f28.ntmps := .of [(0, [0,2], [], [], []), (1, [0,2,3], [], [], []), (2, [0,2,3,7], [], [], []), (3, [0,2,3,7,8], [], [], []), (4, [2,3], [], [], []), (5, [0,2,3,7,14], [], [], []), (6, [2,3], [], [], []), (7, [0,2,3,7,20], [], [], []), (8, [2,3], [], [], []), (9, [0,2,3,7,25], [], [], []), (10, [2,3], [], [], []), (11, [0,2,3,7,31], [], [], []), (12, [2,3], [], [], []), (13, [0,2,3,37], [], [], []), (14, [2,3], [], [], []), (15, [2], [], [], [])] hm Go.Proofs.Tryz.func28
def c29_1 := xG [xo 2 (.mv (.const (.pointer none)))] [0]
def c29_2 := xG [xm 5 0,
 xo 6 (.len false (xt 5)),
 xo 7 (.bin .add (xi 10101) (xt 6)),
 xm 3 7] [0,3]
def c29_3 := xG [xo 4 (.mv (xi 0))] [0,3,4]
def c29_4 := xG [xm 8 4,
 xm 9 0,
 xo 10 (.len false (xt 9)),
 xo 11 (.bin .lss (xt 8) (xt 10)),
 xm 12 11,
 xT 13 12 (.mv (xt 4)),
 xT 14 12 (.bin .lss (xt 13) (xi 4000)),
 xo 15 (.pick (xt 12) (xt 14) (xb false))] [0,3,4,15]
def c29_5 := xC 15 xS (xE 0)
def c29_6 := xQ c29_4 c29_5
def c29_7 := xG [xm 18 3,
 xo 19 (.bin .mul (xt 18) (xi 131)),
 xm 20 0,
 xm 21 4,
 xo 22 (.ia (xt 20) (xt 21) 1),
 xo 23 (.ld (xt 22) 1 false),
 xo 24 (.conv .i64 (xt 23)),
 xo 25 (.bin .add (xt 19) (xt 24)),
 xo 26 (.bin .add (xt 25) (xi 7)),
 xo 27 (.bit .and (xt 26) (xi 1073741823)),
 xm 3 27] [0,3,4]
def c29_8 := xB 1 c29_7
def c29_9 := xG [xm 16 4,
 xo 17 (.bin .add (xt 16) (xi 1)),
 xm 4 17] [0,3,4]
def c29_10 := xQ c29_8 c29_9
def c29_11 := xQ c29_6 c29_10
def c29_12 := xL c29_11
def c29_13 := xB 0 c29_12
def c29_14 := xQ c29_3 c29_13
def c29_15 := xG [xm 28 0,
 xm 29 3,
 xo 30 (.bld [.slice none 0 0, .int .i64 0, .int .i64 0] [(0, 1, (xt 28)), (2, 1, (xt 29))]),
 xo 31 (.box (xt 30)),
 xm 2 31] [2]
def c29_16 := xQ c29_15 xR
def c29_17 := xQ c29_14 c29_16
def c29_18 := xQ c29_2 c29_17
def c29_19 := xQ c29_1 c29_18
abbrev n_spec_l1New : Nat := 29
theorem k_spec_l1New : Known Pr mu n_spec_l1New (c29_19 ()) [.t 2] Go.Proofs.Tryz.f29.ntmps := .of [(0, [0], [], [], []), (1, [0,3], [], [], []), (2, [0,3,4], [], [], []), (3, [0,3,4,15], [], [], []), (5, [0,3,4], [], [], []), (4, [0,3,4], [], [], []), (6, [2], [], [], [])] hm Go.Proofs.Tryz.func29
def c30_1 := xG [xo 1 (.box (xt 0)),
 xo 2 (.mv (xb false))] [1]
def c30_2 := xG [xo 3 (.fa (xt 1) 0),
 xo 4 (.ld (xt 3) 1 false),
 xo 5 (.call 58 [xt 4, xi 0, xi 2]),
 xo 6 (.not (xt 5)),
 xm 7 6,
 xF 8 7 (.fa (xt 1) 1),
 xF 9 7 (.ld (xt 8) 1 false),
 xF 10 7 (.call 58 [xt 9, xi 1, xi 99]),
 xF 11 7 (.not (xt 10)),
 xo 12 (.pick (xt 7) (xb true) (xt 11)),
 xm 13 12,
 xF 14 13 (.fa (xt 1) 3),
 xF 15 13 (.ld (xt 14) 1 false),
 xF 16 13 (.call 58 [xt 15, xi 0, xi 2]),
 xF 17 13 (.not (xt 16)),
 xo 18 (.pick (xt 13) (xb true) (xt 17)),
 xm 19 18,
 xF 20 19 (.fa (xt 1) 5),
 xF 21 19 (.ld (xt 20) 1 false),
 xF 22 19 (.call 58 [xt 21, xi 0, xi 9]),
 xF 23 19 (.not (xt 22)),
 xo 24 (.pick (xt 19) (xb true) (xt 23))] [1,24]
def c30_3 := xG [xo 2 (.mv (xb false))] [2]
def c30_4 := xQ c30_3 xR
def c30_5 := xC 24 c30_4 xS
def c30_6 := xQ c30_2 c30_5
def c30_7 := xG [xo 25 (.fa (xt 1) 2),
 xo 26 (.ld (xt 25) 1 false),
 xo 27 (.bin .eql (xt 26) (xi 1)),
 xm 28 27,
 xT 29 28 (.fa (xt 1) 4),
 xT 30 28 (.ld (xt 29) 1 false),
 xT 31 28 (.bin .eql (xt 30) (xi 0)),
 xo 32 (.pick (xt 28) (xt 31) (xb false)),
 xm 33 32,
 xF 34 33 (.fa (xt 1) 2),
 xF 35 33 (.ld (xt 34) 1 false),
 xF 36 33 (.bin .eql (xt 35) (xi 2)),
 xF 37 33 (.mv (xt 36)),
 xT 38 37 (.fa (xt 1) 4),
 xT 39 37 (.ld (xt 38) 1 false),
 xT 40 37 (.call 58 [xt 39, xi 0, xi 9]),
 xF 41 33 (.pick (xt 37) (xt 40) (xb false)),
 xo 42 (.pick (xt 33) (xb true) (xt 41)),
 xm 2 42] [2]
def c30_8 := xQ c30_7 xR
def c30_9 := xQ c30_6 c30_8
def c30_10 := xQ c30_1 c30_9
abbrev n_impl_IsValidOp : Nat := 30
theorem k_impl_IsValidOp : Known Pr mu n_impl_IsValidOp (c30_10 ()) [.t 2] Go.Proofs.Tryz.f30.ntmps := .of [(0, [1], [], [], []), (1, [1,24], [], [], []), (2, [2], [], [], []), (3, [2], [], [], [])] hm Go.Proofs.Tryz.func30
def c31_1 := xG [xo 2 (.mv (.const (.string ⟨#[]⟩)))] [0]
def c31_2 := xG [xm 3 0,
 xo 4 (.call 59 [xt 3]),
 xm 2 4] [2]
def c31_3 := xQ c31_2 xR
def c31_4 := xQ c31_1 c31_3
abbrev n_impl_FormatInt : Nat := 31
theorem k_impl_FormatInt : Known Pr mu n_impl_FormatInt (c31_4 ()) [.t 2] Go.Proofs.Tryz.f31.ntmps := .of [(0, [0], [], [], []), (1, [2], [], [], [])] hm Go.Proofs.Tryz.func31
def c32_1 := xG [xo 4 (.mv (.const (.slice none 0 0)))] [0,1]
def c32_2 := xG [xm 5 0,
 xm 6 1,
 xo 7 (.call 60 [xt 5, xt 6, xi 0, (xi (-1))]),
 xm 4 7] [4]
def c32_3 := xQ c32_2 xR
def c32_4 := xQ c32_1 c32_3
abbrev n_strings_Split : Nat := 32
theorem k_strings_Split : Known Pr mu n_strings_Split (c32_4 ()) [.t 4] Go.Proofs.Tryz.f32.ntmps := .of [(0, [0,1], [], [], []), (1, [4], [], [], [])] hm Go.Proofs.Tryz.func32
def c33_1 := xG [xo 4 (.mv (.const (.string ⟨#[]⟩))),
 xo 5 (.mv (.const (.string ⟨#[]⟩))),
 xo 6 (.mv (xb false))] [0,1]
def c33_2 := xG [xm 7 0,
 xm 8 1,
 xo 9 (.call 61 [xt 7, xt 8]),
 xo 10 (.ext (xt 9) 0),
 xo 11 (.ext (xt 9) 1),
 xo 12 (.ext (xt 9) 2),
 xm 4 10,
 xm 5 11,
 xm 6 12] [4,5,6]
def c33_3 := xQ c33_2 xR
def c33_4 := xQ c33_1 c33_3
abbrev n_strings_Cut : Nat := 33
theorem k_strings_Cut : Known Pr mu n_strings_Cut (c33_4 ()) [.t 4, .t 5, .t 6] Go.Proofs.Tryz.f33.ntmps := .of [(0, [0,1], [], [], []), (1, [4,5,6], [], [], [])] hm Go.Proofs.Tryz.func33
def c34_1 := xG [xo 2 (.mv (xi 0))] [0]
def c34_2 := xG [xm 6 0,
 xo 7 (.call 62 [xt 6]),
 xm 5 7,
 xo 8 (.ext (xt 5) 0),
 xo 9 (.ext (xt 5) 1),
 xm 3 8,
 xm 4 9] [3,4]
def c34_3 := xG [xm 10 4,
 xo 11 (.not (xt 10))] [3,11]
def c34_4 := xG [xo 2 (.mv (xi (-1)))] [2]
def c34_5 := xQ c34_4 xR
def c34_6 := xC 11 c34_5 xS
def c34_7 := xQ c34_3 c34_6
def c34_8 := xG [xm 12 3,
 xm 2 12] [2]
def c34_9 := xQ c34_8 xR
def c34_10 := xQ c34_7 c34_9
def c34_11 := xQ c34_2 c34_10
def c34_12 := xQ c34_1 c34_11
abbrev n_impl_number : Nat := 34
theorem k_impl_number : Known Pr mu n_impl_number (c34_12 ()) [.t 2] Go.Proofs.Tryz.f34.ntmps := .of [(0, [0], [], [], []), (1, [3,4], [], [], []), (2, [3,11], [], [], []), (3, [2], [], [], []), (4, [2], [], [], [])] hm Go.Proofs.Tryz.func34
def c35_1 := xG [xo 2 (.mv (.const (.slice none 0 0)))] [0]
def c35_2 := xG [xm 5 0,
 xo 6 (.callp 63 [xt 5]),
 xm 3 6] [0,3]
def c35_3 := xG [xm 7 0,
 xo 8 (.callp 56 [xt 7, xi 14])] [0,3,8]
def c35_4 := xG [xo 10 (.bin .eql (xt 8) (xi 0)),
 xm 9 10] [0,3,8,9]
def c35_5 := xG [xm 11 3,
 xm 12 0,
 xo 13 (.bsl 1 4 [.int .i64 0] [(0, (xi 0)), (1, (xi 1)), (2, (xi 20)), (3, (xi 21))]),
 xo 14 (.callp 57 [xt 12, xt 13]),
 xm 15 0,
 xo 16 (.callp 28 [xt 15]),
 xo 17 (.bld [.int .i64 0, .int .i64 0, .int .i64 0, .int .i64 0, .int .i64 0, .int .i64 0, .int .i64 0] [(0, 1, (xt 14)), (1, 6, (xt 16))]),
 xo 18 (.bsl 7 1 [.int .i64 0, .int .i64 0, .int .i64 0, .int .i64 0, .int .i64 0, .int .i64 0, .int .i64 0] [(0, (xt 17))]),
 xo 19 (.app (xt 11) (xt 18) 7 56),
 xm 3 19] [3]
def c35_6 := xG [xo 21 (.bin .eql (xt 8) (xi 1)),
 xm 20 21] [0,3,20]
def c35_7 := xG [xm 22 3,
 xo 23 (.len false (xt 22)),
 xo 24 (.bin .lss (xt 23) (xi 17))] [0,3,24]
def c35_8 := xC 24 xS (xE 1)
def c35_9 := xQ c35_7 c35_8
def c35_10 := xG [xm 25 0,
 xo 26 (.callp 55 [xt 25]),
 xo 4 (.alloc [.int .i64 0, .int .i64 0, .int .i64 0, .int .i64 0, .int .i64 0, .int .i64 0]),
 xn (.sto (xt 4) (xt 26) 6)] [0,3,4]
def c35_11 := xG [xm 27 3,
 xo 28 (.ld (xt 4) 6 true),
 xo 29 (.bld [.int .i64 0, .int .i64 0, .int .i64 0, .int .i64 0, .int .i64 0, .int .i64 0, .int .i64 0] [(0, 1, (xi 20)), (1, 6, (xt 28))]),
 xo 30 (.bsl 7 1 [.int .i64 0, .int .i64 0, .int .i64 0, .int .i64 0, .int .i64 0, .int .i64 0, .int .i64 0] [(0, (xt 29))]),
 xo 31 (.app (xt 27) (xt 30) 7 56),
 xm 3 31] [0,3]
def c35_12 := xQ c35_10 c35_11
def c35_13 := xB 2 c35_12
def c35_14 := xQ c35_9 c35_13
def c35_15 := xL c35_14
def c35_16 := xB 1 c35_15
def c35_17 := xC 20 c35_16 xS
def c35_18 := xQ c35_6 c35_17
def c35_19 := xC 9 c35_5 c35_18
def c35_20 := xQ c35_4 c35_19
def c35_21 := xB 0 c35_20
def c35_22 := xQ c35_3 c35_21
def c35_23 := xG [xm 32 3,
 xm 2 32] [2]
def c35_24 := xQ c35_23 xR
def c35_25 := xQ c35_22 c35_24
def c35_26 := xQ c35_2 c35_25
def c35_27 := xQ c35_1 c35_26
abbrev n_spec_l5Any : Nat := 35
theorem k_spec_l5Any : Known Pr mu n_spec_l5Any (c35_27 ()) [.t 2] Go.Proofs.Tryz.f35.ntmps := .of [(0, [0], [], [], []), (1, [0,3], [], [], []), (2, [0,3,8], [], [], []), (3, [0,3,8,9], [], [], []), (4, [3], [], [], []), (5, [0,3,20], [], [], []), (6, [0,3,24], [], [], []), (7, [0,3,4], [], [], []), (8, [0,3], [], [], []), (9, [2], [], [], [])] hm Go.Proofs.Tryz.func35
def c36_1 := xG [xo 2 (.mv (xb false))] [0]
def c36_2 := xG [xm 5 0,
 xo 6 (.len false (xt 5)),
 xo 7 (.mv (xi 0))] [0,5,6,7]
def c36_3 := xG [xo 8 (.bin .lss (xt 7) (xt 6))] [0,5,6,7,8]
def c36_4 := xC 8 xS (xE 0)
def c36_5 := xG [xm 9 7,
 xo 10 (.ia (xt 5) (xt 7) 7),
 xo 11 (.ld (xt 10) 7 true),
 xo 4 (.alloc [.int .i64 0, .int .i64 0, .int .i64 0, .int .i64 0, .int .i64 0, .int .i64 0, .int .i64 0]),
 xm 3 9,
 xn (.sto (xt 4) (xt 11) 7)] [0,3,4,5,6,7]
def c36_6 := xG [xo 12 (.fa (xt 4) 0),
 xo 13 (.ld (xt 12) 1 false),
 xo 14 (.call 58 [xt 13, xi 1, xi 20]),
 xo 15 (.not (xt 14)),
 xm 16 15,
 xF 17 16 (.mv (xt 3)),
 xF 18 16 (.bin .gtr (xt 17) (xi 0)),
 xF 19 16 (.mv (xt 18)),
 xT 20 19 (.fa (xt 4) 0),
 xT 21 19 (.ld (xt 20) 1 false),
 xT 22 19 (.mv (xt 0)),
 xT 23 19 (.mv (xt 3)),
 xT 24 19 (.bin .sub (xt 23) (xi 1)),
 ⟨(some 25), .ia (xt 22) (xt 24) 7, (some (19, true)), [8, 9]⟩,
 ⟨(some 26), .fa (xt 25) 0, (some (19, true)), [8, 9]⟩,
 ⟨(some 27), .ld (xt 26) 1 false, (some (19, true)), [8, 9]⟩,
 xT 28 19 (.bin .lss (xt 21) (xt 27)),
 xF 29 16 (.pick (xt 19) (xt 28) (xb false)),
 xo 30 (.pick (xt 16) (xb true) (xt 29)),
 xm 31 30,
 xF 32 31 (.fa (xt 4) 1),
 xF 33 31 (.ld (xt 32) 6 true),
 xF 34 31 (.call 30 [xt 33]),
 xF 35 31 (.not (xt 34)),
 xo 36 (.pick (xt 31) (xb true) (xt 35))] [0,5,6,7,36]
def c36_7 := xG [xo 2 (.mv (xb false))] [2]
def c36_8 := xQ c36_7 xR
def c36_9 := xC 36 c36_8 xS
def c36_10 := xQ c36_6 c36_9
def c36_11 := xQ c36_5 c36_10
def c36_12 := xB 1 c36_11
def c36_13 := xG [xo 37 (.bin .add (xt 7) (xi 1)),
 xm 7 37] [0,5,6,7]
def c36_14 := xQ c36_12 c36_13
def c36_15 := xQ c36_4 c36_14
def c36_16 := xQ c36_3 c36_15
def c36_17 := xL c36_16
def c36_18 := xB 0 c36_17
def c36_19 := xQ c36_2 c36_18
def c36_20 := xG [xm 38 0,
 xo 39 (.len false (xt 38)),
 xo 40 (.bin .leq (xt 39) (xi 16)),
 xm 2 40] [2]
def c36_21 := xQ c36_20 xR
def c36_22 := xQ c36_19 c36_21
def c36_23 := xQ c36_1 c36_22
abbrev n_impl_IsLog : Nat := 36
theorem k_impl_IsLog : Known Pr mu n_impl_IsLog (c36_23 ()) [.t 2] Go.Proofs.Tryz.f36.ntmps := .of [(0, [0], [], [], []), (1, [0,5,6,7], [], [], []), (2, [0,5,6,7,8], [], [], []), (3, [0,3,4,5,6,7], [], [], []), (4, [0,5,6,7,36], [[],[],[],[],[],[],[],[],[],[],[],[],[],[8,9],[8,9],[8,9]], [], []), (5, [2], [], [], []), (6, [0,5,6,7], [], [], []), (7, [2], [], [], [])] hm Go.Proofs.Tryz.func36
def c38_1 := xG [xo 2 (.alloc [.int .i64 0, .int .i64 0, .slice none 0 0, .slice none 0 0])] [0,2]
def c38_2 := xG [xm 4 0,
 xm 5 0,
 xo 6 (.callp 56 [xt 5, xi 4]),
 xo 7 (.bin .add (xi 1) (xt 6)),
 xo 8 (.callp 67 [xt 4, xt 7]),
 xo 3 (.alloc [.int .i64 0, .int .i64 0, .slice none 0 0, .slice none 0 0]),
 xn (.sto (xt 3) (xt 8) 4)] [0,2,3]
def c38_3 := xG [xm 9 0,
 xo 10 (.callp 56 [xt 9, xi 14])] [0,2,3,10]
def c38_4 := xG [xo 12 (.bin .eql (xt 10) (xi 0)),
 xm 11 12] [0,2,3,10,11]
def c38_5 := xG [xm 13 0,
 xo 14 (.bsl 1 3 [.int .i64 0] [(0, (xi 0)), (1, (xi 20)), (2, (xi 21))]),
 xo 15 (.callp 57 [xt 13, xt 14]),
 xo 16 (.fa (xt 3) 0),
 xn (.sto (xt 16) (xt 15) 1)] [2,3]
def c38_6 := xG [xo 18 (.bin .eql (xt 10) (xi 1)),
 xm 17 18] [0,2,3,10,17]
def c38_7 := xG [xm 19 0,
 xo 20 (.callp 56 [xt 19, xi 7]),
 xo 21 (.bin .sub (xt 20) (xi 1)),
 xo 22 (.fa (xt 3) 1),
 xn (.sto (xt 22) (xt 21) 1)] [2,3]
def c38_8 := xG [xo 24 (.bin .eql (xt 10) (xi 2)),
 xm 23 24] [0,2,3,10,23]
def c38_9 := xG [xm 25 0,
 xo 26 (.callp 68 [xt 25]),
 xo 27 (.fa (xt 3) 2),
 xn (.sto (xt 27) (xt 26) 1)] [2,3]
def c38_10 := xG [xo 29 (.bin .eql (xt 10) (xi 3)),
 xm 28 29] [0,2,3,28]
def c38_11 := xG [xm 30 0,
 xo 31 (.callp 68 [xt 30]),
 xo 32 (.fa (xt 3) 3),
 xn (.sto (xt 32) (xt 31) 1)] [2,3]
def c38_12 := xC 28 c38_11 xS
def c38_13 := xQ c38_10 c38_12
def c38_14 := xC 23 c38_9 c38_13
def c38_15 := xQ c38_8 c38_14
def c38_16 := xC 17 c38_7 c38_15
def c38_17 := xQ c38_6 c38_16
def c38_18 := xC 11 c38_5 c38_17
def c38_19 := xQ c38_4 c38_18
def c38_20 := xB 0 c38_19
def c38_21 := xQ c38_3 c38_20
def c38_22 := xG [xo 33 (.ld (xt 3) 4 true),
 xn (.sto (xt 2) (xt 33) 4)] [2]
def c38_23 := xQ c38_22 xR
def c38_24 := xQ c38_21 c38_23
def c38_25 := xQ c38_2 c38_24
def c38_26 := xQ c38_1 c38_25
abbrev n_spec_l8Any : Nat := 38
theorem k_spec_l8Any : Known Pr mu n_spec_l8Any (c38_26 ()) [.c 2 4 true] Go.Proofs.Tryz.f38.ntmps := .of [(0, [0,2], [], [], []), (1, [0,2,3], [], [], []), (2, [0,2,3,10], [], [], []), (3, [0,2,3,10,11], [], [], []), (4, [2,3], [], [], []), (5, [0,2,3,10,17], [], [], []), (6, [2,3], [], [], []), (7, [0,2,3,10,23], [], [], []), (8, [2,3], [], [], []), (9, [0,2,3,28], [], [], []), (10, [2,3], [], [], []), (11, [2], [], [], [])] hm Go.Proofs.Tryz.func38
def c39_1 := xG [xo 1 (.box (xt 0)),
 xo 2 (.mv (xb false))] [1]
def c39_2 := xG [xo 3 (.fa (xt 1) 0),
 xo 4 (.ld (xt 3) 1 false),
 xo 5 (.call 58 [xt 4, xi 1, xi 20]),
 xm 6 5,
 xT 7 6 (.fa (xt 1) 2),
 xT 8 6 (.ld (xt 7) 1 false),
 xT 9 6 (.call 69 [xt 8]),
 xo 10 (.pick (xt 6) (xt 9) (xb false)),
 xm 11 10,
 xT 12 11 (.fa (xt 1) 3),
 xT 13 11 (.ld (xt 12) 1 false),
 xT 14 11 (.call 69 [xt 13]),
 xo 15 (.pick (xt 11) (xt 14) (xb false)),
 xm 16 15,
 xT 17 16 (.fa (xt 1) 2),
 xT 18 16 (.ld (xt 17) 1 false),
 xT 19 16 (.fa (xt 1) 1),
 xT 20 16 (.ld (xt 19) 1 false),
 xT 21 16 (.call 70 [xt 18, xt 20]),
 xo 22 (.pick (xt 16) (xt 21) (xb false)),
 xm 23 22,
 xT 24 23 (.fa (xt 1) 2),
 xT 25 23 (.ld (xt 24) 1 false),
 xT 26 23 (.fa (xt 1) 3),
 xT 27 23 (.ld (xt 26) 1 false),
 xT 28 23 (.call 71 [xt 25, xt 27]),
 xT 29 23 (.len false (xt 28)),
 xT 30 23 (.bin .eql (xt 29) (xi 0)),
 xo 31 (.pick (xt 23) (xt 30) (xb false)),
 xm 2 31] [2]
def c39_3 := xQ c39_2 xR
def c39_4 := xQ c39_1 c39_3
abbrev n_impl_IsValidConfig : Nat := 39
theorem k_impl_IsValidConfig : Known Pr mu n_impl_IsValidConfig (c39_4 ()) [.t 2] Go.Proofs.Tryz.f39.ntmps := .of [(0, [1], [], [], []), (1, [2], [], [], [])] hm Go.Proofs.Tryz.func39
def c40_1 := xG [xo 2 (.mv (.const (.string ⟨#[]⟩)))] [0]
def c40_2 := xG [xm 7 0,
 xo 8 (.call 69 [xt 7]),
 xo 9 (.not (xt 8)),
 xm 6 9] [0,6]
def c40_3 := xG [xo 2 (.mv (.const (.string ⟨#[]⟩)))] [2]
def c40_4 := xQ c40_3 xR
def c40_5 := xG [xm 11 0,
 xo 12 (.len false (xt 11)),
 xo 13 (.bin .eql (xt 12) (xi 0)),
 xm 10 13] [0,10]
def c40_6 := xG [xo 2 (.mv (.const (.string ⟨#[110, 111, 110, 101]⟩)))] [2]
def c40_7 := xQ c40_6 xR
def c40_8 := xC 10 c40_7 xS
def c40_9 := xQ c40_5 c40_8
def c40_10 := xC 6 c40_4 c40_9
def c40_11 := xQ c40_2 c40_10
def c40_12 := xB 0 c40_11
def c40_13 := xG [xo 3 (.mv (.const (.string ⟨#[]⟩)))] [0,3]
def c40_14 := xG [xm 14 0,
 xo 15 (.len false (xt 14)),
 xo 16 (.mv (xi 0))] [3,14,15,16]
def c40_15 := xG [xo 17 (.bin .lss (xt 16) (xt 15))] [3,14,15,16,17]
def c40_16 := xC 17 xS (xE 1)
def c40_17 := xG [xo 18 (.ia (xt 14) (xt 16) 1),
 xo 19 (.ld (xt 18) 1 false),
 xm 5 19] [3,5,14,15,16]
def c40_18 := xG [xm 20 3,
 xm 21 5,
 xo 22 (.call 31 [xt 21]),
 xo 23 (.bin .add (xt 20) (xt 22)),
 xm 3 23] [3,14,15,16]
def c40_19 := xQ c40_17 c40_18
def c40_20 := xB 2 c40_19
def c40_21 := xG [xo 24 (.bin .add (xt 16) (xi 1)),
 xm 16 24] [3,14,15,16]
def c40_22 := xQ c40_20 c40_21
def c40_23 := xQ c40_16 c40_22
def c40_24 := xQ c40_15 c40_23
def c40_25 := xL c40_24
def c40_26 := xB 1 c40_25
def c40_27 := xQ c40_14 c40_26
def c40_28 := xG [xm 25 3,
 xm 2 25] [2]
def c40_29 := xQ c40_28 xR
def c40_30 := xQ c40_27 c40_29
def c40_31 := xQ c40_13 c40_30
def c40_32 := xQ c40_12 c40_31
def c40_33 := xQ c40_1 c40_32
abbrev n_impl_FormatServers : Nat := 40
theorem k_impl_FormatServers : Known Pr mu n_impl_FormatServers (c40_33 ()) [.t 2] Go.Proofs.Tryz.f40.ntmps := .of [(0, [0], [], [], []), (1, [0,6], [], [], []), (2, [2], [], [], []), (3, [0,10], [], [], []), (4, [2], [], [], []), (5, [0,3], [], [], []), (6, [3,14,15,16], [], [], []), (7, [3,14,15,16,17], [], [], []), (8, [3,5,14,15,16], [], [], []), (9, [3,14,15,16], [], [], []), (10, [3,14,15,16], [], [], []), (11, [2], [], [], [])] hm Go.Proofs.Tryz.func40
def c41_1 := xG [xo 2 (.mv (.const (.slice none 0 0))),
 xo 3 (.mv (xb false))] [0]
def c41_2 := xG [xo 6 (.bsl 1 0 [.int .i64 0] []),
 xm 4 6] [0,4]
def c41_3 := xG [xm 7 0,
 xo 8 (.bin .eql (xt 7) (.const (.string ⟨#[110, 111, 110, 101]⟩)))] [0,4,8]
def c41_4 := xG [xm 9 4,
 xm 2 9,
 xo 3 (.mv (xb true))] [2,3]
def c41_5 := xQ c41_4 xR
def c41_6 := xC 8 c41_5 xS
def c41_7 := xQ c41_3 c41_6
def c41_8 := xG [xm 10 0,
 xo 11 (.len true (xt 10)),
 xo 12 (.mv (xi 0))] [0,4,11,12]
def c41_9 := xG [xo 13 (.bin .lss (xt 12) (xt 11))] [0,4,11,12,13]
def c41_10 := xC 13 xS (xE 0)
def c41_11 := xG [xm 14 12,
 xm 5 14] [0,4,5,11,12]
def c41_12 := xG [xm 15 4,
 xm 16 0,
 xm 17 5,
 xo 18 (.sidx (xt 16) (xt 17)),
 xo 19 (.conv .i64 (xt 18)),
 xo 20 (.bin .sub (xt 19) (xi 48)),
 xo 21 (.bsl 1 1 [.int .i64 0] [(0, (xt 20))]),
 xo 22 (.app (xt 15) (xt 21) 1 8),
 xm 4 22] [0,4,11,12]
def c41_13 := xQ c41_11 c41_12
def c41_14 := xB 1 c41_13
def c41_15 := xG [xo 23 (.bin .add (xt 12) (xi 1)),
 xm 12 23] [0,4,11,12]
def c41_16 := xQ c41_14 c41_15
def c41_17 := xQ c41_10 c41_16
def c41_18 := xQ c41_9 c41_17
def c41_19 := xL c41_18
def c41_20 := xB 0 c41_19
def c41_21 := xQ c41_8 c41_20
def c41_22 := xG [xm 24 0,
 xo 25 (.bin .eql (xt 24) (.const (.string ⟨#[]⟩))),
 xm 26 25,
 xF 27 26 (.mv (xt 4)),
 xF 28 26 (.call 40 [xt 27]),
 xF 29 26 (.mv (xt 0)),
 xF 30 26 (.bin .neq (xt 28) (xt 29)),
 xo 31 (.pick (xt 26) (xb true) (xt 30))] [4,31]
def c41_23 := xG [xo 2 (.mv (.const (.slice none 0 0))),
 xo 3 (.mv (xb false))] [2,3]
def c41_24 := xQ c41_23 xR
def c41_25 := xC 31 c41_24 xS
def c41_26 := xQ c41_22 c41_25
def c41_27 := xG [xm 32 4,
 xm 2 32,
 xo 3 (.mv (xb true))] [2,3]
def c41_28 := xQ c41_27 xR
def c41_29 := xQ c41_26 c41_28
def c41_30 := xQ c41_21 c41_29
def c41_31 := xQ c41_7 c41_30
def c41_32 := xQ c41_2 c41_31
def c41_33 := xQ c41_1 c41_32
abbrev n_impl_ParseServers : Nat := 41
theorem k_impl_ParseServers : Known Pr mu n_impl_ParseServers (c41_33 ()) [.t 2, .t 3] Go.Proofs.Tryz.f41.ntmps := .of [(0, [0], [], [], []), (1, [0,4], [], [], []), (2, [0,4,8], [], [], []), (3, [2,3], [], [], []), (4, [0,4,11,12], [], [], []), (5, [0,4,11,12,13], [], [], []), (6, [0,4,5,11,12], [], [], []), (7, [0,4,11,12], [], [], []), (8, [0,4,11,12], [], [], []), (9, [4,31], [], [], []), (10, [2,3], [], [], []), (11, [2,3], [], [], [])] hm Go.Proofs.Tryz.func41
def c42_1 := xG [xo 2 (.alloc [.slice none 0 0, .slice none 0 0])] [0,2]
def c42_2 := xG [xm 4 0,
 xo 5 (.callp 72 [xt 4]),
 xo 3 (.alloc [.slice none 0 0, .slice none 0 0]),
 xn (.sto (xt 3) (xt 5) 2)] [0,2,3]
def c42_3 := xG [xm 6 0,
 xo 7 (.callp 56 [xt 6, xi 14])] [0,2,3,7]
def c42_4 := xG [xo 9 (.bin .eql (xt 7) (xi 0)),
 xm 8 9] [0,2,3,7,8]
def o42_4_0 : MOper := xo 10 (.faf (xt 3) 0)
def o42_4_1 : MOper := ⟨(some 11), .ld (xt 10) 1 false, none, []⟩
def o42_4_2 : MOper := xm 12 0
def o42_4_3 : MOper := ⟨(some 13), .callp 56 [xt 12, xi 3], none, []⟩
def o42_4_4 : MOper := xm 14 0
def o42_4_5 : MOper := ⟨(some 15), .bsl 1 3 [.int .i64 0] [(0, (xi (-1))), (1, (xi 9)), (2, (xi 10))], none, []⟩
def o42_4_6 : MOper := ⟨(some 16), .callp 57 [xt 14, xt 15], none, []⟩
def o42_4_7 : MOper := ⟨(some 17), .ia (xt 11) (xt 13) 1, none, []⟩
def o42_4_8 : MOper := ⟨none, .sto (xt 17) (xt 16) 1, none, []⟩
def c42_5 := xA 9 (xs 0 o42_4_4 (xs 1 o42_4_2 (xs 2 o42_4_0 (xu (xs 3 o42_4_5 (xu (xs 4 o42_4_3 (xu (xs 5 o42_4_6 (xs 6 o42_4_1 (xs 7 o42_4_7 (xs 8 o42_4_8 xf)))) (xs 5 o42_4_1 (xs 6 o42_4_6 (xs 7 o42_4_7 (xs 8 o42_4_8 xf)))))) (xs 4 o42_4_1 (xs 5 o42_4_3 (xs 6 o42_4_6 (xs 7 o42_4_7 (xs 8 o42_4_8 xf))))))) (xu (xs 3 o42_4_3 (xu (xs 4 o42_4_5 (xu (xs 5 o42_4_6 (xs 6 o42_4_1 (xs 7 o42_4_7 (xs 8 o42_4_8 xf)))) (xs 5 o42_4_1 (xs 6 o42_4_6 (xs 7 o42_4_7 (xs 8 o42_4_8 xf)))))) (xs 4 o42_4_1 (xs 5 o42_4_5 (xs 6 o42_4_6 (xs 7 o42_4_7 (xs 8 o42_4_8 xf))))))) (xs 3 o42_4_1 (xu (xs 4 o42_4_5 (xs 5 o42_4_3 (xs 6 o42_4_6 (xs 7 o42_4_7 (xs 8 o42_4_8 xf))))) (xs 4 o42_4_3 (xs 5 o42_4_5 (xs 6 o42_4_6 (xs 7 o42_4_7 (xs 8 o42_4_8 xf)))))))))))) [2,3]
def c42_6 := xG [xo 19 (.bin .eql (xt 7) (xi 1)),
 xm 18 19] [0,2,3,7,18]
def c42_7 := xG [xo 20 (.fa (xt 3) 0),
 xo 21 (.ld (xt 20) 1 false),
 xo 22 (.slc false (xt 21) (some (xi 1)) none none 1),
 xo 23 (.fa (xt 3) 0),
 xn (.sto (xt 23) (xt 22) 1)] [2,3]
def c42_8 := xG [xo 25 (.bin .eql (xt 7) (xi 2)),
 xm 24 25] [0,2,3,24]
def o42_8_0 : MOper := xo 26 (.faf (xt 3) 1)
def o42_8_1 : MOper := ⟨(some 27), .ld (xt 26) 1 false, none, []⟩
def o42_8_2 : MOper := xm 28 0
def o42_8_3 : MOper := ⟨(some 29), .callp 56 [xt 28, xi 4], none, []⟩
def o42_8_4 : MOper := xm 30 0
def o42_8_5 : MOper := ⟨(some 31), .callp 56 [xt 30, xi 3], none, []⟩
def o42_8_6 : MOper := xm 32 0
def o42_8_7 : MOper := ⟨(some 33), .bsl 1 2 [.int .i64 0] [(0, (xi 0)), (1, (xi 10))], none, []⟩
def o42_8_8 : MOper := ⟨(some 34), .callp 57 [xt 32, xt 33], none, []⟩
def o42_8_9 : MOper := ⟨(some 35), .bld [.bool false, .int .i64 0] [(1, 1, (xt 34))], none, []⟩
def o42_8_10 : MOper := ⟨(some 36), .bld [.int .i64 0, .int .i64 0, .bool false, .int .i64 0] [(0, 1, (xt 29)), (1, 1, (xt 31)), (2, 2, (xt 35))], none, []⟩
def o42_8_11 : MOper := ⟨(some 37), .bsl 4 1 [.int .i64 0, .int .i64 0, .bool false, .int .i64 0] [(0, (xt 36))], none, []⟩
def o42_8_12 : MOper := ⟨(some 38), .app (xt 27) (xt 37) 4 32, none, []⟩
def o42_8_13 : MOper := xo 39 (.faf (xt 3) 1)
def o42_8_14 : MOper := ⟨none, .sto (xt 39) (xt 38) 1, none, []⟩
def c42_9 := xA 15 (xs 0 o42_8_6 (xs 1 o42_8_4 (xs 2 o42_8_2 (xs 3 o42_8_0 (xu (xs 4 o42_8_7 (xu (xs 5 o42_8_3 (xu (xs 6 o42_8_5 (xu (xs 7 o42_8_8 (xu (xs 8 o42_8_9 (xu (xs 9 o42_8_10 (xu (xs 10 o42_8_11 (xs 11 o42_8_1 (xs 12 o42_8_12 (xs 13 o42_8_13 (xs 14 o42_8_14 xf))))) (xs 10 o42_8_1 (xs 11 o42_8_11 (xs 12 o42_8_12 (xs 13 o42_8_13 (xs 14 o42_8_14 xf))))))) (xs 9 o42_8_1 (xs 10 o42_8_10 (xs 11 o42_8_11 (xs 12 o42_8_12 (xs 13 o42_8_13 (xs 14 o42_8_14 xf)))))))) (xs 8 o42_8_1 (xs 9 o42_8_9 (xs 10 o42_8_10 (xs 11 o42_8_11 (xs 12 o42_8_12 (xs 13 o42_8_13 (xs 14 o42_8_14 xf))))))))) (xs 7 o42_8_1 (xs 8 o42_8_8 (xs 9 o42_8_9 (xs 10 o42_8_10 (xs 11 o42_8_11 (xs 12 o42_8_12 (xs 13 o42_8_13 (xs 14 o42_8_14 xf)))))))))) (xs 6 o42_8_1 (xs 7 o42_8_5 (xs 8 o42_8_8 (xs 9 o42_8_9 (xs 10 o42_8_10 (xs 11 o42_8_11 (xs 12 o42_8_12 (xs 13 o42_8_13 (xs 14 o42_8_14 xf))))))))))) (xs 5 o42_8_1 (xs 6 o42_8_3 (xs 7 o42_8_5 (xs 8 o42_8_8 (xs 9 o42_8_9 (xs 10 o42_8_10 (xs 11 o42_8_11 (xs 12 o42_8_12 (xs 13 o42_8_13 (xs 14 o42_8_14 xf)))))))))))) (xu (xs 4 o42_8_3 (xu (xs 5 o42_8_7 (xu (xs 6 o42_8_5 (xu (xs 7 o42_8_8 (xu (xs 8 o42_8_9 (xu (xs 9 o42_8_10 (xu (xs 10 o42_8_11 (xs 11 o42_8_1 (xs 12 o42_8_12 (xs 13 o42_8_13 (xs 14 o42_8_14 xf))))) (xs 10 o42_8_1 (xs 11 o42_8_11 (xs 12 o42_8_12 (xs 13 o42_8_13 (xs 14 o42_8_14 xf))))))) (xs 9 o42_8_1 (xs 10 o42_8_10 (xs 11 o42_8_11 (xs 12 o42_8_12 (xs 13 o42_8_13 (xs 14 o42_8_14 xf)))))))) (xs 8 o42_8_1 (xs 9 o42_8_9 (xs 10 o42_8_10 (xs 11 o42_8_11 (xs 12 o42_8_12 (xs 13 o42_8_13 (xs 14 o42_8_14 xf))))))))) (xs 7 o42_8_1 (xs 8 o42_8_8 (xs 9 o42_8_9 (xs 10 o42_8_10 (xs 11 o42_8_11 (xs 12 o42_8_12 (xs 13 o42_8_13 (xs 14 o42_8_14 xf)))))))))) (xs 6 o42_8_1 (xs 7 o42_8_5 (xs 8 o42_8_8 (xs 9 o42_8_9 (xs 10 o42_8_10 (xs 11 o42_8_11 (xs 12 o42_8_12 (xs 13 o42_8_13 (xs 14 o42_8_14 xf))))))))))) (xu (xs 5 o42_8_5 (xu (xs 6 o42_8_7 (xu (xs 7 o42_8_8 (xu (xs 8 o42_8_9 (xu (xs 9 o42_8_10 (xu (xs 10 o42_8_11 (xs 11 o42_8_1 (xs 12 o42_8_12 (xs 13 o42_8_13 (xs 14 o42_8_14 xf))))) (xs 10 o42_8_1 (xs 11 o42_8_11 (xs 12 o42_8_12 (xs 13 o42_8_13 (xs 14 o42_8_14 xf))))))) (xs 9 o42_8_1 (xs 10 o42_8_10 (xs 11 o42_8_11 (xs 12 o42_8_12 (xs 13 o42_8_13 (xs 14 o42_8_14 xf)))))))) (xs 8 o42_8_1 (xs 9 o42_8_9 (xs 10 o42_8_10 (xs 11 o42_8_11 (xs 12 o42_8_12 (xs 13 o42_8_13 (xs 14 o42_8_14 xf))))))))) (xs 7 o42_8_1 (xs 8 o42_8_8 (xs 9 o42_8_9 (xs 10 o42_8_10 (xs 11 o42_8_11 (xs 12 o42_8_12 (xs 13 o42_8_13 (xs 14 o42_8_14 xf)))))))))) (xs 6 o42_8_1 (xs 7 o42_8_7 (xs 8 o42_8_8 (xs 9 o42_8_9 (xs 10 o42_8_10 (xs 11 o42_8_11 (xs 12 o42_8_12 (xs 13 o42_8_13 (xs 14 o42_8_14 xf))))))))))) (xs 5 o42_8_1 (xu (xs 6 o42_8_7 (xs 7 o42_8_5 (xs 8 o42_8_8 (xs 9 o42_8_9 (xs 10 o42_8_10 (xs 11 o42_8_11 (xs 12 o42_8_12 (xs 13 o42_8_13 (xs 14 o42_8_14 xf))))))))) (xs 6 o42_8_5 (xs 7 o42_8_7 (xs 8 o42_8_8 (xs 9 o42_8_9 (xs 10 o42_8_10 (xs 11 o42_8_11 (xs 12 o42_8_12 (xs 13 o42_8_13 (xs 14 o42_8_14 xf)))))))))))))) (xs 4 o42_8_1 (xu (xs 5 o42_8_7 (xs 6 o42_8_3 (xs 7 o42_8_5 (xs 8 o42_8_8 (xs 9 o42_8_9 (xs 10 o42_8_10 (xs 11 o42_8_11 (xs 12 o42_8_12 (xs 13 o42_8_13 (xs 14 o42_8_14 xf)))))))))) (xs 5 o42_8_3 (xu (xs 6 o42_8_7 (xs 7 o42_8_5 (xs 8 o42_8_8 (xs 9 o42_8_9 (xs 10 o42_8_10 (xs 11 o42_8_11 (xs 12 o42_8_12 (xs 13 o42_8_13 (xs 14 o42_8_14 xf))))))))) (xs 6 o42_8_5 (xs 7 o42_8_7 (xs 8 o42_8_8 (xs 9 o42_8_9 (xs 10 o42_8_10 (xs 11 o42_8_11 (xs 12 o42_8_12 (xs 13 o42_8_13 (xs 14 o42_8_14 xf))))))))))))))))))) [2,3]
def c42_10 := xC 24 c42_9 xS
def c42_11 := xQ c42_8 c42_10
def c42_12 := xC 18 c42_7 c42_11
def c42_13 := xQ c42_6 c42_12
def c42_14 := xC 8 c42_5 c42_13
def c42_15 := xQ c42_4 c42_14
def c42_16 := xB 0 c42_15
def c42_17 := xQ c42_3 c42_16
def c42_18 := xG [xo 40 (.ld (xt 3) 2 true),
 xn (.sto (xt 2) (xt 40) 2)] [2]
def c42_19 := xQ c42_18 xR
def c42_20 := xQ c42_17 c42_19
def c42_21 := xQ c42_2 c42_20
def c42_22 := xQ c42_1 c42_21
abbrev n_spec_l4Any : Nat := 42
theorem k_spec_l4Any : Known Pr mu n_spec_l4Any (c42_22 ()) [.c 2 2 true] Go.Proofs.Tryz.f42.ntmps := .of [(0, [0,2], [], [], []), (1, [0,2,3], [], [], []), (2, [0,2,3,7], [], [], []), (3, [0,2,3,7,8], [], [], []), (4, [2,3], [], [9999], [0,2,4]), (5, [0,2,3,7,18], [], [], []), (6, [2,3], [], [], []), (7, [0,2,3,24], [], [], []), (8, [2,3], [], [9999], [0,2,4,6,13]), (9, [2], [], [], [])] hm Go.Proofs.Tryz.func42
def c43_1 := xG [xo 1 (.box (xt 0)),
 xo 2 (.mv (xb false))] [1]
def c43_2 := xG [xo 5 (.fa (xt 1) 0),
 xo 6 (.ld (xt 5) 1 false),
 xo 7 (.len false (xt 6)),
 xo 8 (.bin .neq (xt 7) (xi 3)),
 xm 9 8,
 xF 10 9 (.fa (xt 1) 0),
 xF 11 9 (.ld (xt 10) 1 false),
 xF 12 9 (.call 73 [xt 11, (.func 74)]),
 xo 13 (.pick (xt 9) (xb true) (xt 12))] [1,13]
def c43_3 := xG [xo 2 (.mv (xb false))] [2]
def c43_4 := xQ c43_3 xR
def c43_5 := xC 13 c43_4 xS
def c43_6 := xQ c43_2 c43_5
def c43_7 := xG [xo 14 (.fa (xt 1) 1),
 xo 15 (.ld (xt 14) 1 false),
 xo 16 (.len false (xt 15)),
 xo 17 (.mv (xi 0))] [1,15,16,17]
def c43_8 := xG [xo 18 (.bin .lss (xt 17) (xt 16))] [1,15,16,17,18]
def c43_9 := xC 18 xS (xE 0)
def c43_10 := xG [xm 19 17,
 xo 20 (.ia (xt 15) (xt 17) 4),
 xo 21 (.ld (xt 20) 4 true),
 xo 4 (.alloc [.int .i64 0, .int .i64 0, .bool false, .int .i64 0]),
 xm 3 19,
 xn (.sto (xt 4) (xt 21) 4)] [1,3,4,15,16,17]
def c43_11 := xG [xo 22 (.fa (xt 4) 0),
 xo 23 (.ld (xt 22) 1 false),
 xo 24 (.call 58 [xt 23, xi 0, xi 2]),
 xo 25 (.not (xt 24)),
 xm 26 25,
 xF 27 26 (.mv (xt 3)),
 xF 28 26 (.bin .gtr (xt 27) (xi 0)),
 xF 29 26 (.mv (xt 28)),
 xT 30 29 (.fa (xt 4) 0),
 xT 31 29 (.ld (xt 30) 1 false),
 ⟨(some 32), .fa (xt 1) 1, (some (29, true)), [8, 9]⟩,
 ⟨(some 33), .ld (xt 32) 1 false, (some (29, true)), [8, 9]⟩,
 xT 34 29 (.mv (xt 3)),
 xT 35 29 (.bin .sub (xt 34) (xi 1)),
 ⟨(some 36), .ia (xt 33) (xt 35) 4, (some (29, true)), [8, 9]⟩,
 ⟨(some 37), .fa (xt 36) 0, (some (29, true)), [8, 9]⟩,
 ⟨(some 38), .ld (xt 37) 1 false, (some (29, true)), [8, 9]⟩,
 xT 39 29 (.bin .leq (xt 31) (xt 38)),
 xF 40 26 (.pick (xt 29) (xt 39) (xb false)),
 xo 41 (.pick (xt 26) (xb true) (xt 40)),
 xm 42 41,
 xF 43 42 (.fa (xt 4) 1),
 xF 44 42 (.ld (xt 43) 1 false),
 xF 45 42 (.call 58 [xt 44, xi 1, xi 99]),
 xF 46 42 (.not (xt 45)),
 xo 47 (.pick (xt 42) (xb true) (xt 46)),
 xm 48 47,
 xF 49 48 (.fa (xt 4) 2),
 xF 50 48 (.fa (xt 49) 1),
 xF 51 48 (.ld (xt 50) 1 false),
 xF 52 48 (.call 58 [xt 51, xi 0, xi 9]),
 xF 53 48 (.not (xt 52)),
 xo 54 (.pick (xt 48) (xb true) (xt 53))] [1,15,16,17,54]
def c43_12 := xG [xo 2 (.mv (xb false))] [2]
def c43_13 := xQ c43_12 xR
def c43_14 := xC 54 c43_13 xS
def c43_15 := xQ c43_11 c43_14
def c43_16 := xQ c43_10 c43_15
def c43_17 := xB 1 c43_16
def c43_18 := xG [xo 55 (.bin .add (xt 17) (xi 1)),
 xm 17 55] [1,15,16,17]
def c43_19 := xQ c43_17 c43_18
def c43_20 := xQ c43_9 c43_19
def c43_21 := xQ c43_8 c43_20
def c43_22 := xL c43_21
def c43_23 := xB 0 c43_22
def c43_24 := xQ c43_7 c43_23
def c43_25 := xG [xo 2 (.mv (xb true))] [2]
def c43_26 := xQ c43_25 xR
def c43_27 := xQ c43_24 c43_26
def c43_28 := xQ c43_6 c43_27
def c43_29 := xQ c43_1 c43_28
abbrev n_impl_IsValidMachine : Nat := 43
theorem k_impl_IsValidMachine : Known Pr mu n_impl_IsValidMachine (c43_29 ()) [.t 2] Go.Proofs.Tryz.f43.ntmps := .of [(0, [1], [], [], []), (1, [1,13], [], [], []), (2, [2], [], [], []), (3, [1,15,16,17], [], [], []), (4, [1,15,16,17,18], [], [], []), (5, [1,3,4,15,16,17], [], [], []), (6, [1,15,16,17,54], [[],[],[],[],[],[],[],[],[],[],[8,9],[8,9],[],[],[8,9],[8,9],[8,9]], [], []), (7, [2], [], [], []), (8, [1,15,16,17], [], [], []), (9, [2], [], [], [])] hm Go.Proofs.Tryz.func43
def c44_1 := xG [xo 4 (.mv (xi 0))] [0,1]
def c44_2 := xG [xm 11 1,
 xo 12 (.bin .eql (xt 11) (.const (.string ⟨#[]⟩)))] [0,1,12]
def c44_3 := xG [xo 4 (.mv (xi (-1)))] [4]
def c44_4 := xQ c44_3 xR
def c44_5 := xC 12 c44_4 xS
def c44_6 := xQ c44_2 c44_5
def c44_7 := xG [xm 13 1,
 xo 14 (.len true (xt 13)),
 xo 15 (.bin .eql (xt 14) (xi 1))] [0,1,15]
def c44_8 := xG [xm 16 1,
 xo 17 (.sidx (xt 16) (xi 0)),
 xo 18 (.conv .i32 (xt 17)),
 xm 5 18] [0,5]
def c44_9 := xG [xm 19 5,
 xo 20 (.bin .geq (xt 19) (.const (.int .i32 128)))] [0,5,20]
def c44_10 := xG [xo 5 (.mv (.const (.int .i32 65533)))] [0,5]
def c44_11 := xC 20 c44_10 xS
def c44_12 := xQ c44_9 c44_11
def c44_13 := xG [xm 21 0,
 xm 22 5,
 xo 23 (.call 75 [xt 21, xt 22]),
 xm 4 23] [4]
def c44_14 := xQ c44_13 xR
def c44_15 := xQ c44_12 c44_14
def c44_16 := xQ c44_8 c44_15
def c44_17 := xC 15 c44_16 xS
def c44_18 := xQ c44_7 c44_17
def c44_19 := xG [xm 24 0,
 xo 25 (.len true (xt 24)),
 xo 26 (.call 76 [xt 25])] [0,1,26]
def c44_20 := xG [xm 28 1,
 xo 29 (.call 77 [xt 28]),
 xm 27 29,
 xo 30 (.ext (xt 27) 0),
 xo 31 (.ext (xt 27) 1),
 xo 6 (.alloc [.bool false, .bool false, .bool false, .bool false, .bool false, .bool false, .bool false, .bool false, .bool false, .bool false, .bool false, .bool false, .bool false, .bool false, .bool false, .bool false, .bool false, .bool false, .bool false, .bool false, .bool false, .bool false, .bool false, .bool false, .bool false, .bool false, .bool false, .bool false, .bool false, .bool false, .bool false, .bool false, .bool false, .bool false, .bool false, .bool false, .bool false, .bool false, .bool false, .bool false, .bool false, .bool false, .bool false, .bool false, .bool false, .bool false, .bool false, .bool false, .bool false, .bool false, .bool false, .bool false, .bool false, .bool false, .bool false, .bool false, .bool false, .bool false, .bool false, .bool false, .bool false, .bool false, .bool false, .bool false, .bool false, .bool false, .bool false, .bool false, .bool false, .bool false, .bool false, .bool false, .bool false, .bool false, .bool false, .bool false, .bool false, .bool false, .bool false, .bool false, .bool false, .bool false, .bool false, .bool false, .bool false, .bool false, .bool false, .bool false, .bool false, .bool false, .bool false, .bool false, .bool false, .bool false, .bool false, .bool false, .bool false, .bool false, .bool false, .bool false, .bool false, .bool false, .bool false, .bool false, .bool false, .bool false, .bool false, .bool false, .bool false, .bool false, .bool false, .bool false, .bool false, .bool false, .bool false, .bool false, .bool false, .bool false, .bool false, .bool false, .bool false, .bool false, .bool false, .bool false, .bool false, .bool false, .bool false, .bool false, .bool false, .bool false, .bool false, .bool false, .bool false, .bool false, .bool false, .bool false, .bool false, .bool false, .bool false, .bool false, .bool false, .bool false, .bool false, .bool false, .bool false, .bool false, .bool false, .bool false, .bool false, .bool false, .bool false, .bool false, .bool false, .bool false, .bool false, .bool false, .bool false, .bool false, .bool false, .bool false, .bool false, .bool false, .bool false, .bool false, .bool false, .bool false, .bool false, .bool false, .bool false, .bool false, .bool false, .bool false, .bool false, .bool false, .bool false, .bool false, .bool false, .bool false, .bool false, .bool false, .bool false, .bool false, .bool false, .bool false, .bool false, .bool false, .bool false, .bool false, .bool false, .bool false, .bool false, .bool false, .bool false, .bool false, .bool false, .bool false, .bool false, .bool false, .bool false, .bool false, .bool false, .bool false, .bool false, .bool false, .bool false, .bool false, .bool false, .bool false, .bool false, .bool false, .bool false, .bool false, .bool false, .bool false, .bool false, .bool false, .bool false, .bool false, .bool false, .bool false, .bool false, .bool false, .bool false, .bool false, .bool false, .bool false, .bool false, .bool false, .bool false, .bool false, .bool false, .bool false, .bool false, .bool false, .bool false, .bool false, .bool false, .bool false, .bool false, .bool false, .bool false, .bool false, .bool false, .bool false, .bool false, .bool false, .bool false, .bool false, .bool false, .bool false, .bool false, .bool false, .bool false, .bool false, .bool false, .bool false]),
 xn (.sto (xt 6) (xt 30) 256),
 xm 7 31] [0,1,6,7]
def c44_21 := xG [xm 32 7] [0,1,6,32]
def c44_22 := xG [xo 8 (.mv (xi 0))] [0,6,8]
def c44_23 := xG [xm 33 8,
 xm 34 0,
 xo 35 (.len true (xt 34)),
 xo 36 (.bin .lss (xt 33) (xt 35))] [0,6,8,36]
def c44_24 := xC 36 xS (xE 0)
def c44_25 := xQ c44_23 c44_24
def c44_26 := xG [xm 39 0,
 xm 40 8,
 xo 41 (.sidx (xt 39) (xt 40)),
 xo 42 (.call 78 [xt 6, xt 41])] [0,6,8,42]
def c44_27 := xG [xm 43 8,
 xm 4 43] [4]
def c44_28 := xQ c44_27 xR
def c44_29 := xC 42 c44_28 xS
def c44_30 := xQ c44_26 c44_29
def c44_31 := xB 1 c44_30
def c44_32 := xG [xm 37 8,
 xo 38 (.bin .add (xt 37) (xi 1)),
 xm 8 38] [0,6,8]
def c44_33 := xQ c44_31 c44_32
def c44_34 := xQ c44_25 c44_33
def c44_35 := xL c44_34
def c44_36 := xB 0 c44_35
def c44_37 := xQ c44_22 c44_36
def c44_38 := xG [xo 4 (.mv (xi (-1)))] [4]
def c44_39 := xQ c44_38 xR
def c44_40 := xQ c44_37 c44_39
def c44_41 := xC 32 c44_40 xS
def c44_42 := xQ c44_21 c44_41
def c44_43 := xQ c44_20 c44_42
def c44_44 := xC 26 c44_43 xS
def c44_45 := xQ c44_19 c44_44
def c44_46 := xG [xm 44 0,
 xo 45 (.no)] [1,45]
def c44_47 := xG [xo 46 (.no),
 xo 47 (.ext (xt 46) 0)] [1,45,46,47]
def c44_48 := xC 47 xS (xE 2)
def c44_49 := xG [xo 48 (.ext (xt 46) 1),
 xo 49 (.ext (xt 46) 2),
 xm 9 48,
 xm 10 49] [1,9,10,45]
def c44_50 := xG [xm 50 1,
 xm 51 10,
 xo 52 (.call 75 [xt 50, xt 51]),
 xo 53 (.bin .geq (xt 52) (xi 0))] [1,9,45,53]
def c44_51 := xG [xm 54 9,
 xm 4 54] [4]
def c44_52 := xQ c44_51 xR
def c44_53 := xC 53 c44_52 xS
def c44_54 := xQ c44_50 c44_53
def c44_55 := xQ c44_49 c44_54
def c44_56 := xB 3 c44_55
def c44_57 := xQ c44_48 c44_56
def c44_58 := xQ c44_47 c44_57
def c44_59 := xL c44_58
def c44_60 := xB 2 c44_59
def c44_61 := xQ c44_46 c44_60
def c44_62 := xG [xo 4 (.mv (xi (-1)))] [4]
def c44_63 := xQ c44_62 xR
def c44_64 := xQ c44_61 c44_63
def c44_65 := xQ c44_45 c44_64
def c44_66 := xQ c44_18 c44_65
def c44_67 := xQ c44_6 c44_66
def c44_68 := xQ c44_1 c44_67
abbrev n_strings_IndexAny : Nat := 44
theorem k_strings_IndexAny : Known Pr mu n_strings_IndexAny (c44_68 ()) [.t 4] Go.Proofs.Tryz.f44.ntmps := .of [(0, [0,1], [], [], []), (1, [0,1,12], [], [], []), (2, [4], [], [], []), (3, [0,1,15], [], [], []), (4, [0,5], [], [], []), (5, [0,5,20], [], [], []), (6, [0,5], [], [], []), (7, [4], [], [], []), (8, [0,1,26], [], [], []), (9, [0,1,6,7], [], [], []), (10, [0,1,6,32], [], [], []), (11, [0,6,8], [], [], []), (12, [0,6,8,36], [], [], []), (14, [0,6,8,42], [], [], []), (15, [4], [], [], []), (13, [0,6,8], [], [], []), (16, [4], [], [], []), (17, [1,45], [], [], []), (18, [1,45,46,47], [], [], []), (19, [1,9,10,45], [], [], []), (20, [1,9,45,53], [], [], []), (21, [4], [], [], []), (22, [4], [], [], [])] hm Go.Proofs.Tryz.func44
def c45_1 := xG [xo 6 (.mv (xb false))] [0,1,2]
def c45_2 := xG [xm 7 0,
 xm 8 1,
 xo 9 (.bin .geq (xt 7) (xt 8)),
 xm 10 9,
 xT 11 10 (.mv (xt 0)),
 xT 12 10 (.mv (xt 2)),
 xT 13 10 (.bin .leq (xt 11) (xt 12)),
 xo 14 (.pick (xt 10) (xt 13) (xb false)),
 xm 6 14] [6]
def c45_3 := xQ c45_2 xR
def c45_4 := xQ c45_1 c45_3
abbrev n_spec_l1In : Nat := 45
theorem k_spec_l1In : Known Pr mu n_spec_l1In (c45_4 ()) [.t 6] Go.Proofs.Tryz.f45.ntmps := .of [(0, [0,1,2], [], [], []), (1, [6], [], [], [])] hm Go.Proofs.Tryz.func45
def c46_1 := xG [xo 2 (.mv (xb false))] [0]
def c46_2 := xG [xo 3 (.mv (xi 0))] [0,3]
def c46_3 := xG [xm 4 3,
 xm 5 0,
 xo 6 (.len false (xt 5)),
 xo 7 (.bin .lss (xt 4) (xt 6))] [0,3,7]
def c46_4 := xC 7 xS (xE 0)
def c46_5 := xQ c46_3 c46_4
def c46_6 := xG [xm 10 0,
 xm 11 3,
 xo 12 (.ia (xt 10) (xt 11) 1),
 xo 13 (.ld (xt 12) 1 false),
 xo 14 (.call 45 [xt 13, xi 0, xi 4]),
 xo 15 (.not (xt 14)),
 xm 16 15,
 xF 17 16 (.mv (xt 3)),
 xF 18 16 (.bin .gtr (xt 17) (xi 0)),
 xF 19 16 (.mv (xt 18)),
 xT 20 19 (.mv (xt 0)),
 xT 21 19 (.mv (xt 3)),
 xT 22 19 (.bin .sub (xt 21) (xi 1)),
 xT 23 19 (.ia (xt 20) (xt 22) 1),
 xT 24 19 (.ld (xt 23) 1 false),
 xT 25 19 (.mv (xt 0)),
 xT 26 19 (.mv (xt 3)),
 ⟨(some 27), .ia (xt 25) (xt 26) 1, (some (19, true)), [10, 11, 12, 13, 14]⟩,
 ⟨(some 28), .ld (xt 27) 1 false, (some (19, true)), [10, 11, 12, 13, 14]⟩,
 xT 29 19 (.bin .geq (xt 24) (xt 28)),
 xF 30 16 (.pick (xt 19) (xt 29) (xb false)),
 xo 31 (.pick (xt 16) (xb true) (xt 30))] [0,3,31]
def c46_7 := xG [xo 2 (.mv (xb false))] [2]
def c46_8 := xQ c46_7 xR
def c46_9 := xC 31 c46_8 xS
def c46_10 := xQ c46_6 c46_9
def c46_11 := xB 1 c46_10
def c46_12 := xG [xm 8 3,
 xo 9 (.bin .add (xt 8) (xi 1)),
 xm 3 9] [0,3]
def c46_13 := xQ c46_11 c46_12
def c46_14 := xQ c46_5 c46_13
def c46_15 := xL c46_14
def c46_16 := xB 0 c46_15
def c46_17 := xQ c46_2 c46_16
def c46_18 := xG [xo 2 (.mv (xb true))] [2]
def c46_19 := xQ c46_18 xR
def c46_20 := xQ c46_17 c46_19
def c46_21 := xQ c46_1 c46_20
abbrev n_spec_AreServers : Nat := 46
theorem k_spec_AreServers : Known Pr mu n_spec_AreServers (c46_21 ()) [.t 2] Go.Proofs.Tryz.f46.ntmps := .of [(0, [0], [], [], []), (1, [0,3], [], [], []), (2, [0,3,7], [], [], []), (4, [0,3,31], [[],[],[],[],[],[],[],[],[],[],[],[],[],[],[],[],[],[10,11,12,13,14],[10,11,12,13,14]], [], []), (5, [2], [], [], []), (3, [0,3], [], [], []), (6, [2], [], [], [])] hm Go.Proofs.Tryz.func46
def c47_1 := xG [xo 4 (.mv (xb false))] [0,1]
def c47_2 := xG [xo 5 (.mv (xi 0))] [0,1,5]
def c47_3 := xG [xm 6 5,
 xm 7 0,
 xo 8 (.len false (xt 7)),
 xo 9 (.bin .lss (xt 6) (xt 8))] [0,1,5,9]
def c47_4 := xC 9 xS (xE 0)
def c47_5 := xQ c47_3 c47_4
def c47_6 := xG [xm 12 0,
 xm 13 5,
 xo 14 (.ia (xt 12) (xt 13) 1),
 xo 15 (.ld (xt 14) 1 false),
 xm 16 1,
 xo 17 (.bin .eql (xt 15) (xt 16))] [0,1,5,17]
def c47_7 := xG [xo 4 (.mv (xb true))] [4]
def c47_8 := xQ c47_7 xR
def c47_9 := xC 17 c47_8 xS
def c47_10 := xQ c47_6 c47_9
def c47_11 := xB 1 c47_10
def c47_12 := xG [xm 10 5,
 xo 11 (.bin .add (xt 10) (xi 1)),
 xm 5 11] [0,1,5]
def c47_13 := xQ c47_11 c47_12
def c47_14 := xQ c47_5 c47_13
def c47_15 := xL c47_14
def c47_16 := xB 0 c47_15
def c47_17 := xQ c47_2 c47_16
def c47_18 := xG [xo 4 (.mv (xb false))] [4]
def c47_19 := xQ c47_18 xR
def c47_20 := xQ c47_17 c47_19
def c47_21 := xQ c47_1 c47_20
abbrev n_spec_HasServer : Nat := 47
theorem k_spec_HasServer : Known Pr mu n_spec_HasServer (c47_21 ()) [.t 4] Go.Proofs.Tryz.f47.ntmps := .of [(0, [0,1], [], [], []), (1, [0,1,5], [], [], []), (2, [0,1,5,9], [], [], []), (4, [0,1,5,17], [], [], []), (5, [4], [], [], []), (3, [0,1,5], [], [], []), (6, [4], [], [], [])] hm Go.Proofs.Tryz.func47
def c48_1 := xG [xo 4 (.mv (.const (.slice none 0 0)))] [0,1]
def c48_2 := xG [xo 7 (.bsl 1 0 [.int .i64 0] []),
 xm 5 7] [0,1,5]
def c48_3 := xG [xo 6 (.mv (xi 0))] [0,1,5,6]
def c48_4 := xG [xm 8 6,
 xm 9 0,
 xo 10 (.len false (xt 9)),
 xo 11 (.bin .lss (xt 8) (xt 10))] [0,1,5,6,11]
def c48_5 := xC 11 xS (xE 0)
def c48_6 := xQ c48_4 c48_5
def c48_7 := xG [xm 14 1,
 xm 15 0,
 xm 16 6,
 xo 17 (.ia (xt 15) (xt 16) 1),
 xo 18 (.ld (xt 17) 1 false),
 xo 19 (.call 47 [xt 14, xt 18])] [0,1,5,6,19]
def c48_8 := xG [xm 20 5,
 xm 21 0,
 xm 22 6,
 xo 23 (.ia (xt 21) (xt 22) 1),
 xo 24 (.ld (xt 23) 1 false),
 xo 25 (.call 79 [xt 20, xt 24]),
 xm 5 25] [0,1,5,6]
def c48_9 := xC 19 c48_8 xS
def c48_10 := xQ c48_7 c48_9
def c48_11 := xB 1 c48_10
def c48_12 := xG [xm 12 6,
 xo 13 (.bin .add (xt 12) (xi 1)),
 xm 6 13] [0,1,5,6]
def c48_13 := xQ c48_11 c48_12
def c48_14 := xQ c48_6 c48_13
def c48_15 := xL c48_14
def c48_16 := xB 0 c48_15
def c48_17 := xQ c48_3 c48_16
def c48_18 := xG [xm 26 5,
 xm 4 26] [4]
def c48_19 := xQ c48_18 xR
def c48_20 := xQ c48_17 c48_19
def c48_21 := xQ c48_2 c48_20
def c48_22 := xQ c48_1 c48_21
abbrev n_spec_CommonServers : Nat := 48
theorem k_spec_CommonServers : Known Pr mu n_spec_CommonServers (c48_22 ()) [.t 4] Go.Proofs.Tryz.f48.ntmps := .of [(0, [0,1], [], [], []), (1, [0,1,5], [], [], []), (2, [0,1,5,6], [], [], []), (3, [0,1,5,6,11], [], [], []), (5, [0,1,5,6,19], [], [], []), (6, [0,1,5,6], [], [], []), (4, [0,1,5,6], [], [], []), (7, [4], [], [], [])] hm Go.Proofs.Tryz.func48
def c49_1 := xG [xo 2 (.mv (.const (.string ⟨#[]⟩)))] [0]
def c49_2 := xG [xm 6 0,
 xo 7 (.bin .eql (xt 6) (xi 0))] [0,7]
def c49_3 := xG [xo 2 (.mv (.const (.string ⟨#[48]⟩)))] [2]
def c49_4 := xQ c49_3 xR
def c49_5 := xC 7 c49_4 xS
def c49_6 := xQ c49_2 c49_5
def c49_7 := xG [xo 3 (.mv (.const (.string ⟨#[]⟩)))] [0,3]
def c49_8 := xG [xm 8 0,
 xo 9 (.bin .lss (xt 8) (xi 0)),
 xm 4 9] [0,3,4]
def c49_9 := xG [xm 10 0,
 xo 11 (.bin .neq (xt 10) (xi 0))] [0,3,4,11]
def c49_10 := xC 11 xS (xE 0)
def c49_11 := xQ c49_9 c49_10
def c49_12 := xG [xm 12 0,
 xo 13 (.bin .rem (xt 12) (xi 10)),
 xm 5 13] [0,3,4,5]
def c49_13 := xG [xm 14 5,
 xo 15 (.bin .lss (xt 14) (xi 0))] [0,3,4,5,15]
def c49_14 := xG [xm 16 5,
 xo 17 (.neg (xt 16)),
 xm 5 17] [0,3,4,5]
def c49_15 := xC 15 c49_14 xS
def c49_16 := xQ c49_13 c49_15
def c49_17 := xG [xm 18 5,
 xo 19 (.bin .add (xi 48) (xt 18)),
 xo 20 (.conv .u8 (xt 19)),
 xo 21 (.bsl 1 1 [.int .u8 0] [(0, (xt 20))]),
 xo 22 (.cst (xt 21)),
 xm 23 3,
 xo 24 (.bin .add (xt 22) (xt 23)),
 xm 3 24] [0,3,4]
def c49_18 := xG [xm 25 0,
 xo 26 (.bin .quo (xt 25) (xi 10)),
 xm 0 26] [0,3,4]
def c49_19 := xQ c49_17 c49_18
def c49_20 := xQ c49_16 c49_19
def c49_21 := xQ c49_12 c49_20
def c49_22 := xB 1 c49_21
def c49_23 := xQ c49_11 c49_22
def c49_24 := xL c49_23
def c49_25 := xB 0 c49_24
def c49_26 := xG [xm 27 4] [3,27]
def c49_27 := xG [xm 28 3,
 xo 29 (.bin .add (.const (.string ⟨#[45]⟩)) (xt 28)),
 xm 2 29] [2]
def c49_28 := xQ c49_27 xR
def c49_29 := xC 27 c49_28 xS
def c49_30 := xQ c49_26 c49_29
def c49_31 := xG [xm 30 3,
 xm 2 30] [2]
def c49_32 := xQ c49_31 xR
def c49_33 := xQ c49_30 c49_32
def c49_34 := xQ c49_25 c49_33
def c49_35 := xQ c49_8 c49_34
def c49_36 := xQ c49_7 c49_35
def c49_37 := xQ c49_6 c49_36
def c49_38 := xQ c49_1 c49_37
abbrev n_spec_FormatInt : Nat := 49
theorem k_spec_FormatInt : Known Pr mu n_spec_FormatInt (c49_38 ()) [.t 2] Go.Proofs.Tryz.f49.ntmps := .of [(0, [0], [], [], []), (1, [0,7], [], [], []), (2, [2], [], [], []), (3, [0,3], [], [], []), (4, [0,3,4], [], [], []), (5, [0,3,4,11], [], [], []), (6, [0,3,4,5], [], [], []), (7, [0,3,4,5,15], [], [], []), (8, [0,3,4,5], [], [], []), (9, [0,3,4], [], [], []), (10, [0,3,4], [], [], []), (11, [3,27], [], [], []), (12, [2], [], [], []), (13, [2], [], [], [])] hm Go.Proofs.Tryz.func49
def c50_1 := xG [xo 2 (.mv (.const (.string ⟨#[]⟩)))] [0]
def c50_2 := xG [xm 5 0,
 xo 6 (.call 46 [xt 5]),
 xo 7 (.not (xt 6))] [0,7]
def c50_3 := xG [xo 2 (.mv (.const (.string ⟨#[]⟩)))] [2]
def c50_4 := xQ c50_3 xR
def c50_5 := xC 7 c50_4 xS
def c50_6 := xQ c50_2 c50_5
def c50_7 := xG [xm 8 0,
 xo 9 (.len false (xt 8)),
 xo 10 (.bin .eql (xt 9) (xi 0))] [0,10]
def c50_8 := xG [xo 2 (.mv (.const (.string ⟨#[110, 111, 110, 101]⟩)))] [2]
def c50_9 := xQ c50_8 xR
def c50_10 := xC 10 c50_9 xS
def c50_11 := xQ c50_7 c50_10
def c50_12 := xG [xo 3 (.mv (.const (.string ⟨#[]⟩)))] [0,3]
def c50_13 := xG [xo 4 (.mv (xi 0))] [0,3,4]
def c50_14 := xG [xm 11 4,
 xm 12 0,
 xo 13 (.len false (xt 12)),
 xo 14 (.bin .lss (xt 11) (xt 13))] [0,3,4,14]
def c50_15 := xC 14 xS (xE 0)
def c50_16 := xQ c50_14 c50_15
def c50_17 := xG [xm 17 3,
 xm 18 0,
 xm 19 4,
 xo 20 (.ia (xt 18) (xt 19) 1),
 xo 21 (.ld (xt 20) 1 false),
 xo 22 (.call 49 [xt 21]),
 xo 23 (.bin .add (xt 17) (xt 22)),
 xm 3 23] [0,3,4]
def c50_18 := xB 1 c50_17
def c50_19 := xG [xm 15 4,
 xo 16 (.bin .add (xt 15) (xi 1)),
 xm 4 16] [0,3,4]
def c50_20 := xQ c50_18 c50_19
def c50_21 := xQ c50_16 c50_20
def c50_22 := xL c50_21
def c50_23 := xB 0 c50_22
def c50_24 := xQ c50_13 c50_23
def c50_25 := xG [xm 24 3,
 xm 2 24] [2]
def c50_26 := xQ c50_25 xR
def c50_27 := xQ c50_24 c50_26
def c50_28 := xQ c50_12 c50_27
def c50_29 := xQ c50_11 c50_28
def c50_30 := xQ c50_6 c50_29
def c50_31 := xQ c50_1 c50_30
abbrev n_spec_FormatServers : Nat := 50
theorem k_spec_FormatServers : Known Pr mu n_spec_FormatServers (c50_31 ()) [.t 2] Go.Proofs.Tryz.f50.ntmps := .of [(0, [0], [], [], []), (1, [0,7], [], [], []), (2, [2], [], [], []), (3, [0,10], [], [], []), (4, [2], [], [], []), (5, [0,3], [], [], []), (6, [0,3,4], [], [], []), (7, [0,3,4,14], [], [], []), (9, [0,3,4], [], [], []), (8, [0,3,4], [], [], []), (10, [2], [], [], [])] hm Go.Proofs.Tryz.func50
def c51_1 := xG [xo 4 (.mv (xi 0))] [0,1]
def c51_2 := xG [xo 5 (.mv (xi 0))] [0,1,5]
def c51_3 := xG [xm 6 5,
 xm 7 0,
 xo 8 (.len false (xt 7)),
 xo 9 (.bin .lss (xt 6) (xt 8)),
 xm 10 9,
 xT 11 10 (.mv (xt 5)),
 xT 12 10 (.mv (xt 1)),
 xT 13 10 (.len false (xt 12)),
 xT 14 10 (.bin .lss (xt 11) (xt 13)),
 xo 15 (.pick (xt 10) (xt 14) (xb false)),
 xm 16 15,
 xT 17 16 (.mv (xt 0)),
 xT 18 16 (.mv (xt 5)),
 xT 19 16 (.ia (xt 17) (xt 18) 7),
 xT 20 16 (.ld (xt 19) 7 true),
 xT 21 16 (.mv (xt 1)),
 xT 22 16 (.mv (xt 5)),
 ⟨(some 23), .ia (xt 21) (xt 22) 7, (some (16, true)), [11, 12, 13, 14]⟩,
 ⟨(some 24), .ld (xt 23) 7 true, (some (16, true)), [11, 12, 13, 14]⟩,
 xT 25 16 (.aeq false [.i, .i, .i, .i, .i, .i, .i] (xt 20) (xt 24)),
 xo 26 (.pick (xt 16) (xt 25) (xb false))] [0,1,5,26]
def c51_4 := xC 26 xS (xE 0)
def c51_5 := xQ c51_3 c51_4
def c51_6 := xG [xm 27 5,
 xo 28 (.bin .add (xt 27) (xi 1)),
 xm 5 28] [0,1,5]
def c51_7 := xB 1 c51_6
def c51_8 := xQ c51_5 c51_7
def c51_9 := xL c51_8
def c51_10 := xB 0 c51_9
def c51_11 := xG [xm 29 5,
 xm 4 29] [4]
def c51_12 := xQ c51_11 xR
def c51_13 := xQ c51_10 c51_12
def c51_14 := xQ c51_2 c51_13
def c51_15 := xQ c51_1 c51_14
abbrev n_impl_CommonPrefix : Nat := 51
theorem k_impl_CommonPrefix : Known Pr mu n_impl_CommonPrefix (c51_15 ()) [.t 4] Go.Proofs.Tryz.f51.ntmps := .of [(0, [0,1], [], [], []), (1, [0,1,5], [], [], []), (2, [0,1,5,26], [[],[],[],[],[],[],[],[],[],[],[],[],[],[],[],[],[],[11,12,13,14],[11,12,13,14]], [], []), (3, [0,1,5], [], [], []), (4, [4], [], [], [])] hm Go.Proofs.Tryz.func51
def c52_1 := xG [xo 4 (.mv (xb false))] [0,1]
def c52_2 := xG [xm 5 0,
 xm 6 1,
 xo 7 (.call 53 [xt 5, xt 6]),
 xm 4 7] [4]
def c52_3 := xQ c52_2 xR
def c52_4 := xQ c52_1 c52_3
abbrev n_impl_EqualServers : Nat := 52
theorem k_impl_EqualServers : Known Pr mu n_impl_EqualServers (c52_4 ()) [.t 4] Go.Proofs.Tryz.f52.ntmps := .of [(0, [0,1], [], [], []), (1, [4], [], [], [])] hm Go.Proofs.Tryz.func52
def c53_1 := xG [xo 4 (.mv (xb false))] [0,1]
def c53_2 := xG [xm 6 0,
 xo 7 (.len false (xt 6)),
 xm 8 1,
 xo 9 (.len false (xt 8)),
 xo 10 (.bin .neq (xt 7) (xt 9))] [0,1,10]
def c53_3 := xG [xo 4 (.mv (xb false))] [4]
def c53_4 := xQ c53_3 xR
def c53_5 := xC 10 c53_4 xS
def c53_6 := xQ c53_2 c53_5
def c53_7 := xG [xm 11 0,
 xo 12 (.len false (xt 11)),
 xo 13 (.mv (xi 0))] [0,1,12,13]
def c53_8 := xG [xo 14 (.bin .lss (xt 13) (xt 12))] [0,1,12,13,14]
def c53_9 := xC 14 xS (xE 0)
def c53_10 := xG [xm 15 13,
 xm 5 15] [0,1,5,12,13]
def c53_11 := xG [xm 16 0,
 xm 17 5,
 xo 18 (.ia (xt 16) (xt 17) 1),
 xo 19 (.ld (xt 18) 1 false),
 xm 20 1,
 xm 21 5,
 ⟨(some 22), .ia (xt 20) (xt 21) 1, none, [0, 1, 2, 3]⟩,
 ⟨(some 23), .ld (xt 22) 1 false, none, [0, 1, 2, 3]⟩,
 xo 24 (.bin .neq (xt 19) (xt 23))] [0,1,12,13,24]
def c53_12 := xG [xo 4 (.mv (xb false))] [4]
def c53_13 := xQ c53_12 xR
def c53_14 := xC 24 c53_13 xS
def c53_15 := xQ c53_11 c53_14
def c53_16 := xQ c53_10 c53_15
def c53_17 := xB 1 c53_16
def c53_18 := xG [xo 25 (.bin .add (xt 13) (xi 1)),
 xm 13 25] [0,1,12,13]
def c53_19 := xQ c53_17 c53_18
def c53_20 := xQ c53_9 c53_19
def c53_21 := xQ c53_8 c53_20
def c53_22 := xL c53_21
def c53_23 := xB 0 c53_22
def c53_24 := xQ c53_7 c53_23
def c53_25 := xG [xo 4 (.mv (xb true))] [4]
def c53_26 := xQ c53_25 xR
def c53_27 := xQ c53_24 c53_26
def c53_28 := xQ c53_6 c53_27
def c53_29 := xQ c53_1 c53_28
abbrev n_slices_Equal_intint : Nat := 53
theorem k_slices_Equal_intint : Known Pr mu n_slices_Equal_intint (c53_29 ()) [.t 4] Go.Proofs.Tryz.f53.ntmps := .of [(0, [0,1], [], [], []), (1, [0,1,10], [], [], []), (2, [4], [], [], []), (3, [0,1,12,13], [], [], []), (4, [0,1,12,13,14], [], [], []), (5, [0,1,5,12,13], [], [], []), (6, [0,1,12,13,24], [[],[],[],[],[],[],[0,1,2,3],[0,1,2,3]], [], []), (7, [4], [], [], []), (8, [0,1,12,13], [], [], []), (9, [4], [], [], [])] hm Go.Proofs.Tryz.func53
def c54_1 := xG [xo 4 (.mv (xb false))] [0,1]
def c54_2 := xG [xm 6 0,
 xo 7 (.len false (xt 6)),
 xm 8 1,
 xo 9 (.len false (xt 8)),
 xo 10 (.bin .neq (xt 7) (xt 9))] [0,1,10]
def c54_3 := xG [xo 4 (.mv (xb false))] [4]
def c54_4 := xQ c54_3 xR
def c54_5 := xC 10 c54_4 xS
def c54_6 := xQ c54_2 c54_5
def c54_7 := xG [xm 11 0,
 xo 12 (.len false (xt 11)),
 xo 13 (.mv (xi 0))] [0,1,12,13]
def c54_8 := xG [xo 14 (.bin .lss (xt 13) (xt 12))] [0,1,12,13,14]
def c54_9 := xC 14 xS (xE 0)
def c54_10 := xG [xm 15 13,
 xm 5 15] [0,1,5,12,13]
def c54_11 := xG [xm 16 0,
 xm 17 5,
 xo 18 (.ia (xt 16) (xt 17) 4),
 xo 19 (.ld (xt 18) 4 true),
 xm 20 1,
 xm 21 5,
 ⟨(some 22), .ia (xt 20) (xt 21) 4, none, [0, 1, 2, 3]⟩,
 ⟨(some 23), .ld (xt 22) 4 true, none, [0, 1, 2, 3]⟩,
 xo 24 (.aeq true [.i, .i, .b, .i] (xt 19) (xt 23))] [0,1,12,13,24]
def c54_12 := xG [xo 4 (.mv (xb false))] [4]
def c54_13 := xQ c54_12 xR
def c54_14 := xC 24 c54_13 xS
def c54_15 := xQ c54_11 c54_14
def c54_16 := xQ c54_10 c54_15
def c54_17 := xB 1 c54_16
def c54_18 := xG [xo 25 (.bin .add (xt 13) (xi 1)),
 xm 13 25] [0,1,12,13]
def c54_19 := xQ c54_17 c54_18
def c54_20 := xQ c54_9 c54_19
def c54_21 := xQ c54_8 c54_20
def c54_22 := xL c54_21
def c54_23 := xB 0 c54_22
def c54_24 := xQ c54_7 c54_23
def c54_25 := xG [xo 4 (.mv (xb true))] [4]
def c54_26 := xQ c54_25 xR
def c54_27 := xQ c54_24 c54_26
def c54_28 := xQ c54_6 c54_27
def c54_29 := xQ c54_1 c54_28
abbrev n_slices_Equal_implSessionimplSession : Nat := 54
theorem k_slices_Equal_implSessionimplSession : Known Pr mu n_slices_Equal_implSessionimplSession (c54_29 ()) [.t 4] Go.Proofs.Tryz.f54.ntmps := .of [(0, [0,1], [], [], []), (1, [0,1,10], [], [], []), (2, [4], [], [], []), (3, [0,1,12,13], [], [], []), (4, [0,1,12,13,14], [], [], []), (5, [0,1,5,12,13], [], [], []), (6, [0,1,12,13,24], [[],[],[],[],[],[],[0,1,2,3],[0,1,2,3]], [], []), (7, [4], [], [], []), (8, [0,1,12,13], [], [], []), (9, [4], [], [], [])] hm Go.Proofs.Tryz.func54
def c55_1 := xG [xo 2 (.alloc [.int .i64 0, .int .i64 0, .int .i64 0, .int .i64 0, .int .i64 0, .int .i64 0])] [0,2]
def c55_2 := xG [xm 4 0,
 xo 5 (.callp 56 [xt 4, xi 3]),
 xm 6 0,
 xo 7 (.callp 56 [xt 6, xi 5]),
 xo 8 (.bin .add (xi 1) (xt 7)),
 xm 9 0,
 xo 10 (.callp 56 [xt 9, xi 3]),
 xm 11 0,
 xo 12 (.callp 56 [xt 11, xi 10]),
 xo 13 (.bld [.int .i64 0, .int .i64 0, .int .i64 0, .int .i64 0, .int .i64 0, .int .i64 0] [(0, 1, (xt 5)), (1, 1, (xt 8)), (2, 1, (xi 1)), (3, 1, (xt 10)), (5, 1, (xt 12))]),
 xo 3 (.alloc [.int .i64 0, .int .i64 0, .int .i64 0, .int .i64 0, .int .i64 0, .int .i64 0]),
 xn (.sto (xt 3) (xt 13) 6)] [0,2,3]
def c55_3 := xG [xm 14 0,
 xo 15 (.callp 80 [xt 14, xi 3])] [0,2,3,15]
def c55_4 := xG [xo 16 (.fa (xt 3) 2),
 xn (.sto (xt 16) (xi 2) 1)] [0,2,3]
def c55_5 := xG [xm 17 0,
 xo 18 (.bsl 1 5 [.int .i64 0] [(0, (xi 0)), (1, (xi 0)), (2, (xi 1)), (3, (xi 5)), (4, (xi 9))]),
 xo 19 (.callp 57 [xt 17, xt 18]),
 xo 20 (.fa (xt 3) 4),
 xn (.sto (xt 20) (xt 19) 1)] [2,3]
def c55_6 := xQ c55_4 c55_5
def c55_7 := xC 15 c55_6 xS
def c55_8 := xQ c55_3 c55_7
def c55_9 := xG [xo 21 (.ld (xt 3) 6 true),
 xn (.sto (xt 2) (xt 21) 6)] [2]
def c55_10 := xQ c55_9 xR
def c55_11 := xQ c55_8 c55_10
def c55_12 := xQ c55_2 c55_11
def c55_13 := xQ c55_1 c55_12
abbrev n_spec_l3Op : Nat := 55
theorem k_spec_l3Op : Known Pr mu n_spec_l3Op (c55_13 ()) [.c 2 6 true] Go.Proofs.Tryz.f55.ntmps := .of [(0, [0,2], [], [], []), (1, [0,2,3], [], [], []), (2, [0,2,3,15], [], [], []), (3, [0,2,3], [], [], []), (4, [2,3], [], [], []), (5, [2], [], [], [])] hm Go.Proofs.Tryz.func55
def c56_1 := xG [xo 4 (.mv (xi 0))] [0,1]
def c56_2 := xG [xm 9 1,
 xo 10 (.bin .leq (xt 9) (xi 0))] [0,1,10]
def c56_3 := xG [xo 4 (.mv (xi 0))] [4]
def c56_4 := xQ c56_3 xR
def c56_5 := xC 10 c56_4 xS
def c56_6 := xQ c56_2 c56_5
def c56_7 := xG [xm 11 1,
 xo 12 (.bin .leq (xt 11) (xi 256))] [0,1,12]
def c56_8 := xG [xm 13 0,
 xo 14 (.callp 81 [xt 13]),
 xm 15 1,
 xo 16 (.bin .rem (xt 14) (xt 15)),
 xm 4 16] [4]
def c56_9 := xQ c56_8 xR
def c56_10 := xC 12 c56_9 xS
def c56_11 := xQ c56_7 c56_10
def c56_12 := xG [xm 17 0,
 xo 18 (.callp 81 [xt 17]),
 xm 5 18] [0,1,5]
def c56_13 := xG [xm 19 0,
 xo 20 (.callp 81 [xt 19]),
 xm 6 20] [0,1,5,6]
def c56_14 := xG [xm 21 0,
 xo 22 (.callp 81 [xt 21]),
 xm 7 22] [0,1,5,6,7]
def c56_15 := xG [xm 23 0,
 xo 24 (.callp 81 [xt 23]),
 xm 8 24] [1,5,6,7,8]
def c56_16 := xG [xm 25 5,
 xo 26 (.bin .mul (xt 25) (xi 16777216)),
 xm 27 6,
 xo 28 (.bin .mul (xt 27) (xi 65536)),
 xo 29 (.bin .add (xt 26) (xt 28)),
 xm 30 7,
 xo 31 (.bin .mul (xt 30) (xi 256)),
 xo 32 (.bin .add (xt 29) (xt 31)),
 xm 33 8,
 xo 34 (.bin .add (xt 32) (xt 33)),
 xm 35 1,
 xo 36 (.bin .rem (xt 34) (xt 35)),
 xm 4 36] [4]
def c56_17 := xQ c56_16 xR
def c56_18 := xQ c56_15 c56_17
def c56_19 := xQ c56_14 c56_18
def c56_20 := xQ c56_13 c56_19
def c56_21 := xQ c56_12 c56_20
def c56_22 := xQ c56_11 c56_21
def c56_23 := xQ c56_6 c56_22
def c56_24 := xQ c56_1 c56_23
abbrev n_spec_l1Below : Nat := 56
theorem k_spec_l1Below : Known Pr mu n_spec_l1Below (c56_24 ()) [.t 4] Go.Proofs.Tryz.f56.ntmps := .of [(0, [0,1], [], [], []), (1, [0,1,10], [], [], []), (2, [4], [], [], []), (3, [0,1,12], [], [], []), (4, [4], [], [], []), (5, [0,1,5], [], [], []), (6, [0,1,5,6], [], [], []), (7, [0,1,5,6,7], [], [], []), (8, [1,5,6,7,8], [], [], []), (9, [4], [], [], [])] hm Go.Proofs.Tryz.func56
def c57_1 := xG [xo 4 (.mv (xi 0))] [0,1]
def c57_2 := xG [xm 5 1,
 xm 6 0,
 xm 7 1,
 xo 8 (.len false (xt 7)),
 xo 9 (.callp 56 [xt 6, xt 8]),
 xo 10 (.ia (xt 5) (xt 9) 1),
 xo 11 (.ld (xt 10) 1 false),
 xm 4 11] [4]
def c57_3 := xQ c57_2 xR
def c57_4 := xQ c57_1 c57_3
abbrev n_spec_l1PickInt : Nat := 57
theorem k_spec_l1PickInt : Known Pr mu n_spec_l1PickInt (c57_4 ()) [.t 4] Go.Proofs.Tryz.f57.ntmps := .of [(0, [0,1], [], [], []), (1, [4], [], [], [])] hm Go.Proofs.Tryz.func57
def c58_1 := xG [xo 6 (.mv (xb false))] [0,1,2]
def c58_2 := xG [xm 7 1,
 xm 8 0,
 xo 9 (.bin .leq (xt 7) (xt 8)),
 xm 10 9,
 xT 11 10 (.mv (xt 0)),
 xT 12 10 (.mv (xt 2)),
 xT 13 10 (.bin .leq (xt 11) (xt 12)),
 xo 14 (.pick (xt 10) (xt 13) (xb false)),
 xm 6 14] [6]
def c58_3 := xQ c58_2 xR
def c58_4 := xQ c58_1 c58_3
abbrev n_impl_within : Nat := 58
theorem k_impl_within : Known Pr mu n_impl_within (c58_4 ()) [.t 6] Go.Proofs.Tryz.f58.ntmps := .of [(0, [0,1,2], [], [], []), (1, [6], [], [], [])] hm Go.Proofs.Tryz.func58
def c59_1 := xG [xo 2 (.mv (.const (.string ⟨#[]⟩)))] [0]
def c59_2 := xG [xm 3 0,
 xo 4 (.call 82 [xt 3]),
 xm 2 4] [2]
def c59_3 := xQ c59_2 xR
def c59_4 := xQ c59_1 c59_3
abbrev n_strconv_Itoa : Nat := 59
theorem k_strconv_Itoa : Known Pr mu n_strconv_Itoa (c59_4 ()) [.t 2] Go.Proofs.Tryz.f59.ntmps := .of [(0, [0], [], [], []), (1, [2], [], [], [])] hm Go.Proofs.Tryz.func59
def c62_1 := xG [xo 2 (.mv (xi 0)),
 xo 3 (.mv (xb false))] [0]
def c62_2 := xG [xm 8 0,
 xm 4 8,
 xo 5 (.mv (xi 1))] [0,4,5]
def c62_3 := xG [xm 9 0,
 xo 10 (.len true (xt 9)),
 xo 11 (.bin .gtr (xt 10) (xi 0)),
 xm 12 11,
 xT 13 12 (.mv (xt 0)),
 xT 14 12 (.sidx (xt 13) (xi 0)),
 xT 15 12 (.bin .eql (xt 14) (.const (.int .u8 45))),
 xo 16 (.pick (xt 12) (xt 15) (xb false))] [0,4,5,16]
def c62_4 := xG [xm 17 0,
 xo 18 (.slc true (xt 17) (some (xi 1)) none none 0),
 xm 4 18,
 xo 5 (.mv (xi (-1)))] [0,4,5]
def c62_5 := xC 16 c62_4 xS
def c62_6 := xQ c62_3 c62_5
def c62_7 := xG [xm 19 4,
 xo 20 (.len true (xt 19)),
 xo 21 (.call 58 [xt 20, xi 1, xi 9]),
 xo 22 (.not (xt 21))] [0,4,5,22]
def c62_8 := xG [xo 2 (.mv (xi 0)),
 xo 3 (.mv (xb false))] [2,3]
def c62_9 := xQ c62_8 xR
def c62_10 := xC 22 c62_9 xS
def c62_11 := xQ c62_7 c62_10
def c62_12 := xG [xo 6 (.mv (xi 0))] [0,4,5,6]
def c62_13 := xG [xm 23 4,
 xo 24 (.len true (xt 23)),
 xo 25 (.mv (xi 0))] [0,4,5,6,24,25]
def c62_14 := xG [xo 26 (.bin .lss (xt 25) (xt 24))] [0,4,5,6,24,25,26]
def c62_15 := xC 26 xS (xE 0)
def c62_16 := xG [xm 27 25,
 xm 7 27] [0,4,5,6,7,24,25]
def c62_17 := xG [xm 28 4,
 xm 29 7,
 xo 30 (.sidx (xt 28) (xt 29)),
 xo 31 (.bin .lss (xt 30) (.const (.int .u8 48))),
 xm 32 31,
 xF 33 32 (.mv (xt 4)),
 xF 34 32 (.mv (xt 7)),
 xF 35 32 (.sidx (xt 33) (xt 34)),
 xF 36 32 (.bin .gtr (xt 35) (.const (.int .u8 57))),
 xo 37 (.pick (xt 32) (xb true) (xt 36))] [0,4,5,6,7,24,25,37]
def c62_18 := xG [xo 2 (.mv (xi 0)),
 xo 3 (.mv (xb false))] [2,3]
def c62_19 := xQ c62_18 xR
def c62_20 := xC 37 c62_19 xS
def c62_21 := xQ c62_17 c62_20
def c62_22 := xG [xm 38 6,
 xo 39 (.bin .mul (xi 10) (xt 38)),
 xm 40 4,
 xm 41 7,
 xo 42 (.sidx (xt 40) (xt 41)),
 xo 43 (.bin .sub (xt 42) (.const (.int .u8 48))),
 xo 44 (.conv .i64 (xt 43)),
 xo 45 (.bin .add (xt 39) (xt 44)),
 xm 6 45] [0,4,5,6,24,25]
def c62_23 := xQ c62_21 c62_22
def c62_24 := xQ c62_16 c62_23
def c62_25 := xB 1 c62_24
def c62_26 := xG [xo 46 (.bin .add (xt 25) (xi 1)),
 xm 25 46] [0,4,5,6,24,25]
def c62_27 := xQ c62_25 c62_26
def c62_28 := xQ c62_15 c62_27
def c62_29 := xQ c62_14 c62_28
def c62_30 := xL c62_29
def c62_31 := xB 0 c62_30
def c62_32 := xQ c62_13 c62_31
def c62_33 := xG [xm 47 5,
 xm 48 6,
 xo 49 (.bin .mul (xt 47) (xt 48)),
 xo 50 (.call 31 [xt 49]),
 xm 51 0,
 xo 52 (.bin .neq (xt 50) (xt 51))] [5,6,52]
def c62_34 := xG [xo 2 (.mv (xi 0)),
 xo 3 (.mv (xb false))] [2,3]
def c62_35 := xQ c62_34 xR
def c62_36 := xC 52 c62_35 xS
def c62_37 := xQ c62_33 c62_36
def c62_38 := xG [xm 53 5,
 xm 54 6,
 xo 55 (.bin .mul (xt 53) (xt 54)),
 xm 2 55,
 xo 3 (.mv (xb true))] [2,3]
def c62_39 := xQ c62_38 xR
def c62_40 := xQ c62_37 c62_39
def c62_41 := xQ c62_32 c62_40
def c62_42 := xQ c62_12 c62_41
def c62_43 := xQ c62_11 c62_42
def c62_44 := xQ c62_6 c62_43
def c62_45 := xQ c62_2 c62_44
def c62_46 := xQ c62_1 c62_45
abbrev n_impl_ParseInt : Nat := 62
theorem k_impl_ParseInt : Known Pr mu n_impl_ParseInt (c62_46 ()) [.t 2, .t 3] Go.Proofs.Tryz.f62.ntmps := .of [(0, [0], [], [], []), (1, [0,4,5], [], [], []), (2, [0,4,5,16], [], [], []), (3, [0,4,5], [], [], []), (4, [0,4,5,22], [], [], []), (5, [2,3], [], [], []), (6, [0,4,5,6], [], [], []), (7, [0,4,5,6,24,25], [], [], []), (8, [0,4,5,6,24,25,26], [], [], []), (9, [0,4,5,6,7,24,25], [], [], []), (10, [0,4,5,6,7,24,25,37], [], [], []), (11, [2,3], [], [], []), (12, [0,4,5,6,24,25], [], [], []), (13, [0,4,5,6,24,25], [], [], []), (14, [5,6,52], [], [], []), (15, [2,3], [], [], []), (16, [2,3], [], [], [])] hm Go.Proofs.Tryz.func62
def c63_1 := xG [xo 2 (.mv (.const (.slice none 0 0)))] [0]
def c63_2 := xG [xo 7 (.bsl 7 0 [.int .i64 0, .int .i64 0, .int .i64 0, .int .i64 0, .int .i64 0, .int .i64 0, .int .i64 0] []),
 xm 3 7] [0,3]
def c63_3 := xG [xo 4 (.mv (xi 1))] [0,3,4]
def c63_4 := xG [xm 8 0,
 xo 9 (.callp 56 [xt 8, xi 7]),
 xm 5 9] [0,3,4,5]
def c63_5 := xG [xm 10 5,
 xo 11 (.bin .gtr (xt 10) (xi 0))] [0,3,4,5,11]
def c63_6 := xC 11 xS (xE 0)
def c63_7 := xQ c63_5 c63_6
def c63_8 := xG [xm 14 0,
 xo 15 (.callp 80 [xt 14, xi 3])] [0,3,4,5,15]
def c63_9 := xG [xm 16 4,
 xo 17 (.bin .add (xt 16) (xi 1)),
 xm 4 17] [0,3,4,5]
def c63_10 := xC 15 c63_9 xS
def c63_11 := xQ c63_8 c63_10
def c63_12 := xG [xm 18 0,
 xo 19 (.callp 55 [xt 18]),
 xo 6 (.alloc [.int .i64 0, .int .i64 0, .int .i64 0, .int .i64 0, .int .i64 0, .int .i64 0]),
 xn (.sto (xt 6) (xt 19) 6)] [0,3,4,5,6]
def c63_13 := xG [xm 20 3,
 xm 21 4,
 xo 22 (.ld (xt 6) 6 true),
 xo 23 (.bld [.int .i64 0, .int .i64 0, .int .i64 0, .int .i64 0, .int .i64 0, .int .i64 0, .int .i64 0] [(0, 1, (xt 21)), (1, 6, (xt 22))]),
 xo 24 (.bsl 7 1 [.int .i64 0, .int .i64 0, .int .i64 0, .int .i64 0, .int .i64 0, .int .i64 0, .int .i64 0] [(0, (xt 23))]),
 xo 25 (.app (xt 20) (xt 24) 7 56),
 xm 3 25] [0,3,4,5]
def c63_14 := xQ c63_12 c63_13
def c63_15 := xQ c63_11 c63_14
def c63_16 := xB 1 c63_15
def c63_17 := xG [xm 12 5,
 xo 13 (.bin .sub (xt 12) (xi 1)),
 xm 5 13] [0,3,4,5]
def c63_18 := xQ c63_16 c63_17
def c63_19 := xQ c63_7 c63_18
def c63_20 := xL c63_19
def c63_21 := xB 0 c63_20
def c63_22 := xQ c63_4 c63_21
def c63_23 := xG [xm 26 3,
 xm 2 26] [2]
def c63_24 := xQ c63_23 xR
def c63_25 := xQ c63_22 c63_24
def c63_26 := xQ c63_3 c63_25
def c63_27 := xQ c63_2 c63_26
def c63_28 := xQ c63_1 c63_27
abbrev n_spec_l5Log : Nat := 63
theorem k_spec_l5Log : Known Pr mu n_spec_l5Log (c63_28 ()) [.t 2] Go.Proofs.Tryz.f63.ntmps := .of [(0, [0], [], [], []), (1, [0,3], [], [], []), (2, [0,3,4], [], [], []), (3, [0,3,4,5], [], [], []), (4, [0,3,4,5,11], [], [], []), (6, [0,3,4,5,15], [], [], []), (7, [0,3,4,5], [], [], []), (8, [0,3,4,5,6], [], [], []), (9, [0,3,4,5], [], [], []), (5, [0,3,4,5], [], [], []), (10, [2], [], [], [])] hm Go.Proofs.Tryz.func63
def c67_1 := xG [xo 4 (.alloc [.int .i64 0, .int .i64 0, .slice none 0 0, .slice none 0 0])] [0,1,4]
def c67_2 := xG [xm 7 1,
 xm 8 0,
 xo 9 (.callp 56 [xt 8, xi 5]),
 xo 10 (.bld [.int .i64 0, .int .i64 0, .slice none 0 0, .slice none 0 0] [(0, 1, (xt 7)), (1, 1, (xt 9))]),
 xo 5 (.alloc [.int .i64 0, .int .i64 0, .slice none 0 0, .slice none 0 0]),
 xn (.sto (xt 5) (xt 10) 4)] [0,4,5]
def o67_2_0 : MOper := xm 11 0
def o67_2_1 : MOper := ⟨(some 12), .callp 89 [xt 11], none, []⟩
def o67_2_2 : MOper := xo 13 (.faf (xt 5) 1)
def o67_2_3 : MOper := ⟨(some 14), .ld (xt 13) 1 false, none, []⟩
def o67_2_4 : MOper := ⟨(some 15), .call 79 [xt 12, xt 14], none, []⟩
def o67_2_5 : MOper := xo 16 (.faf (xt 5) 2)
def o67_2_6 : MOper := ⟨none, .sto (xt 16) (xt 15) 1, none, []⟩
def c67_3 := xA 7 (xs 0 o67_2_2 (xs 1 o67_2_0 (xu (xs 2 o67_2_3 (xs 3 o67_2_1 (xs 4 o67_2_4 (xs 5 o67_2_5 (xs 6 o67_2_6 xf))))) (xs 2 o67_2_1 (xs 3 o67_2_3 (xs 4 o67_2_4 (xs 5 o67_2_5 (xs 6 o67_2_6 xf)))))))) [0,4,5]
def c67_4 := xG [xo 17 (.fa (xt 5) 2),
 xo 18 (.ld (xt 17) 1 false),
 xo 19 (.len false (xt 18)),
 xo 20 (.bin .gtr (xt 19) (xi 3))] [0,4,5,20]
def c67_5 := xG [xo 21 (.fa (xt 5) 1),
 xo 22 (.ld (xt 21) 1 false),
 xo 23 (.bsl 1 1 [.int .i64 0] [(0, (xt 22))]),
 xo 24 (.fa (xt 5) 2),
 xn (.sto (xt 24) (xt 23) 1)] [0,4,5]
def c67_6 := xC 20 c67_5 xS
def c67_7 := xQ c67_4 c67_6
def c67_8 := xG [xm 25 0,
 xo 26 (.callp 80 [xt 25, xi 2])] [0,4,5,26]
def o67_6_0 : MOper := xm 27 0
def o67_6_1 : MOper := ⟨(some 28), .callp 89 [xt 27], none, []⟩
def o67_6_2 : MOper := xo 29 (.faf (xt 5) 2)
def o67_6_3 : MOper := ⟨(some 30), .ld (xt 29) 1 false, none, []⟩
def o67_6_4 : MOper := ⟨(some 31), .call 90 [xt 28, xt 30], none, []⟩
def o67_6_5 : MOper := ⟨(some 6), .mv (xt 31), none, []⟩
def c67_9 := xA 6 (xs 0 o67_6_2 (xs 1 o67_6_0 (xu (xs 2 o67_6_3 (xs 3 o67_6_1 (xs 4 o67_6_4 (xs 5 o67_6_5 xf)))) (xs 2 o67_6_1 (xs 3 o67_6_3 (xs 4 o67_6_4 (xs 5 o67_6_5 xf))))))) [4,5,6]
def c67_10 := xG [xm 32 6,
 xo 33 (.len false (xt 32)),
 xo 34 (.bin .gtr (xt 33) (xi 0))] [4,5,6,34]
def c67_11 := xG [xm 35 6,
 xo 36 (.slc false (xt 35) none (some (xi 1)) none 1),
 xo 37 (.fa (xt 5) 3),
 xn (.sto (xt 37) (xt 36) 1)] [4,5]
def c67_12 := xC 34 c67_11 xS
def c67_13 := xQ c67_10 c67_12
def c67_14 := xQ c67_9 c67_13
def c67_15 := xC 26 c67_14 xS
def c67_16 := xQ c67_8 c67_15
def c67_17 := xG [xo 38 (.ld (xt 5) 4 true),
 xn (.sto (xt 4) (xt 38) 4)] [4]
def c67_18 := xQ c67_17 xR
def c67_19 := xQ c67_16 c67_18
def c67_20 := xQ c67_7 c67_19
def c67_21 := xQ c67_3 c67_20
def c67_22 := xQ c67_2 c67_21
def c67_23 := xQ c67_1 c67_22
abbrev n_spec_l8Config : Nat := 67
theorem k_spec_l8Config : Known Pr mu n_spec_l8Config (c67_23 ()) [.c 4 4 true] Go.Proofs.Tryz.f67.ntmps := .of [(0, [0,1,4], [], [], []), (1, [0,4,5], [], [], []), (2, [0,4,5], [], [9999], [0,2,5]), (3, [0,4,5,20], [], [], []), (4, [0,4,5], [], [], []), (5, [0,4,5,26], [], [], []), (6, [4,5,6], [], [9999], [0,2]), (7, [4,5,6,34], [], [], []), (8, [4,5], [], [], []), (9, [4], [], [], [])] hm Go.Proofs.Tryz.func67
def c68_1 := xG [xo 2 (.mv (.const (.slice none 0 0)))] [0]
def c68_2 := xG [xm 4 0,
 xo 5 (.callp 89 [xt 4]),
 xm 3 5] [0,3]
def c68_3 := xG [xm 6 0,
 xo 7 (.callp 80 [xt 6, xi 8])] [0,3,7]
def c68_4 := xG [xm 8 3,
 xm 9 0,
 xo 10 (.bsl 1 4 [.int .i64 0] [(0, (xi (-1))), (1, (xi 0)), (2, (xi 4)), (3, (xi 5))]),
 xo 11 (.callp 57 [xt 9, xt 10]),
 xo 12 (.bsl 1 1 [.int .i64 0] [(0, (xt 11))]),
 xo 13 (.app (xt 8) (xt 12) 1 8),
 xm 3 13] [3]
def c68_5 := xC 7 c68_4 xS
def c68_6 := xQ c68_3 c68_5
def c68_7 := xG [xm 14 3,
 xm 2 14] [2]
def c68_8 := xQ c68_7 xR
def c68_9 := xQ c68_6 c68_8
def c68_10 := xQ c68_2 c68_9
def c68_11 := xQ c68_1 c68_10
abbrev n_spec_l2Any : Nat := 68
theorem k_spec_l2Any : Known Pr mu n_spec_l2Any (c68_11 ()) [.t 2] Go.Proofs.Tryz.f68.ntmps := .of [(0, [0], [], [], []), (1, [0,3], [], [], []), (2, [0,3,7], [], [], []), (3, [3], [], [], []), (4, [2], [], [], [])] hm Go.Proofs.Tryz.func68
def c69_1 := xG [xo 2 (.mv (xb false))] [0]
def c69_2 := xG [xm 5 0,
 xo 6 (.len false (xt 5)),
 xo 7 (.mv (xi 0))] [0,5,6,7]
def c69_3 := xG [xo 8 (.bin .lss (xt 7) (xt 6))] [0,5,6,7,8]
def c69_4 := xC 8 xS (xE 0)
def c69_5 := xG [xm 9 7,
 xo 10 (.ia (xt 5) (xt 7) 1),
 xo 11 (.ld (xt 10) 1 false),
 xm 3 9,
 xm 4 11] [0,3,4,5,6,7]
def c69_6 := xG [xm 12 4,
 xo 13 (.call 58 [xt 12, xi 0, xi 4]),
 xo 14 (.not (xt 13)),
 xm 15 14,
 xF 16 15 (.mv (xt 3)),
 xF 17 15 (.bin .gtr (xt 16) (xi 0)),
 xF 18 15 (.mv (xt 17)),
 xT 19 18 (.mv (xt 4)),
 xT 20 18 (.mv (xt 0)),
 xT 21 18 (.mv (xt 3)),
 xT 22 18 (.bin .sub (xt 21) (xi 1)),
 xT 23 18 (.ia (xt 20) (xt 22) 1),
 xT 24 18 (.ld (xt 23) 1 false),
 xT 25 18 (.bin .leq (xt 19) (xt 24)),
 xF 26 15 (.pick (xt 18) (xt 25) (xb false)),
 xo 27 (.pick (xt 15) (xb true) (xt 26))] [0,5,6,7,27]
def c69_7 := xG [xo 2 (.mv (xb false))] [2]
def c69_8 := xQ c69_7 xR
def c69_9 := xC 27 c69_8 xS
def c69_10 := xQ c69_6 c69_9
def c69_11 := xQ c69_5 c69_10
def c69_12 := xB 1 c69_11
def c69_13 := xG [xo 28 (.bin .add (xt 7) (xi 1)),
 xm 7 28] [0,5,6,7]
def c69_14 := xQ c69_12 c69_13
def c69_15 := xQ c69_4 c69_14
def c69_16 := xQ c69_3 c69_15
def c69_17 := xL c69_16
def c69_18 := xB 0 c69_17
def c69_19 := xQ c69_2 c69_18
def c69_20 := xG [xo 2 (.mv (xb true))] [2]
def c69_21 := xQ c69_20 xR
def c69_22 := xQ c69_19 c69_21
def c69_23 := xQ c69_1 c69_22
abbrev n_impl_AreServers : Nat := 69
theorem k_impl_AreServers : Known Pr mu n_impl_AreServers (c69_23 ()) [.t 2] Go.Proofs.Tryz.f69.ntmps := .of [(0, [0], [], [], []), (1, [0,5,6,7], [], [], []), (2, [0,5,6,7,8], [], [], []), (3, [0,3,4,5,6,7], [], [], []), (4, [0,5,6,7,27], [], [], []), (5, [2], [], [], []), (6, [0,5,6,7], [], [], []), (7, [2], [], [], [])] hm Go.Proofs.Tryz.func69
def c70_1 := xG [xo 4 (.mv (xb false))] [0,1]
def c70_2 := xG [xm 5 0,
 xm 6 1,
 xo 7 (.call 91 [xt 5, xt 6]),
 xm 4 7] [4]
def c70_3 := xQ c70_2 xR
def c70_4 := xQ c70_1 c70_3
abbrev n_impl_HasServer : Nat := 70
theorem k_impl_HasServer : Known Pr mu n_impl_HasServer (c70_4 ()) [.t 4] Go.Proofs.Tryz.f70.ntmps := .of [(0, [0,1], [], [], []), (1, [4], [], [], [])] hm Go.Proofs.Tryz.func70
def c71_1 := xG [xo 4 (.mv (.const (.slice none 0 0)))] [0,1]
def c71_2 := xG [xm 5 0,
 xm 6 0,
 xm 7 1,
 xo 8 (.call 92 [xt 6, xt 7]),
 xo 9 (.call 92 [xt 5, xt 8]),
 xm 4 9] [4]
def c71_3 := xQ c71_2 xR
def c71_4 := xQ c71_1 c71_3
abbrev n_impl_CommonServers : Nat := 71
theorem k_impl_CommonServers : Known Pr mu n_impl_CommonServers (c71_4 ()) [.t 4] Go.Proofs.Tryz.f71.ntmps := .of [(0, [0,1], [], [], []), (1, [4], [], [], [])] hm Go.Proofs.Tryz.func71
def c72_1 := xG [xo 2 (.alloc [.slice none 0 0, .slice none 0 0])] [0,2]
def c72_2 := xG [xo 5 (.call 93 []),
 xo 3 (.alloc [.slice none 0 0, .slice none 0 0]),
 xn (.sto (xt 3) (xt 5) 2)] [0,2,3]
def c72_3 := xG [xm 6 0,
 xo 7 (.callp 56 [xt 6, xi 6]),
 xm 4 7] [0,2,3,4]
def c72_4 := xG [xm 8 4,
 xo 9 (.bin .gtr (xt 8) (xi 0))] [0,2,3,4,9]
def c72_5 := xC 9 xS (xE 0)
def c72_6 := xQ c72_4 c72_5
def o72_5_0 : MOper := ⟨(some 13), .ld (xt 3) 2 true, none, []⟩
def o72_5_1 : MOper := xm 14 0
def o72_5_2 : MOper := ⟨(some 15), .callp 55 [xt 14], none, []⟩
def o72_5_3 : MOper := ⟨(some 16), .call 94 [xt 13, xt 15], none, []⟩
def o72_5_4 : MOper := xm 12 16
def o72_5_5 : MOper := xo 17 (.ext (xt 12) 0)
def o72_5_6 : MOper := xo 18 (.ext (xt 12) 1)
def o72_5_7 : MOper := xo 19 (.ext (xt 12) 2)
def o72_5_8 : MOper := ⟨none, .sto (xt 3) (xt 17) 2, none, []⟩
def c72_7 := xA 9 (xs 0 o72_5_1 (xu (xs 1 o72_5_2 (xs 2 o72_5_0 (xs 3 o72_5_3 (xs 4 o72_5_4 (xs 5 o72_5_7 (xs 6 o72_5_6 (xs 7 o72_5_5 (xs 8 o72_5_8 xf)))))))) (xs 1 o72_5_0 (xs 2 o72_5_2 (xs 3 o72_5_3 (xs 4 o72_5_4 (xs 5 o72_5_7 (xs 6 o72_5_6 (xs 7 o72_5_5 (xs 8 o72_5_8 xf)))))))))) [0,2,3,4]
def c72_8 := xB 1 c72_7
def c72_9 := xG [xm 10 4,
 xo 11 (.bin .sub (xt 10) (xi 1)),
 xm 4 11] [0,2,3,4]
def c72_10 := xQ c72_8 c72_9
def c72_11 := xQ c72_6 c72_10
def c72_12 := xL c72_11
def c72_13 := xB 0 c72_12
def c72_14 := xQ c72_3 c72_13
def c72_15 := xG [xo 20 (.ld (xt 3) 2 true),
 xn (.sto (xt 2) (xt 20) 2)] [2]
def c72_16 := xQ c72_15 xR
def c72_17 := xQ c72_14 c72_16
def c72_18 := xQ c72_2 c72_17
def c72_19 := xQ c72_1 c72_18
abbrev n_spec_l4Machine : Nat := 72
theorem k_spec_l4Machine : Known Pr mu n_spec_l4Machine (c72_19 ()) [.c 2 2 true] Go.Proofs.Tryz.f72.ntmps := .of [(0, [0,2], [], [], []), (1, [0,2,3], [], [], []), (2, [0,2,3,4], [], [], []), (3, [0,2,3,4,9], [], [], []), (5, [0,2,3,4], [], [9999], [1,4,5,6,7]), (4, [0,2,3,4], [], [], []), (6, [2], [], [], [])] hm Go.Proofs.Tryz.func72
def c73_1 := xG [xo 4 (.mv (xb false))] [0,1]
def c73_2 := xG [xm 5 0,
 xm 6 1,
 xo 7 (.call 95 [xt 5, xt 6]),
 xo 8 (.bin .geq (xt 7) (xi 0)),
 xm 4 8] [4]
def c73_3 := xQ c73_2 xR
def c73_4 := xQ c73_1 c73_3
abbrev n_slices_ContainsFunc_intint : Nat := 73
theorem k_slices_ContainsFunc_intint : Known Pr mu n_slices_ContainsFunc_intint (c73_4 ()) [.t 4] Go.Proofs.Tryz.f73.ntmps := .of [(0, [0,1], [], [], []), (1, [4], [], [], [])] hm Go.Proofs.Tryz.func73
def c74_1 := xG [xo 2 (.mv (xb false))] [0]
def c74_2 := xG [xm 3 0,
 xo 4 (.call 58 [xt 3, xi 0, xi 9]),
 xo 5 (.not (xt 4)),
 xm 2 5] [2]
def c74_3 := xQ c74_2 xR
def c74_4 := xQ c74_1 c74_3
abbrev n_impl_IsValidMachine_c1 : Nat := 74
theorem k_impl_IsValidMachine_c1 : Known Pr mu n_impl_IsValidMachine_c1 (c74_4 ()) [.t 2] Go.Proofs.Tryz.f74.ntmps := .of [(0, [0], [], [], []), (1, [2], [], [], [])] hm Go.Proofs.Tryz.func74
def c79_1 := xG [xo 4 (.mv (.const (.slice none 0 0)))] [0,1]
def c79_2 := xG [xo 5 (.mv (xi 0))] [0,1,5]
def c79_3 := xG [xm 6 5,
 xm 7 0,
 xo 8 (.len false (xt 7)),
 xo 9 (.bin .lss (xt 6) (xt 8)),
 xm 10 9,
 xT 11 10 (.mv (xt 0)),
 xT 12 10 (.mv (xt 5)),
 xT 13 10 (.ia (xt 11) (xt 12) 1),
 xT 14 10 (.ld (xt 13) 1 false),
 xT 15 10 (.mv (xt 1)),
 xT 16 10 (.bin .lss (xt 14) (xt 15)),
 xo 17 (.pick (xt 10) (xt 16) (xb false))] [0,1,5,17]
def c79_4 := xC 17 xS (xE 0)
def c79_5 := xQ c79_3 c79_4
def c79_6 := xG [xm 18 5,
 xo 19 (.bin .add (xt 18) (xi 1)),
 xm 5 19] [0,1,5]
def c79_7 := xB 1 c79_6
def c79_8 := xQ c79_5 c79_7
def c79_9 := xL c79_8
def c79_10 := xB 0 c79_9
def c79_11 := xG [xm 20 5,
 xm 21 0,
 xo 22 (.len false (xt 21)),
 xo 23 (.bin .lss (xt 20) (xt 22)),
 xm 24 23,
 xT 25 24 (.mv (xt 0)),
 xT 26 24 (.mv (xt 5)),
 xT 27 24 (.ia (xt 25) (xt 26) 1),
 xT 28 24 (.ld (xt 27) 1 false),
 xT 29 24 (.mv (xt 1)),
 xT 30 24 (.bin .eql (xt 28) (xt 29)),
 xo 31 (.pick (xt 24) (xt 30) (xb false))] [0,1,5,31]
def c79_12 := xG [xo 32 (.bsl 1 0 [.int .i64 0] []),
 xm 33 0,
 xo 34 (.app (xt 32) (xt 33) 1 8),
 xm 4 34] [4]
def c79_13 := xQ c79_12 xR
def c79_14 := xC 31 c79_13 xS
def c79_15 := xQ c79_11 c79_14
def c79_16 : XC := fun _ => .region [xm 43 0, xm 44 5, xo 45 (.slf (xt 43) (some (xt 44)) none 1)] [xo 35 (.bsl 1 0 [.int .i64 0] []),
 xm 36 0,
 xm 37 5,
 ⟨(some 38), .slc false (xt 36) none (some (xt 37)) none 1, none, [0]⟩,
 ⟨(some 39), .appn (xt 35) (xt 38) 1 8, none, [1000000]⟩,
 xm 40 1,
 xo 41 (.bsl 1 1 [.int .i64 0] [(0, (xt 40))]),
 xo 42 (.app (xt 39) (xt 41) 1 8),
 ⟨(some 43), .mv (xt 43), none, []⟩,
 ⟨(some 44), .mv (xt 44), none, []⟩,
 ⟨(some 45), .mv (xt 45), none, []⟩,
 xo 46 (.app (xt 42) (xt 45) 1 8),
 xm 4 46] [4]
def c79_17 := xQ c79_16 xR
def c79_18 := xQ c79_15 c79_17
def c79_19 := xQ c79_10 c79_18
def c79_20 := xQ c79_2 c79_19
def c79_21 := xQ c79_1 c79_20
abbrev n_spec_l2Put : Nat := 79
theorem k_spec_l2Put : Known Pr mu n_spec_l2Put (c79_21 ()) [.t 4] Go.Proofs.Tryz.f79.ntmps := .of [(0, [0,1], [], [], []), (1, [0,1,5], [], [], []), (2, [0,1,5,17], [], [], []), (3, [0,1,5], [], [], []), (4, [0,1,5,31], [], [], []), (5, [4], [], [], []), (6, [4], [[],[],[],[0],[1000000]], [8,9,10], [])] hm Go.Proofs.Tryz.func79
def c80_1 := xG [xo 4 (.mv (xb false))] [0,1]
def c80_2 := xG [xm 5 0,
 xm 6 1,
 xo 7 (.callp 56 [xt 5, xt 6]),
 xo 8 (.bin .eql (xt 7) (xi 0)),
 xm 4 8] [4]
def c80_3 := xQ c80_2 xR
def c80_4 := xQ c80_1 c80_3
abbrev n_spec_l1Once : Nat := 80
theorem k_spec_l1Once : Known Pr mu n_spec_l1Once (c80_4 ()) [.t 4] Go.Proofs.Tryz.f80.ntmps := .of [(0, [0,1], [], [], []), (1, [4], [], [], [])] hm Go.Proofs.Tryz.func80
def c81_1 := xG [xo 2 (.mv (xi 0))] [0]
def c81_2 := xG [xm 4 0,
 xm 5 0,
 xo 6 (.nck (xt 5)),
 xo 7 (.fa (xt 6) 2),
 xo 8 (.ld (xt 7) 1 false),
 xo 9 (.bin .mul (xt 8) (xi 6364136223846793005)),
 xo 10 (.bin .add (xt 9) (xi 1442695040888963407)),
 xo 11 (.nck (xt 4)),
 xo 12 (.fa (xt 11) 2),
 xn (.sto (xt 12) (xt 10) 1)] [0]
def c81_3 := xG [xm 13 0,
 xo 14 (.nck (xt 13)),
 xo 15 (.fa (xt 14) 2),
 xo 16 (.ld (xt 15) 1 false),
 xo 17 (.bit .shr (xt 16) (.const (.int .u64 33))),
 xm 18 0,
 xo 19 (.nck (xt 18)),
 ⟨(some 20), .fa (xt 19) 2, none, [0, 1, 2, 3, 4]⟩,
 ⟨(some 21), .ld (xt 20) 1 false, none, [0, 1, 2, 3, 4]⟩,
 xo 22 (.bit .shr (xt 21) (.const (.int .u64 45))),
 xo 23 (.bit .xor (xt 17) (xt 22)),
 xo 24 (.bit .and (xt 23) (xi 255)),
 xm 3 24] [0,3]
def c81_4 := xG [xm 25 0,
 xo 26 (.nck (xt 25)),
 xo 27 (.fa (xt 26) 1),
 xo 28 (.ld (xt 27) 1 false),
 xm 29 0,
 xo 30 (.nck (xt 29)),
 ⟨(some 31), .fa (xt 30) 0, none, [0, 1, 2, 3]⟩,
 ⟨(some 32), .ld (xt 31) 1 false, none, [0, 1, 2, 3]⟩,
 xo 33 (.len false (xt 32)),
 xo 34 (.bin .lss (xt 28) (xt 33))] [0,3,34]
def c81_5 := xG [xm 35 3,
 xm 36 0,
 xo 37 (.nck (xt 36)),
 ⟨(some 38), .fa (xt 37) 0, none, [0]⟩,
 ⟨(some 39), .ld (xt 38) 1 false, none, [0]⟩,
 xm 40 0,
 xo 41 (.nck (xt 40)),
 ⟨(some 42), .fa (xt 41) 1, none, [0, 1, 2, 3, 4]⟩,
 ⟨(some 43), .ld (xt 42) 1 false, none, [0, 1, 2, 3, 4]⟩,
 ⟨(some 44), .ia (xt 39) (xt 43) 1, none, [0]⟩,
 ⟨(some 45), .ld (xt 44) 1 false, none, [0]⟩,
 ⟨(some 46), .conv .i64 (xt 45), none, [0]⟩,
 xo 47 (.bin .add (xt 35) (xt 46)),
 xo 48 (.bit .and (xt 47) (xi 255)),
 xm 3 48] [0,3]
def c81_6 := xG [xm 49 0,
 xm 50 0,
 xo 51 (.nck (xt 50)),
 xo 52 (.fa (xt 51) 1),
 xo 53 (.ld (xt 52) 1 false),
 xo 54 (.bin .add (xt 53) (xi 1)),
 xo 55 (.nck (xt 49)),
 xo 56 (.fa (xt 55) 1),
 xn (.sto (xt 56) (xt 54) 1)] [3]
def c81_7 := xQ c81_5 c81_6
def c81_8 := xC 34 c81_7 xS
def c81_9 := xQ c81_4 c81_8
def c81_10 := xG [xm 57 3,
 xm 2 57] [2]
def c81_11 := xQ c81_10 xR
def c81_12 := xQ c81_9 c81_11
def c81_13 := xQ c81_3 c81_12
def c81_14 := xQ c81_2 c81_13
def c81_15 := xQ c81_1 c81_14
abbrev n_spec_l1Byte : Nat := 81
theorem k_spec_l1Byte : Known Pr mu n_spec_l1Byte (c81_15 ()) [.t 2] Go.Proofs.Tryz.f81.ntmps := .of [(0, [0], [], [], []), (1, [0], [], [], []), (2, [0,3], [[],[],[],[],[],[],[],[0,1,2,3,4],[0,1,2,3,4]], [], []), (3, [0,3,34], [[],[],[],[],[],[],[0,1,2,3],[0,1,2,3]], [], []), (4, [0,3], [[],[],[],[0],[0],[],[],[0,1,2,3,4],[0,1,2,3,4],[0],[0],[0]], [], []), (5, [3], [], [], []), (6, [2], [], [], [])] hm Go.Proofs.Tryz.func81
def c82_1 := xG [xo 2 (.mv (.const (.string ⟨#[]⟩)))] [0]
def c82_2 := xG [xm 3 0,
 xo 4 (.call 100 [xt 3, xi 10]),
 xm 2 4] [2]
def c82_3 := xQ c82_2 xR
def c82_4 := xQ c82_1 c82_3
abbrev n_internal_strconv_Itoa : Nat := 82
theorem k_internal_strconv_Itoa : Known Pr mu n_internal_strconv_Itoa (c82_4 ()) [.t 2] Go.Proofs.Tryz.f82.ntmps := .of [(0, [0], [], [], []), (1, [2], [], [], [])] hm Go.Proofs.Tryz.func82
def c89_1 := xG [xo 2 (.mv (.const (.slice none 0 0)))] [0]
def c89_2 := xG [xo 5 (.bsl 1 0 [.int .i64 0] []),
 xm 3 5] [0,3]
def c89_3 := xG [xo 4 (.mv (xi 0))] [0,3,4]
def c89_4 := xG [xm 6 4,
 xo 7 (.bin .lss (xt 6) (xi 5))] [0,3,4,7]
def c89_5 := xC 7 xS (xE 0)
def c89_6 := xQ c89_4 c89_5
def c89_7 := xG [xm 10 0,
 xo 11 (.callp 80 [xt 10, xi 2])] [0,3,4,11]
def c89_8 := xG [xm 12 3,
 xm 13 4,
 xo 14 (.bsl 1 1 [.int .i64 0] [(0, (xt 13))]),
 xo 15 (.app (xt 12) (xt 14) 1 8),
 xm 3 15] [0,3,4]
def c89_9 := xC 11 c89_8 xS
def c89_10 := xQ c89_7 c89_9
def c89_11 := xB 1 c89_10
def c89_12 := xG [xm 8 4,
 xo 9 (.bin .add (xt 8) (xi 1)),
 xm 4 9] [0,3,4]
def c89_13 := xQ c89_11 c89_12
def c89_14 := xQ c89_6 c89_13
def c89_15 := xL c89_14
def c89_16 := xB 0 c89_15
def c89_17 := xQ c89_3 c89_16
def c89_18 := xG [xm 16 3,
 xm 2 16] [2]
def c89_19 := xQ c89_18 xR
def c89_20 := xQ c89_17 c89_19
def c89_21 := xQ c89_2 c89_20
def c89_22 := xQ c89_1 c89_21
abbrev n_spec_l2Some : Nat := 89
theorem k_spec_l2Some : Known Pr mu n_spec_l2Some (c89_22 ()) [.t 2] Go.Proofs.Tryz.f89.ntmps := .of [(0, [0], [], [], []), (1, [0,3], [], [], []), (2, [0,3,4], [], [], []), (3, [0,3,4,7], [], [], []), (5, [0,3,4,11], [], [], []), (6, [0,3,4], [], [], []), (4, [0,3,4], [], [], []), (7, [2], [], [], [])] hm Go.Proofs.Tryz.func89
def c90_1 := xG [xo 4 (.mv (.const (.slice none 0 0)))] [0,1]
def c90_2 := xG [xo 7 (.bsl 1 0 [.int .i64 0] []),
 xm 5 7] [0,1,5]
def c90_3 := xG [xo 6 (.mv (xi 0))] [0,1,5,6]
def c90_4 := xG [xm 8 6,
 xm 9 0,
 xo 10 (.len false (xt 9)),
 xo 11 (.bin .lss (xt 8) (xt 10))] [0,1,5,6,11]
def c90_5 := xC 11 xS (xE 0)
def c90_6 := xQ c90_4 c90_5
def c90_7 := xG [xm 14 1,
 xm 15 0,
 xm 16 6,
 xo 17 (.ia (xt 15) (xt 16) 1),
 xo 18 (.ld (xt 17) 1 false),
 xo 19 (.call 47 [xt 14, xt 18]),
 xo 20 (.not (xt 19))] [0,1,5,6,20]
def c90_8 := xG [xm 21 5,
 xm 22 0,
 xm 23 6,
 xo 24 (.ia (xt 22) (xt 23) 1),
 xo 25 (.ld (xt 24) 1 false),
 xo 26 (.call 79 [xt 21, xt 25]),
 xm 5 26] [0,1,5,6]
def c90_9 := xC 20 c90_8 xS
def c90_10 := xQ c90_7 c90_9
def c90_11 := xB 1 c90_10
def c90_12 := xG [xm 12 6,
 xo 13 (.bin .add (xt 12) (xi 1)),
 xm 6 13] [0,1,5,6]
def c90_13 := xQ c90_11 c90_12
def c90_14 := xQ c90_6 c90_13
def c90_15 := xL c90_14
def c90_16 := xB 0 c90_15
def c90_17 := xQ c90_3 c90_16
def c90_18 := xG [xm 27 5,
 xm 4 27] [4]
def c90_19 := xQ c90_18 xR
def c90_20 := xQ c90_17 c90_19
def c90_21 := xQ c90_2 c90_20
def c90_22 := xQ c90_1 c90_21
abbrev n_spec_WithoutServers : Nat := 90
theorem k_spec_WithoutServers : Known Pr mu n_spec_WithoutServers (c90_22 ()) [.t 4] Go.Proofs.Tryz.f90.ntmps := .of [(0, [0,1], [], [], []), (1, [0,1,5], [], [], []), (2, [0,1,5,6], [], [], []), (3, [0,1,5,6,11], [], [], []), (5, [0,1,5,6,20], [], [], []), (6, [0,1,5,6], [], [], []), (4, [0,1,5,6], [], [], []), (7, [4], [], [], [])] hm Go.Proofs.Tryz.func90
def c91_1 := xG [xo 4 (.mv (xb false))] [0,1]
def c91_2 := xG [xm 5 0,
 xm 6 1,
 xo 7 (.call 108 [xt 5, xt 6]),
 xo 8 (.bin .geq (xt 7) (xi 0)),
 xm 4 8] [4]
def c91_3 := xQ c91_2 xR
def c91_4 := xQ c91_1 c91_3
abbrev n_slices_Contains_intint : Nat := 91
theorem k_slices_Contains_intint : Known Pr mu n_slices_Contains_intint (c91_4 ()) [.t 4] Go.Proofs.Tryz.f91.ntmps := .of [(0, [0,1], [], [], []), (1, [4], [], [], [])] hm Go.Proofs.Tryz.func91
def c92_1 := xG [xo 3 (.box (xt 1)),
 xo 4 (.mv (.const (.slice none 0 0)))] [0,3]
def c92_2 := xG [xm 5 0,
 xo 6 (.call 110 [xt 5]),
 xo 7 (.mkf 111 [xt 3]),
 xo 8 (.callm 109 [xt 6, xt 7]),
 xm 4 8] [4]
def c92_3 := xQ c92_2 xR
def c92_4 := xQ c92_1 c92_3
abbrev n_impl_WithoutServers : Nat := 92
theorem k_impl_WithoutServers : Known Pr mu n_impl_WithoutServers (c92_4 ()) [.t 4] Go.Proofs.Tryz.f92.ntmps := .of [(0, [0,3], [], [], []), (1, [4], [], [], [])] hm Go.Proofs.Tryz.func92
def c93_1 := xG [xo 0 (.alloc [.slice none 0 0, .slice none 0 0])] [0]
def c93_2 := xG [xo 1 (.bsl 1 3 [.int .i64 0] [(0, (xi 0)), (1, (xi 0)), (2, (xi 0))]),
 xo 2 (.bld [.slice none 0 0, .slice none 0 0] [(0, 1, (xt 1))]),
 xn (.sto (xt 0) (xt 2) 2)] [0]
def c93_3 := xQ c93_2 xR
def c93_4 := xQ c93_1 c93_3
abbrev n_spec_NewMachine : Nat := 93
theorem k_spec_NewMachine : Known Pr mu n_spec_NewMachine (c93_4 ()) [.c 0 2 true] Go.Proofs.Tryz.f93.ntmps := .of [(0, [0], [], [], []), (1, [0], [], [], [])] hm Go.Proofs.Tryz.func93
def c94_1 := xG [xo 2 (.box (xt 0)),
 xo 3 (.box (xt 1)),
 xo 4 (.alloc [.slice none 0 0, .slice none 0 0]),
 xo 5 (.alloc [.bool false, .int .i64 0]),
 xo 6 (.mv (xb false))] [2,3,4,5]
def c94_2 := xG [xo 14 (.ld (xt 2) 2 true),
 xo 15 (.call 112 [xt 14]),
 xo 7 (.alloc [.slice none 0 0, .slice none 0 0]),
 xn (.sto (xt 7) (xt 15) 2)] [2,3,4,5,7]
def c94_3 := xG [xo 16 (.ld (xt 2) 2 true),
 xo 17 (.call 20 [xt 16]),
 xo 18 (.not (xt 17)),
 xm 19 18,
 xF 20 19 (.ld (xt 3) 6 true),
 xF 21 19 (.call 17 [xt 20]),
 xF 22 19 (.not (xt 21)),
 xo 23 (.pick (xt 19) (xb true) (xt 22))] [2,3,4,5,7,23]
def c94_4 := xG [xo 24 (.ld (xt 7) 2 true),
 xo 25 (.bld [.bool false, .int .i64 0] []),
 xn (.sto (xt 4) (xt 24) 2),
 xn (.sto (xt 5) (xt 25) 2),
 xo 6 (.mv (xb false))] [4,5,6]
def c94_5 := xQ c94_4 xR
def c94_6 := xC 23 c94_5 xS
def c94_7 := xQ c94_3 c94_6
def c94_8 := xG [xo 27 (.ld (xt 2) 2 true),
 xo 28 (.fa (xt 3) 0),
 xo 29 (.ld (xt 28) 1 false),
 xo 30 (.call 113 [xt 27, xt 29]),
 xm 26 30,
 xo 31 (.ext (xt 26) 0),
 xo 32 (.ext (xt 26) 1),
 xo 8 (.alloc [.int .i64 0, .int .i64 0, .bool false, .int .i64 0]),
 xn (.sto (xt 8) (xt 31) 4),
 xm 9 32] [2,3,4,5,7,8,9]
def c94_9 := xG [xm 33 9,
 xm 34 33,
 xT 35 34 (.fa (xt 8) 1),
 xT 36 34 (.ld (xt 35) 1 false),
 xT 37 34 (.fa (xt 3) 1),
 xT 38 34 (.ld (xt 37) 1 false),
 xT 39 34 (.bin .eql (xt 36) (xt 38)),
 xo 40 (.pick (xt 34) (xt 39) (xb false))] [2,3,4,5,7,8,9,40]
def o94_6_0 : MOper := ⟨(some 41), .ld (xt 7) 2 true, none, []⟩
def o94_6_1 : MOper := xo 42 (.faf (xt 8) 2)
def o94_6_2 : MOper := ⟨(some 43), .ld (xt 42) 2 true, none, []⟩
def o94_6_3 : MOper := ⟨none, .sto (xt 4) (xt 41) 2, none, []⟩
def o94_6_4 : MOper := ⟨none, .sto (xt 5) (xt 43) 2, none, []⟩
def o94_6_5 : MOper := ⟨(some 6), .mv (xb true), none, []⟩
def c94_10 := xA 6 (xs 0 o94_6_1 (xu (xs 1 o94_6_2 (xs 2 o94_6_0 (xs 3 o94_6_3 (xs 4 o94_6_4 (xs 5 o94_6_5 xf))))) (xs 1 o94_6_0 (xu (xs 2 o94_6_3 (xs 3 o94_6_2 (xs 4 o94_6_4 (xs 5 o94_6_5 xf)))) (xs 2 o94_6_2 (xs 3 o94_6_3 (xs 4 o94_6_4 (xs 5 o94_6_5 xf)))))))) [4,5,6]
def c94_11 := xQ c94_10 xR
def c94_12 := xC 40 c94_11 xS
def c94_13 := xQ c94_9 c94_12
def c94_14 := xG [xm 44 9,
 xm 45 44,
 xT 46 45 (.fa (xt 8) 1),
 xT 47 45 (.ld (xt 46) 1 false),
 xT 48 45 (.fa (xt 3) 1),
 xT 49 45 (.ld (xt 48) 1 false),
 xT 50 45 (.bin .gtr (xt 47) (xt 49)),
 xo 51 (.pick (xt 45) (xt 50) (xb false))] [2,3,4,5,7,9,51]
def c94_15 := xG [xo 52 (.ld (xt 7) 2 true),
 xo 53 (.bld [.bool false, .int .i64 0] []),
 xn (.sto (xt 4) (xt 52) 2),
 xn (.sto (xt 5) (xt 53) 2),
 xo 6 (.mv (xb false))] [4,5,6]
def c94_16 := xQ c94_15 xR
def c94_17 := xC 51 c94_16 xS
def c94_18 := xQ c94_14 c94_17
def c94_19 := xG [xo 54 (.fa (xt 2) 0),
 xo 55 (.ld (xt 54) 1 false),
 xo 56 (.fa (xt 3) 3),
 xo 57 (.ld (xt 56) 1 false),
 xo 58 (.ia (xt 55) (xt 57) 1),
 xo 59 (.ld (xt 58) 1 false),
 xm 10 59] [3,4,5,7,9,10]
def c94_20 := xG [xo 60 (.fa (xt 3) 2),
 xo 61 (.ld (xt 60) 1 false),
 xo 62 (.bin .eql (xt 61) (xi 1)),
 xm 63 62,
 xF 64 63 (.mv (xt 10)),
 xF 65 63 (.fa (xt 3) 4),
 xF 66 63 (.ld (xt 65) 1 false),
 xF 67 63 (.bin .eql (xt 64) (xt 66)),
 xo 68 (.pick (xt 63) (xb true) (xt 67)),
 xm 69 10,
 xo 70 (.bld [.bool false, .int .i64 0] [(0, 1, (xt 68)), (1, 1, (xt 69))]),
 xo 11 (.alloc [.bool false, .int .i64 0]),
 xn (.sto (xt 11) (xt 70) 2)] [3,4,5,7,9,11]
def c94_21 := xG [xo 71 (.fa (xt 11) 0),
 xo 72 (.ld (xt 71) 1 false)] [3,4,5,7,9,11,72]
def c94_22 := xG [xo 73 (.fa (xt 7) 0),
 xo 74 (.ld (xt 73) 1 false),
 xo 75 (.fa (xt 3) 3),
 xo 76 (.ld (xt 75) 1 false),
 xo 77 (.fa (xt 3) 5),
 xo 78 (.ld (xt 77) 1 false),
 xo 79 (.ia (xt 74) (xt 76) 1),
 xn (.sto (xt 79) (xt 78) 1)] [3,4,5,7,9,11]
def c94_23 := xC 72 c94_22 xS
def c94_24 := xQ c94_21 c94_23
def c94_25 := xG [xo 12 (.mv (xi 0))] [3,4,5,7,9,11,12]
def c94_26 := xG [xm 80 12,
 ⟨(some 81), .fa (xt 7) 1, none, [0]⟩,
 ⟨(some 82), .ld (xt 81) 1 false, none, [0]⟩,
 xo 83 (.len false (xt 82)),
 xo 84 (.bin .lss (xt 80) (xt 83)),
 xm 85 84,
 xT 86 85 (.fa (xt 7) 1),
 xT 87 85 (.ld (xt 86) 1 false),
 xT 88 85 (.mv (xt 12)),
 xT 89 85 (.ia (xt 87) (xt 88) 4),
 xT 90 85 (.fa (xt 89) 0),
 xT 91 85 (.ld (xt 90) 1 false),
 ⟨(some 92), .fa (xt 3) 0, (some (85, true)), [6, 7, 8, 9, 10, 11]⟩,
 ⟨(some 93), .ld (xt 92) 1 false, (some (85, true)), [6, 7, 8, 9, 10, 11]⟩,
 xT 94 85 (.bin .lss (xt 91) (xt 93)),
 xo 95 (.pick (xt 85) (xt 94) (xb false))] [3,4,5,7,9,11,12,95]
def c94_27 := xC 95 xS (xE 0)
def c94_28 := xQ c94_26 c94_27
def c94_29 := xG [xm 96 12,
 xo 97 (.bin .add (xt 96) (xi 1)),
 xm 12 97] [3,4,5,7,9,11,12]
def c94_30 := xB 1 c94_29
def c94_31 := xQ c94_28 c94_30
def c94_32 := xL c94_31
def c94_33 := xB 0 c94_32
def c94_34 := xG [xo 98 (.fa (xt 7) 1),
 xo 99 (.ld (xt 98) 1 false),
 xm 100 12,
 xo 101 (.slc false (xt 99) (some (xt 100)) none none 4),
 xm 13 101] [3,4,5,7,9,11,12,13]
def c94_35 := xG [xm 102 9] [3,4,5,7,11,12,13,102]
def c94_36 := xG [xo 103 (.fa (xt 7) 1),
 xo 104 (.ld (xt 103) 1 false),
 xm 105 12,
 xo 106 (.bin .add (xt 105) (xi 1)),
 xo 107 (.slc false (xt 104) (some (xt 106)) none none 4),
 xm 13 107] [3,4,5,7,11,12,13]
def c94_37 := xC 102 c94_36 xS
def c94_38 := xQ c94_35 c94_37
def c94_39 : XC := fun _ => .region [xm 122 13] [xo 108 (.bsl 4 0 [.int .i64 0, .int .i64 0, .bool false, .int .i64 0] []),
 ⟨(some 109), .fa (xt 7) 1, none, [0]⟩,
 ⟨(some 110), .ld (xt 109) 1 false, none, [0]⟩,
 xm 111 12,
 ⟨(some 112), .slc false (xt 110) none (some (xt 111)) none 4, none, [0]⟩,
 ⟨(some 113), .appn (xt 108) (xt 112) 4 32, none, [1000000]⟩,
 ⟨(some 114), .fa (xt 3) 0, none, [0, 1, 2, 3, 4, 5]⟩,
 ⟨(some 115), .ld (xt 114) 1 false, none, [0, 1, 2, 3, 4, 5]⟩,
 ⟨(some 116), .fa (xt 3) 1, none, [0, 1, 2, 3, 4, 5, 6, 7]⟩,
 ⟨(some 117), .ld (xt 116) 1 false, none, [0, 1, 2, 3, 4, 5, 6, 7]⟩,
 ⟨(some 118), .ld (xt 11) 2 true, none, [0, 1, 2, 3, 4, 5, 6, 7, 8, 9]⟩,
 xo 119 (.bld [.int .i64 0, .int .i64 0, .bool false, .int .i64 0] [(0, 1, (xt 115)), (1, 1, (xt 117)), (2, 2, (xt 118))]),
 xo 120 (.bsl 4 1 [.int .i64 0, .int .i64 0, .bool false, .int .i64 0] [(0, (xt 119))]),
 xo 121 (.app (xt 113) (xt 120) 4 32),
 ⟨(some 122), .mv (xt 122), none, []⟩,
 xo 123 (.app (xt 121) (xt 122) 4 32),
 xo 124 (.fa (xt 7) 1),
 xn (.sto (xt 124) (xt 123) 1)] [4,5,7,11]
def o94_20_0 : MOper := ⟨(some 125), .ld (xt 7) 2 true, none, []⟩
def o94_20_1 : MOper := ⟨(some 126), .ld (xt 11) 2 true, none, []⟩
def o94_20_2 : MOper := ⟨none, .sto (xt 4) (xt 125) 2, none, []⟩
def o94_20_3 : MOper := ⟨none, .sto (xt 5) (xt 126) 2, none, []⟩
def o94_20_4 : MOper := ⟨(some 6), .mv (xb true), none, []⟩
def c94_40 := xA 5 (xu (xs 0 o94_20_1 (xs 1 o94_20_0 (xs 2 o94_20_2 (xs 3 o94_20_3 (xs 4 o94_20_4 xf))))) (xs 0 o94_20_0 (xu (xs 1 o94_20_2 (xs 2 o94_20_1 (xs 3 o94_20_3 (xs 4 o94_20_4 xf)))) (xs 1 o94_20_1 (xs 2 o94_20_2 (xs 3 o94_20_3 (xs 4 o94_20_4 xf))))))) [4,5,6]
def c94_41 := xQ c94_40 xR
def c94_42 := xQ c94_39 c94_41
def c94_43 := xQ c94_38 c94_42
def c94_44 := xQ c94_34 c94_43
def c94_45 := xQ c94_33 c94_44
def c94_46 := xQ c94_25 c94_45
def c94_47 := xQ c94_24 c94_46
def c94_48 := xQ c94_20 c94_47
def c94_49 := xQ c94_19 c94_48
def c94_50 := xQ c94_18 c94_49
def c94_51 := xQ c94_13 c94_50
def c94_52 := xQ c94_8 c94_51
def c94_53 := xQ c94_7 c94_52
def c94_54 := xQ c94_2 c94_53
def c94_55 := xQ c94_1 c94_54
abbrev n_spec_ApplyOp : Nat := 94
theorem k_spec_ApplyOp : Known Pr mu n_spec_ApplyOp (c94_55 ()) [.c 4 2 true, .c 5 2 true, .t 6] Go.Proofs.Tryz.f94.ntmps := .of [(0, [2,3,4,5], [], [], []), (1, [2,3,4,5,7], [], [], []), (2, [2,3,4,5,7,23], [], [], []), (3, [4,5,6], [], [], []), (4, [2,3,4,5,7,8,9], [], [], []), (5, [2,3,4,5,7,8,9,40], [], [], []), (6, [4,5,6], [], [9999], [1]), (7, [2,3,4,5,7,9,51], [], [], []), (8, [4,5,6], [], [], []), (9, [3,4,5,7,9,10], [], [], []), (10, [3,4,5,7,9,11], [], [], []), (11, [3,4,5,7,9,11,72], [], [], []), (12, [3,4,5,7,9,11], [], [], []), (13, [3,4,5,7,9,11,12], [], [], []), (14, [3,4,5,7,9,11,12,95], [[],[0],[0],[],[],[],[],[],[],[],[],[],[6,7,8,9,10,11],[6,7,8,9,10,11]], [], []), (15, [3,4,5,7,9,11,12], [], [], []), (16, [3,4,5,7,9,11,12,13], [], [], []), (17, [3,4,5,7,11,12,13,102], [], [], []), (18, [3,4,5,7,11,12,13], [], [], []), (19, [4,5,7,11], [[],[0],[0],[],[0],[1000000],[0,1,2,3,4,5],[0,1,2,3,4,5],[0,1,2,3,4,5,6,7],[0,1,2,3,4,5,6,7],[0,1,2,3,4,5,6,7,8,9]], [14], []), (20, [4,5,6], [], [9999], [])] hm Go.Proofs.Tryz.func94
def c95_1 := xG [xo 4 (.mv (xi 0))] [0,1]
def c95_2 := xG [xm 6 0,
 xo 7 (.len false (xt 6)),
 xo 8 (.mv (xi 0))] [0,1,7,8]
def c95_3 := xG [xo 9 (.bin .lss (xt 8) (xt 7))] [0,1,7,8,9]
def c95_4 := xC 9 xS (xE 0)
def c95_5 := xG [xm 10 8,
 xm 5 10] [0,1,5,7,8]
def c95_6 := xG [xm 11 1,
 xm 12 0,
 xm 13 5,
 xo 14 (.ia (xt 12) (xt 13) 1),
 xo 15 (.ld (xt 14) 1 false),
 xo 16 (.callv (xt 11) [xt 15])] [0,1,5,7,8,16]
def c95_7 := xG [xm 17 5,
 xm 4 17] [4]
def c95_8 := xQ c95_7 xR
def c95_9 := xC 16 c95_8 xS
def c95_10 := xQ c95_6 c95_9
def c95_11 := xQ c95_5 c95_10
def c95_12 := xB 1 c95_11
def c95_13 := xG [xo 18 (.bin .add (xt 8) (xi 1)),
 xm 8 18] [0,1,7,8]
def c95_14 := xQ c95_12 c95_13
def c95_15 := xQ c95_4 c95_14
def c95_16 := xQ c95_3 c95_15
def c95_17 := xL c95_16
def c95_18 := xB 0 c95_17
def c95_19 := xQ c95_2 c95_18
def c95_20 := xG [xo 4 (.mv (xi (-1)))] [4]
def c95_21 := xQ c95_20 xR
def c95_22 := xQ c95_19 c95_21
def c95_23 := xQ c95_1 c95_22
abbrev n_slices_IndexFunc_intint : Nat := 95
theorem k_slices_IndexFunc_intint : Known Pr mu n_slices_IndexFunc_intint (c95_23 ()) [.t 4] Go.Proofs.Tryz.f95.ntmps := .of [(0, [0,1], [], [], []), (1, [0,1,7,8], [], [], []), (2, [0,1,7,8,9], [], [], []), (3, [0,1,5,7,8], [], [], []), (4, [0,1,5,7,8,16], [], [], []), (5, [4], [], [], []), (6, [0,1,7,8], [], [], []), (7, [4], [], [], [])] hm Go.Proofs.Tryz.func95
def c100_1 := xG [xo 4 (.mv (.const (.string ⟨#[]⟩)))] [0,1]
def c100_2 := xG [xm 10 1,
 xo 11 (.bin .eql (xt 10) (xi 10))] [0,1,11]
def c100_3 := xG [xm 12 0,
 xo 13 (.bin .leq (xi 0) (xt 12)),
 xm 14 13,
 xT 15 14 (.mv (xt 0)),
 xT 16 14 (.bin .lss (xt 15) (xi 100)),
 xo 17 (.pick (xt 14) (xt 16) (xb false))] [0,17]
def c100_4 := xG [xm 18 0,
 xo 19 (.call 114 [xt 18]),
 xm 4 19] [4]
def c100_5 := xQ c100_4 xR
def c100_6 := xC 17 c100_5 xS
def c100_7 := xQ c100_3 c100_6
def c100_8 := xG [xo 5 (.alloc [.int .u8 0, .int .u8 0, .int .u8 0, .int .u8 0, .int .u8 0, .int .u8 0, .int .u8 0, .int .u8 0, .int .u8 0, .int .u8 0, .int .u8 0, .int .u8 0, .int .u8 0, .int .u8 0, .int .u8 0, .int .u8 0, .int .u8 0, .int .u8 0, .int .u8 0, .int .u8 0, .int .u8 0, .int .u8 0, .int .u8 0, .int .u8 0])] [0,5]
def c100_9 := xG [xm 20 0,
 xo 21 (.conv .u64 (xt 20)),
 xm 6 21] [0,5,6]
def c100_10 := xG [xm 22 0,
 xo 23 (.bin .lss (xt 22) (xi 0))] [0,5,6,23]
def c100_11 := xG [xm 24 6,
 xo 25 (.neg (xt 24)),
 xm 6 25] [0,5,6]
def c100_12 := xC 23 c100_11 xS
def c100_13 := xQ c100_10 c100_12
def c100_14 := xG [xm 26 6,
 xo 27 (.call 115 [xt 26]),
 xm 7 27] [0,5,6,7]
def c100_15 := xG [xm 28 7,
 xo 29 (.bin .add (xi 1) (xt 28)),
 xo 30 (.no),
 xm 31 6,
 xo 32 (.call 116 [xt 30, xt 31])] [0,5,7]
def c100_16 := xG [xm 33 0,
 xo 34 (.bin .lss (xt 33) (xi 0))] [5,7,34]
def c100_17 := xG [xo 35 (.iaa (xt 5) (xi 0) 24 1),
 xn (.sto (xt 35) (.const (.int .u8 45)) 1)] [5,7]
def c100_18 := xG [xm 36 7,
 xo 37 (.bin .add (xi 1) (xt 36)),
 xo 38 (.no),
 xo 39 (.cst (xt 38)),
 xm 4 39] [4]
def c100_19 := xQ c100_18 xR
def c100_20 := xQ c100_17 c100_19
def c100_21 := xC 34 c100_20 xS
def c100_22 := xQ c100_16 c100_21
def c100_23 := xG [xm 40 7,
 xo 41 (.bin .add (xi 1) (xt 40)),
 xo 42 (.no),
 xo 43 (.cst (xt 42)),
 xm 4 43] [4]
def c100_24 := xQ c100_23 xR
def c100_25 := xQ c100_22 c100_24
def c100_26 := xQ c100_15 c100_25
def c100_27 := xQ c100_14 c100_26
def c100_28 := xQ c100_13 c100_27
def c100_29 := xQ c100_9 c100_28
def c100_30 := xQ c100_8 c100_29
def c100_31 := xQ c100_7 c100_30
def c100_32 := xC 11 c100_31 xS
def c100_33 := xQ c100_2 c100_32
def c100_34 := xG [xm 45 0,
 xo 46 (.conv .u64 (xt 45)),
 xm 47 1,
 xm 48 0,
 xo 49 (.bin .lss (xt 48) (xi 0)),
 xo 50 (.call 117 [(.const (.slice none 0 0)), xt 46, xt 47, xt 49, xb false]),
 xm 44 50,
 xo 51 (.ext (xt 44) 0),
 xo 52 (.ext (xt 44) 1),
 xm 8 51,
 xm 9 52] [9]
def c100_35 := xG [xm 53 9,
 xm 4 53] [4]
def c100_36 := xQ c100_35 xR
def c100_37 := xQ c100_34 c100_36
def c100_38 := xQ c100_33 c100_37
def c100_39 := xQ c100_1 c100_38
abbrev n_internal_strconv_FormatInt : Nat := 100
theorem k_internal_strconv_FormatInt : Known Pr mu n_internal_strconv_FormatInt (c100_39 ()) [.t 4] Go.Proofs.Tryz.f100.ntmps := .of [(0, [0,1], [], [], []), (1, [0,1,11], [], [], []), (2, [0,17], [], [], []), (3, [4], [], [], []), (4, [0,5], [], [], []), (5, [0,5,6], [], [], []), (6, [0,5,6,23], [], [], []), (7, [0,5,6], [], [], []), (8, [0,5,6,7], [], [], []), (9, [0,5,7], [], [], []), (10, [5,7,34], [], [], []), (11, [5,7], [], [], []), (12, [4], [], [], []), (13, [4], [], [], []), (14, [9], [], [], []), (15, [4], [], [], [])] hm Go.Proofs.Tryz.func100
def c108_1 := xG [xo 4 (.mv (xi 0))] [0,1]
def c108_2 := xG [xm 6 0,
 xo 7 (.len false (xt 6)),
 xo 8 (.mv (xi 0))] [0,1,7,8]
def c108_3 := xG [xo 9 (.bin .lss (xt 8) (xt 7))] [0,1,7,8,9]
def c108_4 := xC 9 xS (xE 0)
def c108_5 := xG [xm 10 8,
 xm 5 10] [0,1,5,7,8]
def c108_6 := xG [xm 11 1,
 xm 12 0,
 xm 13 5,
 xo 14 (.ia (xt 12) (xt 13) 1),
 xo 15 (.ld (xt 14) 1 false),
 xo 16 (.bin .eql (xt 11) (xt 15))] [0,1,5,7,8,16]
def c108_7 := xG [xm 17 5,
 xm 4 17] [4]
def c108_8 := xQ c108_7 xR
def c108_9 := xC 16 c108_8 xS
def c108_10 := xQ c108_6 c108_9
def c108_11 := xQ c108_5 c108_10
def c108_12 := xB 1 c108_11
def c108_13 := xG [xo 18 (.bin .add (xt 8) (xi 1)),
 xm 8 18] [0,1,7,8]
def c108_14 := xQ c108_12 c108_13
def c108_15 := xQ c108_4 c108_14
def c108_16 := xQ c108_3 c108_15
def c108_17 := xL c108_16
def c108_18 := xB 0 c108_17
def c108_19 := xQ c108_2 c108_18
def c108_20 := xG [xo 4 (.mv (xi (-1)))] [4]
def c108_21 := xQ c108_20 xR
def c108_22 := xQ c108_19 c108_21
def c108_23 := xQ c108_1 c108_22
abbrev n_slices_Index_intint : Nat := 108
theorem k_slices_Index_intint : Known Pr mu n_slices_Index_intint (c108_23 ()) [.t 4] Go.Proofs.Tryz.f108.ntmps := .of [(0, [0,1], [], [], []), (1, [0,1,7,8], [], [], []), (2, [0,1,7,8,9], [], [], []), (3, [0,1,5,7,8], [], [], []), (4, [0,1,5,7,8,16], [], [], []), (5, [4], [], [], []), (6, [0,1,7,8], [], [], []), (7, [4], [], [], [])] hm Go.Proofs.Tryz.func108
def c109_1 := xG [xo 4 (.mv (.const (.slice none 0 0)))] [0,1]
def c109_2 := xG [xm 8 0,
 xm 9 1,
 xo 10 (.call 95 [xt 8, xt 9]),
 xm 5 10] [0,1,5]
def c109_3 := xG [xm 11 5,
 xo 12 (.bin .eql (xt 11) (xi (-1)))] [0,1,5,12]
def c109_4 := xG [xm 13 0,
 xm 4 13] [4]
def c109_5 := xQ c109_4 xR
def c109_6 := xC 12 c109_5 xS
def c109_7 := xQ c109_3 c109_6
def c109_8 := xG [xm 14 5,
 xo 15 (.bin .add (xt 14) (xi 1)),
 xm 6 15] [0,1,5,6]
def c109_9 := xG [xm 16 6,
 xm 17 0,
 xo 18 (.len false (xt 17)),
 xo 19 (.bin .lss (xt 16) (xt 18))] [0,1,5,6,19]
def c109_10 := xC 19 xS (xE 0)
def c109_11 := xQ c109_9 c109_10
def c109_12 := xG [xm 22 0,
 xm 23 6,
 xo 24 (.ia (xt 22) (xt 23) 1),
 xo 25 (.ld (xt 24) 1 false),
 xm 7 25] [0,1,5,6,7]
def c109_13 := xG [xm 26 1,
 xm 27 7,
 xo 28 (.callv (xt 26) [xt 27]),
 xo 29 (.not (xt 28))] [0,1,5,6,7,29]
def c109_14 := xG [xm 30 0,
 xm 31 5,
 xm 32 7,
 xo 33 (.ia (xt 30) (xt 31) 1),
 xn (.sto (xt 33) (xt 32) 1)] [0,1,5,6]
def c109_15 := xG [xm 34 5,
 xo 35 (.bin .add (xt 34) (xi 1)),
 xm 5 35] [0,1,5,6]
def c109_16 := xQ c109_14 c109_15
def c109_17 := xC 29 c109_16 xS
def c109_18 := xQ c109_13 c109_17
def c109_19 := xQ c109_12 c109_18
def c109_20 := xB 1 c109_19
def c109_21 := xG [xm 20 6,
 xo 21 (.bin .add (xt 20) (xi 1)),
 xm 6 21] [0,1,5,6]
def c109_22 := xQ c109_20 c109_21
def c109_23 := xQ c109_11 c109_22
def c109_24 := xL c109_23
def c109_25 := xB 0 c109_24
def c109_26 := xQ c109_8 c109_25
def c109_27 := xG [xm 36 0,
 xm 37 5,
 xo 38 (.slc false (xt 36) (some (xt 37)) none none 1),
 xn (.clr (xt 38) 1 [.int .i64 0])] [0,5]
def c109_28 := xG [xm 39 0,
 xm 40 5,
 xo 41 (.slc false (xt 39) none (some (xt 40)) none 1),
 xm 4 41] [4]
def c109_29 := xQ c109_28 xR
def c109_30 := xQ c109_27 c109_29
def c109_31 := xQ c109_26 c109_30
def c109_32 := xQ c109_7 c109_31
def c109_33 := xQ c109_2 c109_32
def c109_34 := xQ c109_1 c109_33
abbrev n_slices_DeleteFunc_intint : Nat := 109
theorem k_slices_DeleteFunc_intint : Known Pr mu n_slices_DeleteFunc_intint (c109_34 ()) [.t 4] Go.Proofs.Tryz.f109.ntmps := .of [(0, [0,1], [], [], []), (1, [0,1,5], [], [], []), (2, [0,1,5,12], [], [], []), (3, [4], [], [], []), (4, [0,1,5,6], [], [], []), (5, [0,1,5,6,19], [], [], []), (7, [0,1,5,6,7], [], [], []), (8, [0,1,5,6,7,29], [], [], []), (9, [0,1,5,6], [], [], []), (10, [0,1,5,6], [], [], []), (6, [0,1,5,6], [], [], []), (11, [0,5], [], [], []), (12, [4], [], [], [])] hm Go.Proofs.Tryz.func109
def c110_1 := xG [xo 2 (.mv (.const (.slice none 0 0)))] [0]
def c110_2 := xG [xm 4 0,
 xo 5 (.call 121 [xt 4]),
 xm 3 5] [3]
def c110_3 := xG [xm 6 3,
 xo 7 (.callm 122 [xt 6])] [3]
def c110_4 := xG [xm 8 3,
 xo 9 (.callm 123 [xt 8]),
 xm 2 9] [2]
def c110_5 := xQ c110_4 xR
def c110_6 := xQ c110_3 c110_5
def c110_7 := xQ c110_2 c110_6
def c110_8 := xQ c110_1 c110_7
abbrev n_impl_ascending : Nat := 110
theorem k_impl_ascending : Known Pr mu n_impl_ascending (c110_8 ()) [.t 2] Go.Proofs.Tryz.f110.ntmps := .of [(0, [0], [], [], []), (1, [3], [], [], []), (2, [3], [], [], []), (3, [2], [], [], [])] hm Go.Proofs.Tryz.func110
def c111_1 := xG [xo 3 (.mv (xb false))] [0,1]
def c111_2 := xG [xo 4 (.ld (xt 1) 1 false),
 xm 5 0,
 xo 6 (.call 70 [xt 4, xt 5]),
 xm 3 6] [3]
def c111_3 := xQ c111_2 xR
def c111_4 := xQ c111_1 c111_3
abbrev n_impl_WithoutServers_c1 : Nat := 111
theorem k_impl_WithoutServers_c1 : Known Pr mu n_impl_WithoutServers_c1 (c111_4 ()) [.t 3] Go.Proofs.Tryz.f111.ntmps := .of [(0, [0,1], [], [], []), (1, [3], [], [], [])] hm Go.Proofs.Tryz.func111
def c112_1 := xG [xo 1 (.box (xt 0)),
 xo 2 (.alloc [.slice none 0 0, .slice none 0 0])] [1,2]
def c112_2 := xG [xo 3 (.bsl 1 0 [.int .i64 0] []),
 ⟨(some 4), .fa (xt 1) 0, none, [0]⟩,
 ⟨(some 5), .ld (xt 4) 1 false, none, [0]⟩,
 ⟨(some 6), .appn (xt 3) (xt 5) 1 8, none, [1000000]⟩,
 xo 7 (.bsl 4 0 [.int .i64 0, .int .i64 0, .bool false, .int .i64 0] []),
 ⟨(some 8), .fa (xt 1) 1, none, [0, 1, 2, 3, 4]⟩,
 ⟨(some 9), .ld (xt 8) 1 false, none, [0, 1, 2, 3, 4]⟩,
 ⟨(some 10), .appn (xt 7) (xt 9) 4 32, none, [1000000]⟩,
 xo 11 (.bld [.slice none 0 0, .slice none 0 0] [(0, 1, (xt 6)), (1, 1, (xt 10))]),
 xn (.sto (xt 2) (xt 11) 2)] [2]
def c112_3 := xQ c112_2 xR
def c112_4 := xQ c112_1 c112_3
abbrev n_spec_l4Copy : Nat := 112
theorem k_spec_l4Copy : Known Pr mu n_spec_l4Copy (c112_4 ()) [.c 2 2 true] Go.Proofs.Tryz.f112.ntmps := .of [(0, [1,2], [], [], []), (1, [2], [[],[0],[0],[1000000],[],[0,1,2,3,4],[0,1,2,3,4],[1000000]], [], [])] hm Go.Proofs.Tryz.func112
def c113_1 := xG [xo 2 (.box (xt 0)),
 xo 4 (.alloc [.int .i64 0, .int .i64 0, .bool false, .int .i64 0]),
 xo 5 (.mv (xb false))] [1,2,4]
def c113_2 := xG [xo 6 (.mv (xi 0))] [1,2,4,6]
def c113_3 := xG [xm 7 6,
 xo 8 (.fa (xt 2) 1),
 xo 9 (.ld (xt 8) 1 false),
 xo 10 (.len false (xt 9)),
 xo 11 (.bin .lss (xt 7) (xt 10))] [1,2,4,6,11]
def c113_4 := xC 11 xS (xE 0)
def c113_5 := xQ c113_3 c113_4
def c113_6 := xG [xo 14 (.fa (xt 2) 1),
 xo 15 (.ld (xt 14) 1 false),
 xm 16 6,
 xo 17 (.ia (xt 15) (xt 16) 4),
 xo 18 (.fa (xt 17) 0),
 xo 19 (.ld (xt 18) 1 false),
 xm 20 1,
 xo 21 (.bin .eql (xt 19) (xt 20))] [1,2,4,6,21]
def c113_7 := xG [xo 22 (.fa (xt 2) 1),
 xo 23 (.ld (xt 22) 1 false),
 xm 24 6,
 xo 25 (.ia (xt 23) (xt 24) 4),
 xo 26 (.ld (xt 25) 4 true),
 xn (.sto (xt 4) (xt 26) 4),
 xo 5 (.mv (xb true))] [4,5]
def c113_8 := xQ c113_7 xR
def c113_9 := xC 21 c113_8 xS
def c113_10 := xQ c113_6 c113_9
def c113_11 := xB 1 c113_10
def c113_12 := xG [xm 12 6,
 xo 13 (.bin .add (xt 12) (xi 1)),
 xm 6 13] [1,2,4,6]
def c113_13 := xQ c113_11 c113_12
def c113_14 := xQ c113_5 c113_13
def c113_15 := xL c113_14
def c113_16 := xB 0 c113_15
def c113_17 := xQ c113_2 c113_16
def c113_18 := xG [xo 27 (.bld [.int .i64 0, .int .i64 0, .bool false, .int .i64 0] []),
 xn (.sto (xt 4) (xt 27) 4),
 xo 5 (.mv (xb false))] [4,5]
def c113_19 := xQ c113_18 xR
def c113_20 := xQ c113_17 c113_19
def c113_21 := xQ c113_1 c113_20
abbrev n_spec_SessionOf : Nat := 113
theorem k_spec_SessionOf : Known Pr mu n_spec_SessionOf (c113_21 ()) [.c 4 4 true, .t 5] Go.Proofs.Tryz.f113.ntmps := .of [(0, [1,2,4], [], [], []), (1, [1,2,4,6], [], [], []), (2, [1,2,4,6,11], [], [], []), (4, [1,2,4,6,21], [], [], []), (5, [4,5], [], [], []), (3, [1,2,4,6], [], [], []), (6, [4,5], [], [], [])] hm Go.Proofs.Tryz.func113
def c114_1 := xG [xo 2 (.mv (.const (.string ⟨#[]⟩)))] [0]
def c114_2 := xG [xm 3 0,
 xo 4 (.bin .lss (xt 3) (xi 10))] [0,4]
def c114_3 := xG [xm 5 0,
 xm 6 0,
 xo 7 (.bin .add (xt 6) (xi 1)),
 xo 8 (.slc true (.const (.string ⟨#[48, 49, 50, 51, 52, 53, 54, 55, 56, 57, 97, 98, 99, 100, 101, 102, 103, 104, 105, 106, 107, 108, 109, 110, 111, 112, 113, 114, 115, 116, 117, 118, 119, 120, 121, 122]⟩)) (some (xt 5)) (some (xt 7)) none 0),
 xm 2 8] [2]
def c114_4 := xQ c114_3 xR
def c114_5 := xC 4 c114_4 xS
def c114_6 := xQ c114_2 c114_5
def c114_7 := xG [xm 9 0,
 xo 10 (.bin .mul (xt 9) (xi 2)),
 xm 11 0,
 xo 12 (.bin .mul (xt 11) (xi 2)),
 xo 13 (.bin .add (xt 12) (xi 2)),
 xo 14 (.slc true (.const (.string ⟨#[48, 48, 48, 49, 48, 50, 48, 51, 48, 52, 48, 53, 48, 54, 48, 55, 48, 56, 48, 57, 49, 48, 49, 49, 49, 50, 49, 51, 49, 52, 49, 53, 49, 54, 49, 55, 49, 56, 49, 57, 50, 48, 50, 49, 50, 50, 50, 51, 50, 52, 50, 53, 50, 54, 50, 55, 50, 56, 50, 57, 51, 48, 51, 49, 51, 50, 51, 51, 51, 52, 51, 53, 51, 54, 51, 55, 51, 56, 51, 57, 52, 48, 52, 49, 52, 50, 52, 51, 52, 52, 52, 53, 52, 54, 52, 55, 52, 56, 52, 57, 53, 48, 53, 49, 53, 50, 53, 51, 53, 52, 53, 53, 53, 54, 53, 55, 53, 56, 53, 57, 54, 48, 54, 49, 54, 50, 54, 51, 54, 52, 54, 53, 54, 54, 54, 55, 54, 56, 54, 57, 55, 48, 55, 49, 55, 50, 55, 51, 55, 52, 55, 53, 55, 54, 55, 55, 55, 56, 55, 57, 56, 48, 56, 49, 56, 50, 56, 51, 56, 52, 56, 53, 56, 54, 56, 55, 56, 56, 56, 57, 57, 48, 57, 49, 57, 50, 57, 51, 57, 52, 57, 53, 57, 54, 57, 55, 57, 56, 57, 57]⟩)) (some (xt 10)) (some (xt 13)) none 0),
 xm 2 14] [2]
def c114_8 := xQ c114_7 xR
def c114_9 := xQ c114_6 c114_8
def c114_10 := xQ c114_1 c114_9
abbrev n_internal_strconv_small : Nat := 114
theorem k_internal_strconv_small : Known Pr mu n_internal_strconv_small (c114_10 ()) [.t 2] Go.Proofs.Tryz.f114.ntmps := .of [(0, [0], [], [], []), (1, [0,4], [], [], []), (2, [2], [], [], []), (3, [2], [], [], [])] hm Go.Proofs.Tryz.func114
def c121_1 := xG [xo 2 (.mv (.const (.slice none 0 0)))] [0]
def c121_2 := xG [xm 3 0,
 xo 4 (.nbin .eql (xt 3) (.const (.slice none 0 0)))] [0,4]
def c121_3 := xG [xo 2 (.mv (.const (.slice none 0 0)))] [2]
def c121_4 := xQ c121_3 xR
def c121_5 := xC 4 c121_4 xS
def c121_6 := xQ c121_2 c121_5
def c121_7 := xG [xo 5 (.bsl 1 0 [.int .i64 0] []),
 xm 6 0,
 xo 7 (.app (xt 5) (xt 6) 1 8),
 xm 2 7] [2]
def c121_8 := xQ c121_7 xR
def c121_9 := xQ c121_6 c121_8
def c121_10 := xQ c121_1 c121_9
abbrev n_slices_Clone_intint : Nat := 121
theorem k_slices_Clone_intint : Known Pr mu n_slices_Clone_intint (c121_10 ()) [.t 2] Go.Proofs.Tryz.f121.ntmps := .of [(0, [0], [], [], []), (1, [0,4], [], [], []), (2, [2], [], [], []), (3, [2], [], [], [])] hm Go.Proofs.Tryz.func121
def c122_1 := xG [xm 3 0,
 xo 4 (.len false (xt 3)),
 xm 2 4] [0,2]
def c122_2 := xG [xm 5 0,
 xm 6 2,
 xm 7 2,
 xo 8 (.conv .u64 (xt 7)),
 xo 9 (.call 130 [xt 8]),
 xo 10 (.callm 129 [xt 5, xi 0, xt 6, xt 9])] []
def c122_3 := xQ c122_1 c122_2
abbrev n_slices_Sort_intint : Nat := 122
theorem k_slices_Sort_intint : Known Pr mu n_slices_Sort_intint (c122_3 ()) [] Go.Proofs.Tryz.f122.ntmps := .of [(0, [0,2], [], [], []), (1, [], [], [], [])] hm Go.Proofs.Tryz.func122
def c123_1 := xG [xo 2 (.mv (.const (.slice none 0 0)))] [0]
def c123_2 := xG [xm 6 0,
 xo 7 (.len false (xt 6)),
 xo 8 (.bin .lss (xt 7) (xi 2))] [0,8]
def c123_3 := xG [xm 9 0,
 xm 2 9] [2]
def c123_4 := xQ c123_3 xR
def c123_5 := xC 8 c123_4 xS
def c123_6 := xQ c123_2 c123_5
def c123_7 := xG [xo 3 (.mv (xi 1))] [0,3]
def c123_8 := xG [xm 10 3,
 xm 11 0,
 xo 12 (.len false (xt 11)),
 xo 13 (.bin .lss (xt 10) (xt 12))] [0,3,13]
def c123_9 := xC 13 xS (xE 0)
def c123_10 := xQ c123_8 c123_9
def c123_11 := xG [xm 16 0,
 xm 17 3,
 xo 18 (.ia (xt 16) (xt 17) 1),
 xo 19 (.ld (xt 18) 1 false),
 xm 20 0,
 xm 21 3,
 xo 22 (.bin .sub (xt 21) (xi 1)),
 ⟨(some 23), .ia (xt 20) (xt 22) 1, none, [0, 1, 2, 3]⟩,
 ⟨(some 24), .ld (xt 23) 1 false, none, [0, 1, 2, 3]⟩,
 xo 25 (.bin .eql (xt 19) (xt 24))] [0,3,25]
def c123_12 := xG [xm 26 0,
 xm 27 3,
 xo 28 (.slc false (xt 26) (some (xt 27)) none none 1),
 xm 4 28] [0,3,4]
def c123_13 := xG [xo 5 (.mv (xi 1))] [0,3,4,5]
def c123_14 := xG [xm 29 5,
 xm 30 4,
 xo 31 (.len false (xt 30)),
 xo 32 (.bin .lss (xt 29) (xt 31))] [0,3,4,5,32]
def c123_15 := xC 32 xS (xE 2)
def c123_16 := xQ c123_14 c123_15
def c123_17 := xG [xm 35 4,
 xm 36 5,
 xo 37 (.ia (xt 35) (xt 36) 1),
 xo 38 (.ld (xt 37) 1 false),
 xm 39 4,
 xm 40 5,
 xo 41 (.bin .sub (xt 40) (xi 1)),
 ⟨(some 42), .ia (xt 39) (xt 41) 1, none, [0, 1, 2, 3]⟩,
 ⟨(some 43), .ld (xt 42) 1 false, none, [0, 1, 2, 3]⟩,
 xo 44 (.bin .neq (xt 38) (xt 43))] [0,3,4,5,44]
def c123_18 := xG [xm 45 0,
 xm 46 3,
 xm 47 4,
 xm 48 5,
 xo 49 (.ia (xt 47) (xt 48) 1),
 xo 50 (.ld (xt 49) 1 false),
 xo 51 (.ia (xt 45) (xt 46) 1),
 xn (.sto (xt 51) (xt 50) 1)] [0,3,4,5]
def c123_19 := xG [xm 52 3,
 xo 53 (.bin .add (xt 52) (xi 1)),
 xm 3 53] [0,3,4,5]
def c123_20 := xQ c123_18 c123_19
def c123_21 := xC 44 c123_20 xS
def c123_22 := xQ c123_17 c123_21
def c123_23 := xB 3 c123_22
def c123_24 := xG [xm 33 5,
 xo 34 (.bin .add (xt 33) (xi 1)),
 xm 5 34] [0,3,4,5]
def c123_25 := xQ c123_23 c123_24
def c123_26 := xQ c123_16 c123_25
def c123_27 := xL c123_26
def c123_28 := xB 2 c123_27
def c123_29 := xQ c123_13 c123_28
def c123_30 := xG [xm 54 0,
 xm 55 3,
 xo 56 (.slc false (xt 54) (some (xt 55)) none none 1),
 xn (.clr (xt 56) 1 [.int .i64 0])] [0,3]
def c123_31 := xG [xm 57 0,
 xm 58 3,
 xo 59 (.slc false (xt 57) none (some (xt 58)) none 1),
 xm 2 59] [2]
def c123_32 := xQ c123_31 xR
def c123_33 := xQ c123_30 c123_32
def c123_34 := xQ c123_29 c123_33
def c123_35 := xQ c123_12 c123_34
def c123_36 := xC 25 c123_35 xS
def c123_37 := xQ c123_11 c123_36
def c123_38 := xB 1 c123_37
def c123_39 := xG [xm 14 3,
 xo 15 (.bin .add (xt 14) (xi 1)),
 xm 3 15] [0,3]
def c123_40 := xQ c123_38 c123_39
def c123_41 := xQ c123_10 c123_40
def c123_42 := xL c123_41
def c123_43 := xB 0 c123_42
def c123_44 := xQ c123_7 c123_43
def c123_45 := xG [xm 60 0,
 xm 2 60] [2]
def c123_46 := xQ c123_45 xR
def c123_47 := xQ c123_44 c123_46
def c123_48 := xQ c123_6 c123_47
def c123_49 := xQ c123_1 c123_48
abbrev n_slices_Compact_intint : Nat := 123
theorem k_slices_Compact_intint : Known Pr mu n_slices_Compact_intint (c123_49 ()) [.t 2] Go.Proofs.Tryz.f123.ntmps := .of [(0, [0], [], [], []), (1, [0,8], [], [], []), (2, [2], [], [], []), (3, [0,3], [], [], []), (4, [0,3,13], [], [], []), (6, [0,3,25], [[],[],[],[],[],[],[],[0,1,2,3],[0,1,2,3]], [], []), (7, [0,3,4], [], [], []), (8, [0,3,4,5], [], [], []), (9, [0,3,4,5,32], [], [], []), (11, [0,3,4,5,44], [[],[],[],[],[],[],[],[0,1,2,3],[0,1,2,3]], [], []), (12, [0,3,4,5], [], [], []), (13, [0,3,4,5], [], [], []), (10, [0,3,4,5], [], [], []), (14, [0,3], [], [], []), (15, [2], [], [], []), (5, [0,3], [], [], []), (16, [2], [], [], [])] hm Go.Proofs.Tryz.func123
def c125_1 := xG [xo 2 (.mv (xi 0))] [0,2]
def c125_2 := xG [xm 3 0,
 xo 4 (.bin .geq (xt 3) (.const (.int .u64 4294967296)))] [0,2,4]
def c125_3 := xG [xm 5 0,
 xo 6 (.bit .shr (xt 5) (.const (.int .u64 32))),
 xm 0 6] [0]
def c125_4 := xG [xo 2 (.mv (xi 32))] [0,2]
def c125_5 := xQ c125_3 c125_4
def c125_6 := xC 4 c125_5 xS
def c125_7 := xQ c125_2 c125_6
def c125_8 := xG [xm 7 0,
 xo 8 (.bin .geq (xt 7) (.const (.int .u64 65536)))] [0,2,8]
def c125_9 := xG [xm 9 0,
 xo 10 (.bit .shr (xt 9) (.const (.int .u64 16))),
 xm 0 10] [0,2]
def c125_10 := xG [xm 11 2,
 xo 12 (.bin .add (xt 11) (xi 16)),
 xm 2 12] [0,2]
def c125_11 := xQ c125_9 c125_10
def c125_12 := xC 8 c125_11 xS
def c125_13 := xQ c125_8 c125_12
def c125_14 := xG [xm 13 0,
 xo 14 (.bin .geq (xt 13) (.const (.int .u64 256)))] [0,2,14]
def c125_15 := xG [xm 15 0,
 xo 16 (.bit .shr (xt 15) (.const (.int .u64 8))),
 xm 0 16] [0,2]
def c125_16 := xG [xm 17 2,
 xo 18 (.bin .add (xt 17) (xi 8)),
 xm 2 18] [0,2]
def c125_17 := xQ c125_15 c125_16
def c125_18 := xC 14 c125_17 xS
def c125_19 := xQ c125_14 c125_18
def c125_20 := xG [xm 19 2,
 xm 20 0,
 xo 21 (.conv .u8 (xt 20)),
 xo 22 (.sidx (.const (.string ⟨#[0, 1, 2, 2, 3, 3, 3, 3, 4, 4, 4, 4, 4, 4, 4, 4, 5, 5, 5, 5, 5, 5, 5, 5, 5, 5, 5, 5, 5, 5, 5, 5, 6, 6, 6, 6, 6, 6, 6, 6, 6, 6, 6, 6, 6, 6, 6, 6, 6, 6, 6, 6, 6, 6, 6, 6, 6, 6, 6, 6, 6, 6, 6, 6, 7, 7, 7, 7, 7, 7, 7, 7, 7, 7, 7, 7, 7, 7, 7, 7, 7, 7, 7, 7, 7, 7, 7, 7, 7, 7, 7, 7, 7, 7, 7, 7, 7, 7, 7, 7, 7, 7, 7, 7, 7, 7, 7, 7, 7, 7, 7, 7, 7, 7, 7, 7, 7, 7, 7, 7, 7, 7, 7, 7, 7, 7, 7, 7, 8, 8, 8, 8, 8, 8, 8, 8, 8, 8, 8, 8, 8, 8, 8, 8, 8, 8, 8, 8, 8, 8, 8, 8, 8, 8, 8, 8, 8, 8, 8, 8, 8, 8, 8, 8, 8, 8, 8, 8, 8, 8, 8, 8, 8, 8, 8, 8, 8, 8, 8, 8, 8, 8, 8, 8, 8, 8, 8, 8, 8, 8, 8, 8, 8, 8, 8, 8, 8, 8, 8, 8, 8, 8, 8, 8, 8, 8, 8, 8, 8, 8, 8, 8, 8, 8, 8, 8, 8, 8, 8, 8, 8, 8, 8, 8, 8, 8, 8, 8, 8, 8, 8, 8, 8, 8, 8, 8, 8, 8, 8, 8, 8, 8, 8, 8, 8, 8, 8, 8, 8, 8, 8, 8, 8, 8, 8, 8]⟩)) (xt 21)),
 xo 23 (.conv .i64 (xt 22)),
 xo 24 (.bin .add (xt 19) (xt 23)),
 xm 2 24] [2]
def c125_21 := xQ c125_20 xR
def c125_22 := xQ c125_19 c125_21
def c125_23 := xQ c125_13 c125_22
def c125_24 := xQ c125_7 c125_23
def c125_25 := xQ c125_1 c125_24
abbrev n_math_bits_Len64 : Nat := 125
theorem k_math_bits_Len64 : Known Pr mu n_math_bits_Len64 (c125_25 ()) [.t 2] Go.Proofs.Tryz.f125.ntmps := .of [(0, [0,2], [], [], []), (1, [0,2,4], [], [], []), (2, [0], [], [], []), (3, [0,2], [], [], []), (4, [0,2,8], [], [], []), (5, [0,2], [], [], []), (6, [0,2], [], [], []), (7, [0,2,14], [], [], []), (8, [0,2], [], [], []), (9, [0,2], [], [], []), (10, [2], [], [], [])] hm Go.Proofs.Tryz.func125
def c129_1 := xG [xo 8 (.mv (xb true))] [0,1,2,3,8]
def c129_2 := xG [xo 9 (.mv (xb true))] [0,1,2,3,8,9]
def c129_3 := xG [xm 19 2,
 xm 20 1,
 xo 21 (.bin .sub (xt 19) (xt 20)),
 xm 10 21] [0,1,2,3,8,9,10]
def c129_4 := xG [xm 22 10,
 xo 23 (.bin .leq (xt 22) (xi 12))] [0,1,2,3,8,9,10,23]
def c129_5 := xG [xm 24 0,
 xm 25 1,
 xm 26 2,
 xo 27 (.callm 133 [xt 24, xt 25, xt 26])] []
def c129_6 := xQ c129_5 xR
def c129_7 := xC 23 c129_6 xS
def c129_8 := xQ c129_4 c129_7
def c129_9 := xG [xm 28 3,
 xo 29 (.bin .eql (xt 28) (xi 0))] [0,1,2,3,8,9,10,29]
def c129_10 := xG [xm 30 0,
 xm 31 1,
 xm 32 2,
 xo 33 (.callm 134 [xt 30, xt 31, xt 32])] []
def c129_11 := xQ c129_10 xR
def c129_12 := xC 29 c129_11 xS
def c129_13 := xQ c129_9 c129_12
def c129_14 := xG [xm 34 8,
 xo 35 (.not (xt 34))] [0,1,2,3,8,9,10,35]
def c129_15 := xG [xm 36 0,
 xm 37 1,
 xm 38 2,
 xo 39 (.callm 135 [xt 36, xt 37, xt 38])] [0,1,2,3,8,9,10]
def c129_16 := xG [xm 40 3,
 xo 41 (.bin .sub (xt 40) (xi 1)),
 xm 3 41] [0,1,2,3,8,9,10]
def c129_17 := xQ c129_15 c129_16
def c129_18 := xC 35 c129_17 xS
def c129_19 := xQ c129_14 c129_18
def c129_20 := xG [xm 43 0,
 xm 44 1,
 xm 45 2,
 xo 46 (.call 136 [xt 43, xt 44, xt 45]),
 xm 42 46,
 xo 47 (.ext (xt 42) 0),
 xo 48 (.ext (xt 42) 1),
 xm 11 47,
 xm 12 48] [0,1,2,3,8,9,10,11,12]
def c129_21 := xG [xm 49 12,
 xo 50 (.bin .eql (xt 49) (xi 2))] [0,1,2,3,8,9,10,11,12,50]
def c129_22 := xG [xm 51 0,
 xm 52 1,
 xm 53 2,
 xo 54 (.callm 137 [xt 51, xt 52, xt 53])] [0,1,2,3,8,9,10,11]
def c129_23 := xG [xm 55 2,
 xo 56 (.bin .sub (xt 55) (xi 1)),
 xm 57 11,
 xm 58 1,
 xo 59 (.bin .sub (xt 57) (xt 58)),
 xo 60 (.bin .sub (xt 56) (xt 59)),
 xm 11 60] [0,1,2,3,8,9,10,11]
def c129_24 := xG [xo 12 (.mv (xi 1))] [0,1,2,3,8,9,10,11,12]
def c129_25 := xQ c129_23 c129_24
def c129_26 := xQ c129_22 c129_25
def c129_27 := xC 50 c129_26 xS
def c129_28 := xQ c129_21 c129_27
def c129_29 := xG [xm 61 8,
 xm 62 61,
 xT 63 62 (.mv (xt 9)),
 xo 64 (.pick (xt 62) (xt 63) (xb false)),
 xm 65 64,
 xT 66 65 (.mv (xt 12)),
 xT 67 65 (.bin .eql (xt 66) (xi 1)),
 xo 68 (.pick (xt 65) (xt 67) (xb false))] [0,1,2,3,8,9,10,11,68]
def c129_30 := xG [xm 69 0,
 xm 70 1,
 xm 71 2,
 xo 72 (.callm 138 [xt 69, xt 70, xt 71])] [0,1,2,3,8,9,10,11,72]
def c129_31 := xC 72 xR xS
def c129_32 := xQ c129_30 c129_31
def c129_33 := xC 68 c129_32 xS
def c129_34 := xQ c129_29 c129_33
def c129_35 := xG [xm 73 1,
 xo 74 (.bin .gtr (xt 73) (xi 0)),
 xm 75 74,
 xT 76 75 (.mv (xt 0)),
 xT 77 75 (.mv (xt 1)),
 xT 78 75 (.bin .sub (xt 77) (xi 1)),
 xT 79 75 (.ia (xt 76) (xt 78) 1),
 xT 80 75 (.ld (xt 79) 1 false),
 xT 81 75 (.mv (xt 0)),
 xT 82 75 (.mv (xt 11)),
 ⟨(some 83), .ia (xt 81) (xt 82) 1, (some (75, true)), [3, 4, 5, 6, 7]⟩,
 ⟨(some 84), .ld (xt 83) 1 false, (some (75, true)), [3, 4, 5, 6, 7]⟩,
 xT 85 75 (.call 139 [xt 80, xt 84]),
 xT 86 75 (.not (xt 85)),
 xo 87 (.pick (xt 75) (xt 86) (xb false))] [0,1,2,3,8,9,10,11,87]
def c129_36 := xG [xm 88 0,
 xm 89 1,
 xm 90 2,
 xm 91 11,
 xo 92 (.callm 140 [xt 88, xt 89, xt 90, xt 91]),
 xm 13 92] [0,2,3,8,9,13]
def c129_37 := xG [xm 93 13,
 xm 1 93] [0,1,2,3,8,9]
def c129_38 := xQ c129_37 (xE 1)
def c129_39 := xQ c129_36 c129_38
def c129_40 := xC 87 c129_39 xS
def c129_41 := xQ c129_35 c129_40
def c129_42 := xG [xm 95 0,
 xm 96 1,
 xm 97 2,
 xm 98 11,
 xo 99 (.callm 141 [xt 95, xt 96, xt 97, xt 98]),
 xm 94 99,
 xo 100 (.ext (xt 94) 0),
 xo 101 (.ext (xt 94) 1),
 xm 14 100,
 xm 15 101] [0,1,2,3,10,14,15]
def c129_43 := xG [xm 102 15,
 xm 9 102] [0,1,2,3,9,10,14]
def c129_44 := xG [xm 103 14,
 xm 104 1,
 xo 105 (.bin .sub (xt 103) (xt 104)),
 xm 106 2,
 xm 107 14,
 xo 108 (.bin .sub (xt 106) (xt 107)),
 xm 16 105,
 xm 17 108] [0,1,2,3,9,10,14,16,17]
def c129_45 := xG [xm 109 10,
 xo 110 (.bin .quo (xt 109) (xi 8)),
 xm 18 110] [0,1,2,3,9,14,16,17,18]
def c129_46 := xG [xm 111 16,
 xm 112 17,
 xo 113 (.bin .lss (xt 111) (xt 112))] [0,1,2,3,9,14,16,17,18,113]
def c129_47 := xG [xm 114 16,
 xm 115 18,
 xo 116 (.bin .geq (xt 114) (xt 115)),
 xm 8 116] [0,1,2,3,8,9,14]
def c129_48 := xG [xm 117 0,
 xm 118 1,
 xm 119 14,
 xm 120 3,
 xo 121 (.callm 129 [xt 117, xt 118, xt 119, xt 120])] [0,2,3,8,9,14]
def c129_49 := xG [xm 122 14,
 xo 123 (.bin .add (xt 122) (xi 1)),
 xm 1 123] [0,1,2,3,8,9]
def c129_50 := xQ c129_48 c129_49
def c129_51 := xQ c129_47 c129_50
def c129_52 := xG [xm 124 17,
 xm 125 18,
 xo 126 (.bin .geq (xt 124) (xt 125)),
 xm 8 126] [0,1,2,3,8,9,14]
def c129_53 := xG [xm 127 0,
 xm 128 14,
 xo 129 (.bin .add (xt 128) (xi 1)),
 xm 130 2,
 xm 131 3,
 xo 132 (.callm 129 [xt 127, xt 129, xt 130, xt 131])] [0,1,3,8,9,14]
def c129_54 := xG [xm 133 14,
 xm 2 133] [0,1,2,3,8,9]
def c129_55 := xQ c129_53 c129_54
def c129_56 := xQ c129_52 c129_55
def c129_57 := xC 113 c129_51 c129_56
def c129_58 := xQ c129_46 c129_57
def c129_59 := xQ c129_45 c129_58
def c129_60 := xQ c129_44 c129_59
def c129_61 := xQ c129_43 c129_60
def c129_62 := xQ c129_42 c129_61
def c129_63 := xQ c129_41 c129_62
def c129_64 := xQ c129_34 c129_63
def c129_65 := xQ c129_28 c129_64
def c129_66 := xQ c129_20 c129_65
def c129_67 := xQ c129_19 c129_66
def c129_68 := xQ c129_13 c129_67
def c129_69 := xQ c129_8 c129_68
def c129_70 := xQ c129_3 c129_69
def c129_71 := xB 1 c129_70
def c129_72 := xL c129_71
def c129_73 := xB 0 c129_72
def c129_74 := xQ c129_2 c129_73
def c129_75 := xQ c129_1 c129_74
abbrev n_slices_pdqsortOrdered_int : Nat := 129
theorem k_slices_pdqsortOrdered_int : Known Pr mu n_slices_pdqsortOrdered_int (c129_75 ()) [] Go.Proofs.Tryz.f129.ntmps := .of [(0, [0,1,2,3,8], [], [], []), (1, [0,1,2,3,8,9], [], [], []), (2, [0,1,2,3,8,9,10], [], [], []), (3, [0,1,2,3,8,9,10,23], [], [], []), (4, [], [], [], []), (5, [0,1,2,3,8,9,10,29], [], [], []), (6, [], [], [], []), (7, [0,1,2,3,8,9,10,35], [], [], []), (8, [0,1,2,3,8,9,10], [], [], []), (9, [0,1,2,3,8,9,10], [], [], []), (10, [0,1,2,3,8,9,10,11,12], [], [], []), (11, [0,1,2,3,8,9,10,11,12,50], [], [], []), (12, [0,1,2,3,8,9,10,11], [], [], []), (13, [0,1,2,3,8,9,10,11], [], [], []), (14, [0,1,2,3,8,9,10,11,12], [], [], []), (15, [0,1,2,3,8,9,10,11,68], [], [], []), (16, [0,1,2,3,8,9,10,11,72], [], [], []), (17, [0,1,2,3,8,9,10,11,87], [[],[],[],[],[],[],[],[],[],[],[3,4,5,6,7],[3,4,5,6,7]], [], []), (18, [0,2,3,8,9,13], [], [], []), (19, [0,1,2,3,8,9], [], [], []), (20, [0,1,2,3,10,14,15], [], [], []), (21, [0,1,2,3,9,10,14], [], [], []), (22, [0,1,2,3,9,10,14,16,17], [], [], []), (23, [0,1,2,3,9,14,16,17,18], [], [], []), (24, [0,1,2,3,9,14,16,17,18,113], [], [], []), (25, [0,1,2,3,8,9,14], [], [], []), (26, [0,2,3,8,9,14], [], [], []), (27, [0,1,2,3,8,9], [], [], []), (28, [0,1,2,3,8,9,14], [], [], []), (29, [0,1,3,8,9,14], [], [], []), (30, [0,1,2,3,8,9], [], [], [])] hm Go.Proofs.Tryz.func129
def c130_1 := xG [xo 2 (.mv (xi 0))] [0]
def c130_2 := xG [xm 3 0,
 xo 4 (.conv .u32 (xt 3)),
 xo 5 (.call 142 [xt 4]),
 xm 2 5] [2]
def c130_3 := xQ c130_2 xR
def c130_4 : XC := fun _ => .cond (xb false) c130_3 xS
def c130_5 := xG [xm 6 0,
 xo 7 (.call 125 [xt 6]),
 xm 2 7] [2]
def c130_6 := xQ c130_5 xR
def c130_7 := xQ c130_4 c130_6
def c130_8 := xQ c130_1 c130_7
abbrev n_math_bits_Len : Nat := 130
theorem k_math_bits_Len : Known Pr mu n_math_bits_Len (c130_8 ()) [.t 2] Go.Proofs.Tryz.f130.ntmps := .of [(0, [0], [], [], []), (1, [2], [], [], []), (2, [2], [], [], [])] hm Go.Proofs.Tryz.func130
def c133_1 := xG [xm 8 1,
 xo 9 (.bin .add (xt 8) (xi 1)),
 xm 6 9] [0,1,2,6]
def c133_2 := xG [xm 10 6,
 xm 11 2,
 xo 12 (.bin .lss (xt 10) (xt 11))] [0,1,2,6,12]
def c133_3 := xC 12 xS (xE 0)
def c133_4 := xQ c133_2 c133_3
def c133_5 := xG [xm 15 6,
 xm 7 15] [0,1,2,6,7]
def c133_6 := xG [xm 16 7,
 xm 17 1,
 xo 18 (.bin .gtr (xt 16) (xt 17)),
 xm 19 18,
 xT 20 19 (.mv (xt 0)),
 xT 21 19 (.mv (xt 7)),
 xT 22 19 (.ia (xt 20) (xt 21) 1),
 xT 23 19 (.ld (xt 22) 1 false),
 xT 24 19 (.mv (xt 0)),
 xT 25 19 (.mv (xt 7)),
 xT 26 19 (.bin .sub (xt 25) (xi 1)),
 ⟨(some 27), .ia (xt 24) (xt 26) 1, (some (19, true)), [4, 5, 6, 7]⟩,
 ⟨(some 28), .ld (xt 27) 1 false, (some (19, true)), [4, 5, 6, 7]⟩,
 xT 29 19 (.call 139 [xt 23, xt 28]),
 xo 30 (.pick (xt 19) (xt 29) (xb false))] [0,1,2,6,7,30]
def c133_7 := xC 30 xS (xE 2)
def c133_8 := xQ c133_6 c133_7
def c133_9 := xG [xm 33 0,
 xm 34 7,
 xm 35 0,
 xm 36 7,
 xo 37 (.bin .sub (xt 36) (xi 1)),
 xm 38 0,
 xm 39 7,
 xo 40 (.bin .sub (xt 39) (xi 1)),
 ⟨(some 41), .ia (xt 38) (xt 40) 1, none, [0, 1, 2, 3, 4]⟩,
 ⟨(some 42), .ld (xt 41) 1 false, none, [0, 1, 2, 3, 4]⟩,
 xm 43 0,
 xm 44 7,
 ⟨(some 45), .ia (xt 43) (xt 44) 1, none, [0, 1, 2, 3, 4, 5, 6, 7, 8, 9]⟩,
 ⟨(some 46), .ld (xt 45) 1 false, none, [0, 1, 2, 3, 4, 5, 6, 7, 8, 9]⟩,
 ⟨(some 47), .ia (xt 33) (xt 34) 1, none, [2, 3, 4]⟩,
 xn (.sto (xt 47) (xt 42) 1),
 xo 48 (.ia (xt 35) (xt 37) 1),
 xn (.sto (xt 48) (xt 46) 1)] [0,1,2,6,7]
def c133_10 := xB 3 c133_9
def c133_11 := xG [xm 31 7,
 xo 32 (.bin .sub (xt 31) (xi 1)),
 xm 7 32] [0,1,2,6,7]
def c133_12 := xQ c133_10 c133_11
def c133_13 := xQ c133_8 c133_12
def c133_14 := xL c133_13
def c133_15 := xB 2 c133_14
def c133_16 := xQ c133_5 c133_15
def c133_17 := xB 1 c133_16
def c133_18 := xG [xm 13 6,
 xo 14 (.bin .add (xt 13) (xi 1)),
 xm 6 14] [0,1,2,6]
def c133_19 := xQ c133_17 c133_18
def c133_20 := xQ c133_4 c133_19
def c133_21 := xL c133_20
def c133_22 := xB 0 c133_21
def c133_23 := xQ c133_1 c133_22
abbrev n_slices_insertionSortOrdered_int : Nat := 133
theorem k_slices_insertionSortOrdered_int : Known Pr mu n_slices_insertionSortOrdered_int (c133_23 ()) [] Go.Proofs.Tryz.f133.ntmps := .of [(0, [0,1,2,6], [], [], []), (1, [0,1,2,6,12], [], [], []), (3, [0,1,2,6,7], [], [], []), (4, [0,1,2,6,7,30], [[],[],[],[],[],[],[],[],[],[],[],[4,5,6,7],[4,5,6,7]], [], []), (6, [0,1,2,6,7], [[],[],[],[],[],[],[],[],[0,1,2,3,4],[0,1,2,3,4],[],[],[0,1,2,3,4,5,6,7,8,9],[0,1,2,3,4,5,6,7,8,9],[2,3,4]], [], [2,3,4]), (5, [0,1,2,6,7], [], [], []), (2, [0,1,2,6], [], [], [])] hm Go.Proofs.Tryz.func133
def c139_1 := xG [xo 4 (.mv (xb false))] [0,1]
def c139_2 := xG [xm 5 0,
 xo 6 (.call 148 [xt 5]),
 xm 7 6,
 xT 8 7 (.mv (xt 1)),
 xT 9 7 (.call 148 [xt 8]),
 xT 10 7 (.not (xt 9)),
 xo 11 (.pick (xt 7) (xt 10) (xb false)),
 xm 12 11,
 xF 13 12 (.mv (xt 0)),
 xF 14 12 (.mv (xt 1)),
 xF 15 12 (.bin .lss (xt 13) (xt 14)),
 xo 16 (.pick (xt 12) (xb true) (xt 15)),
 xm 4 16] [4]
def c139_3 := xQ c139_2 xR
def c139_4 := xQ c139_1 c139_3
abbrev n_cmp_Less_int : Nat := 139
theorem k_cmp_Less_int : Known Pr mu n_cmp_Less_int (c139_4 ()) [.t 4] Go.Proofs.Tryz.f139.ntmps := .of [(0, [0,1], [], [], []), (1, [4], [], [], [])] hm Go.Proofs.Tryz.func139
def c148_1 := xG [xo 2 (.mv (xb false))] [0]
def c148_2 := xG [xm 3 0,
 xm 4 0,
 xo 5 (.bin .neq (xt 3) (xt 4)),
 xm 2 5] [2]
def c148_3 := xQ c148_2 xR
def c148_4 := xQ c148_1 c148_3
abbrev n_cmp_isNaN_int : Nat := 148
theorem k_cmp_isNaN_int : Known Pr mu n_cmp_isNaN_int (c148_4 ()) [.t 2] Go.Proofs.Tryz.f148.ntmps := .of [(0, [0], [], [], []), (1, [2], [], [], [])] hm Go.Proofs.Tryz.func148
end Go.V.T
