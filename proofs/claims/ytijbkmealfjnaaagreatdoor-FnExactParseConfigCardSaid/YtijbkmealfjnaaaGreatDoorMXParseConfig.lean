/- The short code of the functions that FnExactParseConfig reaches, held against the program. Conditions: none. -/
import Derived.Test.YtijbkmealfjnaaaGreatDoorV6
import Derived.Test.YtijbkmealfjnaaaGreatDoorProg
namespace Go.V.T
open Go Go.V
noncomputable abbrev Pr := Go.Proofs.Tryz.prog
def mu : Nat → Bool := fun n => Nat.beq n 7 || Nat.beq n 18 || Nat.beq n 61 || Nat.beq n 71 || Nat.beq n 72 || Nat.beq n 77 || Nat.beq n 84 || Nat.beq n 85 || Nat.beq n 86 || Nat.beq n 88 || Nat.beq n 89 || Nat.beq n 91 || Nat.beq n 92 || Nat.beq n 96
def muc : Nat → Bool := fun n => Nat.beq n 3000000 || mu n
abbrev XC := Unit → MCode
def xt (n : Nat) : Operand := .tmp n
def xi (n : Int) : Operand := .const (.int .i64 n)
def xb (b : Bool) : Operand := .const (.bool b)
def xo (d : Nat) (m : MOp) : MOper := ⟨some d, m, none, []⟩
def xn (m : MOp) : MOper := ⟨none, m, none, []⟩
theorem hm : Pr.follows .mixedOrders = true := by kernel_rfl
def c3_1 : XC := fun _ => .region [] [xo 2 (.mv (xb false))] [0]
def c3_2 : XC := fun _ => .region [] [xo 11 (.mv (xt 0)),
 xo 12 (.len true (xt 11)),
 xo 13 (.bin .gtr (xt 12) (xi 1048576))] [0,13]
def c3_3 : XC := fun _ => .region [] [xo 2 (.mv (xb true))] [2]
def c3_4 : XC := fun _ => .seq c3_3 (fun _ => .ret)
def c3_5 : XC := fun _ => .cond (xt 13) c3_4 (fun _ => .skip)
def c3_6 : XC := fun _ => .seq c3_2 c3_5
def c3_7 : XC := fun _ => .region [] [xo 15 (.mv (xt 0)),
 xo 16 (.call 4 [(xt 15)]),
 xo 14 (.mv (xt 16)),
 xo 17 (.ext (xt 14) 0),
 xo 18 (.ext (xt 14) 1),
 xo 3 (.alloc [.int .i64 0, .int .i64 0, .slice none 0 0, .slice none 0 0]),
 xn (.sto (xt 3) (xt 17) 4),
 xo 4 (.mv (xt 18))] [0,3,4]
def c3_8 : XC := fun _ => .region [] [xo 20 (.mv (xt 0)),
 xo 21 (.call 5 [(xt 20)]),
 xo 19 (.mv (xt 21)),
 xo 22 (.ext (xt 19) 0),
 xo 23 (.ext (xt 19) 1),
 xo 5 (.alloc [.int .i64 0, .int .i64 0, .slice none 0 0, .slice none 0 0]),
 xn (.sto (xt 5) (xt 22) 4),
 xo 6 (.mv (xt 23))] [0,3,4,5,6]
def c3_9 : XC := fun _ => .region [] [xo 24 (.ld (xt 5) 4 true),
 xo 25 (.ld (xt 3) 4 true),
 xo 26 (.call 6 [(xt 24), (xt 25)]),
 xo 27 (.not (xt 26)),
 xo 28 (.mv (xt 27)),
 ⟨(some 29), .mv (xt 6), (some (28, false)), []⟩,
 ⟨(some 30), .mv (xt 4), (some (28, false)), []⟩,
 ⟨(some 31), .bbin .neq (xt 29) (xt 30), (some (28, false)), []⟩,
 xo 32 (.pick (xt 28) (xb true) (xt 31))] [0,3,4,5,32]
def c3_10 : XC := fun _ => .region [] [xo 2 (.mv (xb false))] [2]
def c3_11 : XC := fun _ => .seq c3_10 (fun _ => .ret)
def c3_12 : XC := fun _ => .cond (xt 32) c3_11 (fun _ => .skip)
def c3_13 : XC := fun _ => .seq c3_9 c3_12
def c3_14 : XC := fun _ => .region [] [xo 7 (.mv (xi 1))] [0,3,4,5,7]
def c3_15 : XC := fun _ => .region [] [xo 33 (.ld (xt 5) 4 true),
 xo 34 (.mv (xt 7)),
 xo 35 (.callm 7 [(xt 33), (xt 34)]),
 xo 7 (.mv (xt 35))] [0,3,4,5,7]
def c3_16 : XC := fun _ => .region [] [xo 8 (.mv (xi 1))] [0,3,4,5,7,8]
def c3_17 : XC := fun _ => .region [] [xo 36 (.ld (xt 5) 4 true),
 xo 37 (.mv (xt 8)),
 xo 38 (.call 8 [(xt 36), (xt 37)]),
 xo 8 (.mv (xt 38))] [0,3,4,5,7,8]
def c3_18 : XC := fun _ => .region [] [xo 39 (.mv (xt 8)),
 xo 40 (.bin .lss (xt 39) (xi 0))] [0,3,4,5,7,8,40]
def c3_19 : XC := fun _ => .region [] [xo 2 (.mv (xb false))] [2]
def c3_20 : XC := fun _ => .seq c3_19 (fun _ => .ret)
def c3_21 : XC := fun _ => .cond (xt 40) c3_20 (fun _ => .skip)
def c3_22 : XC := fun _ => .seq c3_18 c3_21
def c3_23 : XC := fun _ => .region [] [xo 41 (.mv (xt 8)),
 xo 42 (.mv (xt 7)),
 xo 43 (.bin .neq (xt 41) (xt 42))] [0,3,4,5,7,43]
def c3_24 : XC := fun _ => .region [] [xo 2 (.mv (xb false))] [2]
def c3_25 : XC := fun _ => .seq c3_24 (fun _ => .ret)
def c3_26 : XC := fun _ => .cond (xt 43) c3_25 (fun _ => .skip)
def c3_27 : XC := fun _ => .seq c3_23 c3_26
def c3_28 : XC := fun _ => .region [] [xo 45 (.mv (xt 0)),
 xo 46 (.call 5 [(xt 45)]),
 xo 44 (.mv (xt 46)),
 xo 47 (.ext (xt 44) 0),
 xo 48 (.ext (xt 44) 1),
 xo 9 (.alloc [.int .i64 0, .int .i64 0, .slice none 0 0, .slice none 0 0]),
 xn (.sto (xt 9) (xt 47) 4),
 xo 10 (.mv (xt 48))] [3,4,5,7,9,10]
def c3_29 : XC := fun _ => .region [] [xo 49 (.ld (xt 9) 4 true),
 xo 50 (.ld (xt 3) 4 true),
 xo 51 (.call 6 [(xt 49), (xt 50)]),
 xo 52 (.not (xt 51)),
 xo 53 (.mv (xt 52)),
 ⟨(some 54), .mv (xt 10), (some (53, false)), []⟩,
 ⟨(some 55), .mv (xt 4), (some (53, false)), []⟩,
 ⟨(some 56), .bbin .neq (xt 54) (xt 55), (some (53, false)), []⟩,
 xo 57 (.pick (xt 53) (xb true) (xt 56))] [5,7,57]
def c3_30 : XC := fun _ => .region [] [xo 2 (.mv (xb false))] [2]
def c3_31 : XC := fun _ => .seq c3_30 (fun _ => .ret)
def c3_32 : XC := fun _ => .cond (xt 57) c3_31 (fun _ => .skip)
def c3_33 : XC := fun _ => .seq c3_29 c3_32
def c3_34 : XC := fun _ => .region [] [xo 8 (.mv (xi 1))] [5,7,8]
def c3_35 : XC := fun _ => .region [] [xo 58 (.ld (xt 5) 4 true),
 xo 59 (.mv (xt 8)),
 xo 60 (.call 8 [(xt 58), (xt 59)]),
 xo 8 (.mv (xt 60))] [7,8]
def c3_36 : XC := fun _ => .region [] [xo 61 (.mv (xt 8)),
 xo 62 (.bin .lss (xt 61) (xi 0))] [7,8,62]
def c3_37 : XC := fun _ => .region [] [xo 2 (.mv (xb false))] [2]
def c3_38 : XC := fun _ => .seq c3_37 (fun _ => .ret)
def c3_39 : XC := fun _ => .cond (xt 62) c3_38 (fun _ => .skip)
def c3_40 : XC := fun _ => .seq c3_36 c3_39
def c3_41 : XC := fun _ => .region [] [xo 63 (.mv (xt 8)),
 xo 64 (.mv (xt 7)),
 xo 65 (.bin .neq (xt 63) (xt 64))] [65]
def c3_42 : XC := fun _ => .region [] [xo 2 (.mv (xb false))] [2]
def c3_43 : XC := fun _ => .seq c3_42 (fun _ => .ret)
def c3_44 : XC := fun _ => .cond (xt 65) c3_43 (fun _ => .skip)
def c3_45 : XC := fun _ => .seq c3_41 c3_44
def c3_46 : XC := fun _ => .region [] [xo 2 (.mv (xb true))] [2]
def c3_47 : XC := fun _ => .seq c3_46 (fun _ => .ret)
def c3_48 : XC := fun _ => .seq c3_45 c3_47
def c3_49 : XC := fun _ => .seq c3_40 c3_48
def c3_50 : XC := fun _ => .seq c3_35 c3_49
def c3_51 : XC := fun _ => .seq c3_34 c3_50
def c3_52 : XC := fun _ => .seq c3_33 c3_51
def c3_53 : XC := fun _ => .seq c3_28 c3_52
def c3_54 : XC := fun _ => .seq c3_27 c3_53
def c3_55 : XC := fun _ => .seq c3_22 c3_54
def c3_56 : XC := fun _ => .seq c3_17 c3_55
def c3_57 : XC := fun _ => .seq c3_16 c3_56
def c3_58 : XC := fun _ => .seq c3_15 c3_57
def c3_59 : XC := fun _ => .seq c3_14 c3_58
def c3_60 : XC := fun _ => .seq c3_13 c3_59
def c3_61 : XC := fun _ => .seq c3_8 c3_60
def c3_62 : XC := fun _ => .seq c3_7 c3_61
def c3_63 : XC := fun _ => .seq c3_6 c3_62
def c3_64 : XC := fun _ => .seq c3_1 c3_63
def m_laws_FnExactParseConfig : MCode := c3_64 ()
def h_laws_FnExactParseConfig : Hints := [(0, [0], [], [], []), (1, [0,13], [], [], []), (2, [2], [], [], []), (3, [0,3,4], [], [], []), (4, [0,3,4,5,6], [], [], []), (5, [0,3,4,5,32], [], [], []), (6, [2], [], [], []), (7, [0,3,4,5,7], [], [], []), (8, [0,3,4,5,7], [], [], []), (9, [0,3,4,5,7,8], [], [], []), (10, [0,3,4,5,7,8], [], [], []), (11, [0,3,4,5,7,8,40], [], [], []), (12, [2], [], [], []), (13, [0,3,4,5,7,43], [], [], []), (14, [2], [], [], []), (15, [3,4,5,7,9,10], [], [], []), (16, [5,7,57], [], [], []), (17, [2], [], [], []), (18, [5,7,8], [], [], []), (19, [7,8], [], [], []), (20, [7,8,62], [], [], []), (21, [2], [], [], []), (22, [65], [], [], []), (23, [2], [], [], []), (24, [2], [], [], [])]
def r_laws_FnExactParseConfig : List RV := [.t 2]
abbrev n_laws_FnExactParseConfig : Nat := 3
theorem k_laws_FnExactParseConfig : Known Pr mu n_laws_FnExactParseConfig m_laws_FnExactParseConfig r_laws_FnExactParseConfig Go.Proofs.Tryz.f3.ntmps := .of h_laws_FnExactParseConfig hm Go.Proofs.Tryz.func3
def c4_1 : XC := fun _ => .region [] [xo 2 (.alloc [.int .i64 0, .int .i64 0, .slice none 0 0, .slice none 0 0]),
 xo 3 (.mv (xb false))] [0,2]
def c4_2 : XC := fun _ => .region [] [xo 10 (.mv (xt 0)),
 xo 11 (.call 9 [(xt 10), (.const (.int .u8 32))]),
 xo 4 (.mv (xt 11))] [0,2,4]
def c4_3 : XC := fun _ => .region [] [xo 12 (.mv (xt 4)),
 xo 13 (.len false (xt 12)),
 xo 14 (.bin .neq (xt 13) (xi 4))] [0,2,4,14]
def c4_4 : XC := fun _ => .region [] [xo 15 (.bld [.int .i64 0, .int .i64 0, .slice none 0 0, .slice none 0 0] []),
 xn (.sto (xt 2) (xt 15) 4),
 xo 3 (.mv (xb false))] [2,3]
def c4_5 : XC := fun _ => .seq c4_4 (fun _ => .ret)
def c4_6 : XC := fun _ => .cond (xt 14) c4_5 (fun _ => .skip)
def c4_7 : XC := fun _ => .seq c4_3 c4_6
def c4_8 : XC := fun _ => .region [] [xo 17 (.mv (xt 4)),
 xo 18 (.ia (xt 17) (xi 2) 1),
 xo 19 (.ld (xt 18) 1 false),
 xo 20 (.call 10 [(xt 19)]),
 xo 16 (.mv (xt 20)),
 xo 21 (.ext (xt 16) 0),
 xo 22 (.ext (xt 16) 1),
 xo 5 (.mv (xt 21)),
 xo 6 (.mv (xt 22))] [0,2,4,5]
def c4_9 : XC := fun _ => .region [] [xo 24 (.mv (xt 4)),
 xo 25 (.ia (xt 24) (xi 3) 1),
 xo 26 (.ld (xt 25) 1 false),
 xo 27 (.call 10 [(xt 26)]),
 xo 23 (.mv (xt 27)),
 xo 28 (.ext (xt 23) 0),
 xo 29 (.ext (xt 23) 1),
 xo 7 (.mv (xt 28)),
 xo 8 (.mv (xt 29))] [0,2,4,5,7]
def c4_10 : XC := fun _ => .region [] [xo 30 (.mv (xt 4)),
 xo 31 (.ia (xt 30) (xi 0) 1),
 xo 32 (.ld (xt 31) 1 false),
 xo 33 (.call 11 [(xt 32)]),
 xo 34 (.mv (xt 4)),
 ⟨(some 35), .ia (xt 34) (xi 1) 1, none, [0, 1, 2, 3]⟩,
 ⟨(some 36), .ld (xt 35) 1 false, none, [0, 1, 2, 3]⟩,
 xo 37 (.call 11 [(xt 36)]),
 xo 38 (.mv (xt 5)),
 xo 39 (.mv (xt 7)),
 xo 40 (.bld [.int .i64 0, .int .i64 0, .slice none 0 0, .slice none 0 0] [(0, 1, (xt 33)), (1, 1, (xt 37)), (2, 1, (xt 38)), (3, 1, (xt 39))]),
 xo 9 (.alloc [.int .i64 0, .int .i64 0, .slice none 0 0, .slice none 0 0]),
 xn (.sto (xt 9) (xt 40) 4)] [0,2,9]
def c4_11 : XC := fun _ => .region [] [xo 41 (.ld (xt 9) 4 true),
 xo 42 (.call 12 [(xt 41)]),
 xo 43 (.mv (xt 0)),
 xo 44 (.bin .neq (xt 42) (xt 43))] [2,9,44]
def c4_12 : XC := fun _ => .region [] [xo 45 (.bld [.int .i64 0, .int .i64 0, .slice none 0 0, .slice none 0 0] []),
 xn (.sto (xt 2) (xt 45) 4),
 xo 3 (.mv (xb false))] [2,3]
def c4_13 : XC := fun _ => .seq c4_12 (fun _ => .ret)
def c4_14 : XC := fun _ => .cond (xt 44) c4_13 (fun _ => .skip)
def c4_15 : XC := fun _ => .seq c4_11 c4_14
def c4_16 : XC := fun _ => .region [] [xo 46 (.ld (xt 9) 4 true),
 xn (.sto (xt 2) (xt 46) 4),
 xo 3 (.mv (xb true))] [2,3]
def c4_17 : XC := fun _ => .seq c4_16 (fun _ => .ret)
def c4_18 : XC := fun _ => .seq c4_15 c4_17
def c4_19 : XC := fun _ => .seq c4_10 c4_18
def c4_20 : XC := fun _ => .seq c4_9 c4_19
def c4_21 : XC := fun _ => .seq c4_8 c4_20
def c4_22 : XC := fun _ => .seq c4_7 c4_21
def c4_23 : XC := fun _ => .seq c4_2 c4_22
def c4_24 : XC := fun _ => .seq c4_1 c4_23
def m_spec_ParseConfig : MCode := c4_24 ()
def h_spec_ParseConfig : Hints := [(0, [0,2], [], [], []), (1, [0,2,4], [], [], []), (2, [0,2,4,14], [], [], []), (3, [2,3], [], [], []), (4, [0,2,4,5], [], [], []), (5, [0,2,4,5,7], [], [], []), (6, [0,2,9], [[],[],[],[],[],[0,1,2,3],[0,1,2,3]], [], []), (7, [2,9,44], [], [], []), (8, [2,3], [], [], []), (9, [2,3], [], [], [])]
def r_spec_ParseConfig : List RV := [.c 2 4 true, .t 3]
abbrev n_spec_ParseConfig : Nat := 4
theorem k_spec_ParseConfig : Known Pr mu n_spec_ParseConfig m_spec_ParseConfig r_spec_ParseConfig Go.Proofs.Tryz.f4.ntmps := .of h_spec_ParseConfig hm Go.Proofs.Tryz.func4
def c5_1 : XC := fun _ => .region [] [xo 2 (.alloc [.int .i64 0, .int .i64 0, .slice none 0 0, .slice none 0 0]),
 xo 3 (.mv (xb false))] [0,2]
def c5_2 : XC := fun _ => .region [] [xo 10 (.mv (xt 0)),
 xo 11 (.call 13 [(xt 10), (.const (.string ⟨#[32]⟩))]),
 xo 4 (.mv (xt 11))] [0,2,4]
def c5_3 : XC := fun _ => .region [] [xo 12 (.mv (xt 4)),
 xo 13 (.len false (xt 12)),
 xo 14 (.bin .neq (xt 13) (xi 4))] [0,2,4,14]
def c5_4 : XC := fun _ => .region [] [xo 15 (.bld [.int .i64 0, .int .i64 0, .slice none 0 0, .slice none 0 0] []),
 xn (.sto (xt 2) (xt 15) 4),
 xo 3 (.mv (xb false))] [2,3]
def c5_5 : XC := fun _ => .seq c5_4 (fun _ => .ret)
def c5_6 : XC := fun _ => .cond (xt 14) c5_5 (fun _ => .skip)
def c5_7 : XC := fun _ => .seq c5_3 c5_6
def c5_8 : XC := fun _ => .region [] [xo 17 (.mv (xt 4)),
 xo 18 (.ia (xt 17) (xi 2) 1),
 xo 19 (.ld (xt 18) 1 false),
 xo 20 (.call 14 [(xt 19)]),
 xo 16 (.mv (xt 20)),
 xo 21 (.ext (xt 16) 0),
 xo 22 (.ext (xt 16) 1),
 xo 5 (.mv (xt 21)),
 xo 6 (.mv (xt 22))] [0,2,4,5]
def c5_9 : XC := fun _ => .region [] [xo 24 (.mv (xt 4)),
 xo 25 (.ia (xt 24) (xi 3) 1),
 xo 26 (.ld (xt 25) 1 false),
 xo 27 (.call 14 [(xt 26)]),
 xo 23 (.mv (xt 27)),
 xo 28 (.ext (xt 23) 0),
 xo 29 (.ext (xt 23) 1),
 xo 7 (.mv (xt 28)),
 xo 8 (.mv (xt 29))] [0,2,4,5,7]
def c5_10 : XC := fun _ => .region [] [xo 30 (.mv (xt 4)),
 xo 31 (.ia (xt 30) (xi 0) 1),
 xo 32 (.ld (xt 31) 1 false),
 xo 33 (.call 15 [(xt 32)]),
 xo 34 (.mv (xt 4)),
 ⟨(some 35), .ia (xt 34) (xi 1) 1, none, [0, 1, 2, 3]⟩,
 ⟨(some 36), .ld (xt 35) 1 false, none, [0, 1, 2, 3]⟩,
 xo 37 (.call 15 [(xt 36)]),
 xo 38 (.mv (xt 5)),
 xo 39 (.mv (xt 7)),
 xo 40 (.bld [.int .i64 0, .int .i64 0, .slice none 0 0, .slice none 0 0] [(0, 1, (xt 33)), (1, 1, (xt 37)), (2, 1, (xt 38)), (3, 1, (xt 39))]),
 xo 9 (.alloc [.int .i64 0, .int .i64 0, .slice none 0 0, .slice none 0 0]),
 xn (.sto (xt 9) (xt 40) 4)] [0,2,9]
def c5_11 : XC := fun _ => .region [] [xo 41 (.ld (xt 9) 4 true),
 xo 42 (.call 16 [(xt 41)]),
 xo 43 (.mv (xt 0)),
 xo 44 (.bin .neq (xt 42) (xt 43))] [2,9,44]
def c5_12 : XC := fun _ => .region [] [xo 45 (.bld [.int .i64 0, .int .i64 0, .slice none 0 0, .slice none 0 0] []),
 xn (.sto (xt 2) (xt 45) 4),
 xo 3 (.mv (xb false))] [2,3]
def c5_13 : XC := fun _ => .seq c5_12 (fun _ => .ret)
def c5_14 : XC := fun _ => .cond (xt 44) c5_13 (fun _ => .skip)
def c5_15 : XC := fun _ => .seq c5_11 c5_14
def c5_16 : XC := fun _ => .region [] [xo 46 (.ld (xt 9) 4 true),
 xn (.sto (xt 2) (xt 46) 4),
 xo 3 (.mv (xb true))] [2,3]
def c5_17 : XC := fun _ => .seq c5_16 (fun _ => .ret)
def c5_18 : XC := fun _ => .seq c5_15 c5_17
def c5_19 : XC := fun _ => .seq c5_10 c5_18
def c5_20 : XC := fun _ => .seq c5_9 c5_19
def c5_21 : XC := fun _ => .seq c5_8 c5_20
def c5_22 : XC := fun _ => .seq c5_7 c5_21
def c5_23 : XC := fun _ => .seq c5_2 c5_22
def c5_24 : XC := fun _ => .seq c5_1 c5_23
def m_impl_ParseConfig : MCode := c5_24 ()
def h_impl_ParseConfig : Hints := [(0, [0,2], [], [], []), (1, [0,2,4], [], [], []), (2, [0,2,4,14], [], [], []), (3, [2,3], [], [], []), (4, [0,2,4,5], [], [], []), (5, [0,2,4,5,7], [], [], []), (6, [0,2,9], [[],[],[],[],[],[0,1,2,3],[0,1,2,3]], [], []), (7, [2,9,44], [], [], []), (8, [2,3], [], [], []), (9, [2,3], [], [], [])]
def r_impl_ParseConfig : List RV := [.c 2 4 true, .t 3]
abbrev n_impl_ParseConfig : Nat := 5
theorem k_impl_ParseConfig : Known Pr mu n_impl_ParseConfig m_impl_ParseConfig r_impl_ParseConfig Go.Proofs.Tryz.f5.ntmps := .of h_impl_ParseConfig hm Go.Proofs.Tryz.func5
def c6_1 : XC := fun _ => .region [] [xo 2 (.box (xt 0)),
 xo 3 (.box (xt 1)),
 xo 4 (.mv (xb false))] [2,3]
def c6_2 : XC := fun _ => .region [] [xo 5 (.fa (xt 2) 0),
 xo 6 (.ld (xt 5) 1 false),
 xo 7 (.fa (xt 3) 0),
 xo 8 (.ld (xt 7) 1 false),
 xo 9 (.bin .neq (xt 6) (xt 8))] [2,3,9]
def c6_3 : XC := fun _ => .region [] [xo 4 (.mv (xb false))] [4]
def c6_4 : XC := fun _ => .seq c6_3 (fun _ => .ret)
def c6_5 : XC := fun _ => .cond (xt 9) c6_4 (fun _ => .skip)
def c6_6 : XC := fun _ => .seq c6_2 c6_5
def c6_7 : XC := fun _ => .region [] [xo 10 (.fa (xt 2) 1),
 xo 11 (.ld (xt 10) 1 false),
 xo 12 (.fa (xt 3) 1),
 xo 13 (.ld (xt 12) 1 false),
 xo 14 (.bin .neq (xt 11) (xt 13))] [2,3,14]
def c6_8 : XC := fun _ => .region [] [xo 4 (.mv (xb false))] [4]
def c6_9 : XC := fun _ => .seq c6_8 (fun _ => .ret)
def c6_10 : XC := fun _ => .cond (xt 14) c6_9 (fun _ => .skip)
def c6_11 : XC := fun _ => .seq c6_7 c6_10
def c6_12 : XC := fun _ => .region [] [xo 15 (.fa (xt 2) 2),
 xo 16 (.ld (xt 15) 1 false),
 xo 17 (.fa (xt 3) 2),
 xo 18 (.ld (xt 17) 1 false),
 xo 19 (.call 17 [(xt 16), (xt 18)]),
 xo 20 (.not (xt 19))] [2,3,20]
def c6_13 : XC := fun _ => .region [] [xo 4 (.mv (xb false))] [4]
def c6_14 : XC := fun _ => .seq c6_13 (fun _ => .ret)
def c6_15 : XC := fun _ => .cond (xt 20) c6_14 (fun _ => .skip)
def c6_16 : XC := fun _ => .seq c6_12 c6_15
def c6_17 : XC := fun _ => .region [] [xo 21 (.fa (xt 2) 3),
 xo 22 (.ld (xt 21) 1 false),
 xo 23 (.fa (xt 3) 3),
 xo 24 (.ld (xt 23) 1 false),
 xo 25 (.call 17 [(xt 22), (xt 24)]),
 xo 26 (.not (xt 25))] [26]
def c6_18 : XC := fun _ => .region [] [xo 4 (.mv (xb false))] [4]
def c6_19 : XC := fun _ => .seq c6_18 (fun _ => .ret)
def c6_20 : XC := fun _ => .cond (xt 26) c6_19 (fun _ => .skip)
def c6_21 : XC := fun _ => .seq c6_17 c6_20
def c6_22 : XC := fun _ => .region [] [xo 4 (.mv (xb true))] [4]
def c6_23 : XC := fun _ => .seq c6_22 (fun _ => .ret)
def c6_24 : XC := fun _ => .seq c6_21 c6_23
def c6_25 : XC := fun _ => .seq c6_16 c6_24
def c6_26 : XC := fun _ => .seq c6_11 c6_25
def c6_27 : XC := fun _ => .seq c6_6 c6_26
def c6_28 : XC := fun _ => .seq c6_1 c6_27
def m_laws_eqConfig : MCode := c6_28 ()
def h_laws_eqConfig : Hints := [(0, [2,3], [], [], []), (1, [2,3,9], [], [], []), (2, [4], [], [], []), (3, [2,3,14], [], [], []), (4, [4], [], [], []), (5, [2,3,20], [], [], []), (6, [4], [], [], []), (7, [26], [], [], []), (8, [4], [], [], []), (9, [4], [], [], [])]
def r_laws_eqConfig : List RV := [.t 4]
abbrev n_laws_eqConfig : Nat := 6
theorem k_laws_eqConfig : Known Pr mu n_laws_eqConfig m_laws_eqConfig r_laws_eqConfig Go.Proofs.Tryz.f6.ntmps := .of h_laws_eqConfig hm Go.Proofs.Tryz.func6
def c7_1 : XC := fun _ => .region [] [xo 2 (.box (xt 0)),
 xo 4 (.mv (xi 0))] [1,2]
def c7_2 : XC := fun _ => .region [] [xo 5 (.fa (xt 2) 2),
 xo 6 (.ld (xt 5) 1 false),
 xo 7 (.mv (xt 1)),
 xo 8 (.callm 18 [(xt 6), (xt 7)]),
 xo 1 (.mv (xt 8))] [1,2]
def c7_3 : XC := fun _ => .region [] [xo 9 (.fa (xt 2) 3),
 xo 10 (.ld (xt 9) 1 false),
 xo 11 (.mv (xt 1)),
 xo 12 (.callm 18 [(xt 10), (xt 11)]),
 xo 1 (.mv (xt 12))] [1]
def c7_4 : XC := fun _ => .region [] [xo 13 (.mv (xt 1)),
 xo 4 (.mv (xt 13))] [4]
def c7_5 : XC := fun _ => .seq c7_4 (fun _ => .ret)
def c7_6 : XC := fun _ => .seq c7_3 c7_5
def c7_7 : XC := fun _ => .seq c7_2 c7_6
def c7_8 : XC := fun _ => .seq c7_1 c7_7
def m_laws_markConfig : MCode := c7_8 ()
def h_laws_markConfig : Hints := [(0, [1,2], [], [], []), (1, [1,2], [], [], []), (2, [1], [], [], []), (3, [4], [], [], [])]
def r_laws_markConfig : List RV := [.t 4]
abbrev n_laws_markConfig : Nat := 7
theorem k_laws_markConfig : Known Pr mu n_laws_markConfig m_laws_markConfig r_laws_markConfig Go.Proofs.Tryz.f7.ntmps := .of h_laws_markConfig hm Go.Proofs.Tryz.func7
def c8_1 : XC := fun _ => .region [] [xo 2 (.box (xt 0)),
 xo 4 (.mv (xi 0))] [1,2]
def c8_2 : XC := fun _ => .region [] [xo 5 (.fa (xt 2) 2),
 xo 6 (.ld (xt 5) 1 false),
 xo 7 (.mv (xt 1)),
 xo 8 (.call 19 [(xt 6), (xt 7)]),
 xo 1 (.mv (xt 8))] [1,2]
def c8_3 : XC := fun _ => .region [] [xo 9 (.mv (xt 1)),
 xo 10 (.bin .lss (xt 9) (xi 0))] [1,2,10]
def c8_4 : XC := fun _ => .region [] [xo 4 (.mv (xi (-1)))] [4]
def c8_5 : XC := fun _ => .seq c8_4 (fun _ => .ret)
def c8_6 : XC := fun _ => .cond (xt 10) c8_5 (fun _ => .skip)
def c8_7 : XC := fun _ => .seq c8_3 c8_6
def c8_8 : XC := fun _ => .region [] [xo 11 (.fa (xt 2) 3),
 xo 12 (.ld (xt 11) 1 false),
 xo 13 (.mv (xt 1)),
 xo 14 (.call 19 [(xt 12), (xt 13)]),
 xo 1 (.mv (xt 14))] [1]
def c8_9 : XC := fun _ => .region [] [xo 15 (.mv (xt 1)),
 xo 16 (.bin .lss (xt 15) (xi 0))] [1,16]
def c8_10 : XC := fun _ => .region [] [xo 4 (.mv (xi (-1)))] [4]
def c8_11 : XC := fun _ => .seq c8_10 (fun _ => .ret)
def c8_12 : XC := fun _ => .cond (xt 16) c8_11 (fun _ => .skip)
def c8_13 : XC := fun _ => .seq c8_9 c8_12
def c8_14 : XC := fun _ => .region [] [xo 17 (.mv (xt 1)),
 xo 4 (.mv (xt 17))] [4]
def c8_15 : XC := fun _ => .seq c8_14 (fun _ => .ret)
def c8_16 : XC := fun _ => .seq c8_13 c8_15
def c8_17 : XC := fun _ => .seq c8_8 c8_16
def c8_18 : XC := fun _ => .seq c8_7 c8_17
def c8_19 : XC := fun _ => .seq c8_2 c8_18
def c8_20 : XC := fun _ => .seq c8_1 c8_19
def m_laws_heldConfig : MCode := c8_20 ()
def h_laws_heldConfig : Hints := [(0, [1,2], [], [], []), (1, [1,2], [], [], []), (2, [1,2,10], [], [], []), (3, [4], [], [], []), (4, [1], [], [], []), (5, [1,16], [], [], []), (6, [4], [], [], []), (7, [4], [], [], [])]
def r_laws_heldConfig : List RV := [.t 4]
abbrev n_laws_heldConfig : Nat := 8
theorem k_laws_heldConfig : Known Pr mu n_laws_heldConfig m_laws_heldConfig r_laws_heldConfig Go.Proofs.Tryz.f8.ntmps := .of h_laws_heldConfig hm Go.Proofs.Tryz.func8
def c9_1 : XC := fun _ => .region [] [xo 4 (.mv (.const (.slice none 0 0)))] [0,1]
def c9_2 : XC := fun _ => .region [] [xo 8 (.bsl 1 0 [.string ⟨#[]⟩] []),
 xo 5 (.mv (xt 8))] [0,1,5]
def c9_3 : XC := fun _ => .region [] [xo 6 (.mv (xi 0))] [0,1,5,6]
def c9_4 : XC := fun _ => .region [] [xo 7 (.mv (xi 0))] [0,1,5,6,7]
def c9_5 : XC := fun _ => .region [] [xo 9 (.mv (xt 7)),
 xo 10 (.mv (xt 0)),
 xo 11 (.len true (xt 10)),
 xo 12 (.bin .lss (xt 9) (xt 11))] [0,1,5,6,7,12]
def c9_6 : XC := fun _ => .cond (xt 12) (fun _ => .skip) (fun _ => .exit 0)
def c9_7 : XC := fun _ => .seq c9_5 c9_6
def c9_8 : XC := fun _ => .region [] [xo 15 (.mv (xt 0)),
 xo 16 (.mv (xt 7)),
 xo 17 (.sidx (xt 15) (xt 16)),
 xo 18 (.mv (xt 1)),
 xo 19 (.bin .eql (xt 17) (xt 18))] [0,1,5,6,7,19]
def c9_9 : XC := fun _ => .region [] [xo 20 (.mv (xt 5)),
 xo 21 (.mv (xt 0)),
 xo 22 (.mv (xt 6)),
 xo 23 (.mv (xt 7)),
 xo 24 (.slc true (xt 21) (some (xt 22)) (some (xt 23)) none 0),
 xo 25 (.bsl 1 1 [.string ⟨#[]⟩] [(0, (xt 24))]),
 xo 26 (.app (xt 20) (xt 25) 1 16),
 xo 5 (.mv (xt 26))] [0,1,5,7]
def c9_10 : XC := fun _ => .region [] [xo 27 (.mv (xt 7)),
 xo 28 (.bin .add (xt 27) (xi 1)),
 xo 6 (.mv (xt 28))] [0,1,5,6,7]
def c9_11 : XC := fun _ => .seq c9_9 c9_10
def c9_12 : XC := fun _ => .cond (xt 19) c9_11 (fun _ => .skip)
def c9_13 : XC := fun _ => .seq c9_8 c9_12
def c9_14 : XC := fun _ => .block 1 c9_13
def c9_15 : XC := fun _ => .region [] [xo 13 (.mv (xt 7)),
 xo 14 (.bin .add (xt 13) (xi 1)),
 xo 7 (.mv (xt 14))] [0,1,5,6,7]
def c9_16 : XC := fun _ => .seq c9_14 c9_15
def c9_17 : XC := fun _ => .seq c9_7 c9_16
def c9_18 : XC := fun _ => .loop c9_17
def c9_19 : XC := fun _ => .block 0 c9_18
def c9_20 : XC := fun _ => .seq c9_4 c9_19
def c9_21 : XC := fun _ => .region [] [xo 29 (.mv (xt 5)),
 xo 30 (.mv (xt 0)),
 xo 31 (.mv (xt 6)),
 xo 32 (.slc true (xt 30) (some (xt 31)) none none 0),
 xo 33 (.bsl 1 1 [.string ⟨#[]⟩] [(0, (xt 32))]),
 xo 34 (.app (xt 29) (xt 33) 1 16),
 xo 4 (.mv (xt 34))] [4]
def c9_22 : XC := fun _ => .seq c9_21 (fun _ => .ret)
def c9_23 : XC := fun _ => .seq c9_20 c9_22
def c9_24 : XC := fun _ => .seq c9_3 c9_23
def c9_25 : XC := fun _ => .seq c9_2 c9_24
def c9_26 : XC := fun _ => .seq c9_1 c9_25
def m_spec_l2Cut : MCode := c9_26 ()
def h_spec_l2Cut : Hints := [(0, [0,1], [], [], []), (1, [0,1,5], [], [], []), (2, [0,1,5,6], [], [], []), (3, [0,1,5,6,7], [], [], []), (4, [0,1,5,6,7,12], [], [], []), (6, [0,1,5,6,7,19], [], [], []), (7, [0,1,5,7], [], [], []), (8, [0,1,5,6,7], [], [], []), (5, [0,1,5,6,7], [], [], []), (9, [4], [], [], [])]
def r_spec_l2Cut : List RV := [.t 4]
abbrev n_spec_l2Cut : Nat := 9
theorem k_spec_l2Cut : Known Pr mu n_spec_l2Cut m_spec_l2Cut r_spec_l2Cut Go.Proofs.Tryz.f9.ntmps := .of h_spec_l2Cut hm Go.Proofs.Tryz.func9
def c10_1 : XC := fun _ => .region [] [xo 2 (.mv (.const (.slice none 0 0))),
 xo 3 (.mv (xb false))] [0]
def c10_2 : XC := fun _ => .region [] [xo 6 (.bsl 1 0 [.int .i64 0] []),
 xo 4 (.mv (xt 6))] [0,4]
def c10_3 : XC := fun _ => .region [] [xo 7 (.mv (xt 0)),
 xo 8 (.bin .eql (xt 7) (.const (.string ⟨#[110, 111, 110, 101]⟩)))] [0,4,8]
def c10_4 : XC := fun _ => .region [] [xo 9 (.mv (xt 4)),
 xo 2 (.mv (xt 9)),
 xo 3 (.mv (xb true))] [2,3]
def c10_5 : XC := fun _ => .seq c10_4 (fun _ => .ret)
def c10_6 : XC := fun _ => .cond (xt 8) c10_5 (fun _ => .skip)
def c10_7 : XC := fun _ => .seq c10_3 c10_6
def c10_8 : XC := fun _ => .region [] [xo 5 (.mv (xi 0))] [0,4,5]
def c10_9 : XC := fun _ => .region [] [xo 10 (.mv (xt 5)),
 xo 11 (.mv (xt 0)),
 xo 12 (.len true (xt 11)),
 xo 13 (.bin .lss (xt 10) (xt 12)),
 xo 14 (.mv (xt 13)),
 ⟨(some 15), .mv (xt 5), (some (14, true)), []⟩,
 ⟨(some 16), .bin .leq (xt 15) (xi 5), (some (14, true)), []⟩,
 xo 17 (.pick (xt 14) (xt 16) (xb false))] [0,4,5,17]
def c10_10 : XC := fun _ => .cond (xt 17) (fun _ => .skip) (fun _ => .exit 0)
def c10_11 : XC := fun _ => .seq c10_9 c10_10
def c10_12 : XC := fun _ => .region [] [xo 20 (.mv (xt 4)),
 xo 21 (.mv (xt 0)),
 xo 22 (.mv (xt 5)),
 xo 23 (.sidx (xt 21) (xt 22)),
 xo 24 (.conv .i64 (xt 23)),
 xo 25 (.bin .sub (xt 24) (xi 48)),
 xo 26 (.bsl 1 1 [.int .i64 0] [(0, (xt 25))]),
 xo 27 (.app (xt 20) (xt 26) 1 8),
 xo 4 (.mv (xt 27))] [0,4,5]
def c10_13 : XC := fun _ => .block 1 c10_12
def c10_14 : XC := fun _ => .region [] [xo 18 (.mv (xt 5)),
 xo 19 (.bin .add (xt 18) (xi 1)),
 xo 5 (.mv (xt 19))] [0,4,5]
def c10_15 : XC := fun _ => .seq c10_13 c10_14
def c10_16 : XC := fun _ => .seq c10_11 c10_15
def c10_17 : XC := fun _ => .loop c10_16
def c10_18 : XC := fun _ => .block 0 c10_17
def c10_19 : XC := fun _ => .seq c10_8 c10_18
def c10_20 : XC := fun _ => .region [] [xo 28 (.mv (xt 0)),
 xo 29 (.bin .eql (xt 28) (.const (.string ⟨#[]⟩))),
 xo 30 (.mv (xt 29)),
 ⟨(some 31), .mv (xt 4), (some (30, false)), []⟩,
 ⟨(some 32), .call 20 [(xt 31)], (some (30, false)), []⟩,
 ⟨(some 33), .mv (xt 0), (some (30, false)), []⟩,
 ⟨(some 34), .bin .neq (xt 32) (xt 33), (some (30, false)), []⟩,
 xo 35 (.pick (xt 30) (xb true) (xt 34))] [4,35]
def c10_21 : XC := fun _ => .region [] [xo 36 (.bsl 1 0 [.int .i64 0] []),
 xo 2 (.mv (xt 36)),
 xo 3 (.mv (xb false))] [2,3]
def c10_22 : XC := fun _ => .seq c10_21 (fun _ => .ret)
def c10_23 : XC := fun _ => .cond (xt 35) c10_22 (fun _ => .skip)
def c10_24 : XC := fun _ => .seq c10_20 c10_23
def c10_25 : XC := fun _ => .region [] [xo 37 (.mv (xt 4)),
 xo 2 (.mv (xt 37)),
 xo 3 (.mv (xb true))] [2,3]
def c10_26 : XC := fun _ => .seq c10_25 (fun _ => .ret)
def c10_27 : XC := fun _ => .seq c10_24 c10_26
def c10_28 : XC := fun _ => .seq c10_19 c10_27
def c10_29 : XC := fun _ => .seq c10_7 c10_28
def c10_30 : XC := fun _ => .seq c10_2 c10_29
def c10_31 : XC := fun _ => .seq c10_1 c10_30
def m_spec_ParseServers : MCode := c10_31 ()
def h_spec_ParseServers : Hints := [(0, [0], [], [], []), (1, [0,4], [], [], []), (2, [0,4,8], [], [], []), (3, [2,3], [], [], []), (4, [0,4,5], [], [], []), (5, [0,4,5,17], [], [], []), (7, [0,4,5], [], [], []), (6, [0,4,5], [], [], []), (8, [4,35], [], [], []), (9, [2,3], [], [], []), (10, [2,3], [], [], [])]
def r_spec_ParseServers : List RV := [.t 2, .t 3]
abbrev n_spec_ParseServers : Nat := 10
theorem k_spec_ParseServers : Known Pr mu n_spec_ParseServers m_spec_ParseServers r_spec_ParseServers Go.Proofs.Tryz.f10.ntmps := .of h_spec_ParseServers hm Go.Proofs.Tryz.func10
def c11_1 : XC := fun _ => .region [] [xo 2 (.mv (xi 0))] [0]
def c11_2 : XC := fun _ => .region [] [xo 6 (.mv (xt 0)),
 xo 7 (.call 21 [(xt 6)]),
 xo 5 (.mv (xt 7)),
 xo 8 (.ext (xt 5) 0),
 xo 9 (.ext (xt 5) 1),
 xo 3 (.mv (xt 8)),
 xo 4 (.mv (xt 9))] [3,4]
def c11_3 : XC := fun _ => .region [] [xo 10 (.mv (xt 4)),
 xo 11 (.not (xt 10)),
 xo 12 (.mv (xt 11)),
 ⟨(some 13), .mv (xt 3), (some (12, false)), []⟩,
 ⟨(some 14), .bin .lss (xt 13) (xi 0), (some (12, false)), []⟩,
 xo 15 (.pick (xt 12) (xb true) (xt 14))] [3,15]
def c11_4 : XC := fun _ => .region [] [xo 2 (.mv (xi (-1)))] [2]
def c11_5 : XC := fun _ => .seq c11_4 (fun _ => .ret)
def c11_6 : XC := fun _ => .cond (xt 15) c11_5 (fun _ => .skip)
def c11_7 : XC := fun _ => .seq c11_3 c11_6
def c11_8 : XC := fun _ => .region [] [xo 16 (.mv (xt 3)),
 xo 2 (.mv (xt 16))] [2]
def c11_9 : XC := fun _ => .seq c11_8 (fun _ => .ret)
def c11_10 : XC := fun _ => .seq c11_7 c11_9
def c11_11 : XC := fun _ => .seq c11_2 c11_10
def c11_12 : XC := fun _ => .seq c11_1 c11_11
def m_spec_l3Num : MCode := c11_12 ()
def h_spec_l3Num : Hints := [(0, [0], [], [], []), (1, [3,4], [], [], []), (2, [3,15], [], [], []), (3, [2], [], [], []), (4, [2], [], [], [])]
def r_spec_l3Num : List RV := [.t 2]
abbrev n_spec_l3Num : Nat := 11
theorem k_spec_l3Num : Known Pr mu n_spec_l3Num m_spec_l3Num r_spec_l3Num Go.Proofs.Tryz.f11.ntmps := .of h_spec_l3Num hm Go.Proofs.Tryz.func11
def c12_1 : XC := fun _ => .region [] [xo 1 (.box (xt 0)),
 xo 2 (.mv (.const (.string ⟨#[]⟩)))] [1]
def c12_2 : XC := fun _ => .region [] [xo 3 (.ld (xt 1) 4 true),
 xo 4 (.call 22 [(xt 3)]),
 xo 5 (.not (xt 4))] [1,5]
def c12_3 : XC := fun _ => .region [] [xo 2 (.mv (.const (.string ⟨#[]⟩)))] [2]
def c12_4 : XC := fun _ => .seq c12_3 (fun _ => .ret)
def c12_5 : XC := fun _ => .cond (xt 5) c12_4 (fun _ => .skip)
def c12_6 : XC := fun _ => .seq c12_2 c12_5
def c12_7 : XC := fun _ => .region [] [xo 6 (.fa (xt 1) 0),
 xo 7 (.ld (xt 6) 1 false),
 xo 8 (.call 23 [(xt 7)]),
 xo 9 (.bin .add (xt 8) (.const (.string ⟨#[32]⟩))),
 ⟨(some 10), .fa (xt 1) 1, none, [0, 1, 2, 3]⟩,
 ⟨(some 11), .ld (xt 10) 1 false, none, [0, 1, 2, 3]⟩,
 ⟨(some 12), .call 23 [(xt 11)], none, [3]⟩,
 xo 13 (.bin .add (xt 9) (xt 12)),
 xo 14 (.bin .add (xt 13) (.const (.string ⟨#[32]⟩))),
 ⟨(some 15), .fa (xt 1) 2, none, [0, 1, 2, 3, 4, 5, 6, 7, 8]⟩,
 ⟨(some 16), .ld (xt 15) 1 false, none, [0, 1, 2, 3, 4, 5, 6, 7, 8]⟩,
 ⟨(some 17), .call 20 [(xt 16)], none, [3, 7, 8]⟩,
 xo 18 (.bin .add (xt 14) (xt 17)),
 xo 19 (.bin .add (xt 18) (.const (.string ⟨#[32]⟩))),
 ⟨(some 20), .fa (xt 1) 3, none, [0, 1, 2, 3, 4, 5, 6, 7, 8, 9, 10, 11, 12, 13]⟩,
 ⟨(some 21), .ld (xt 20) 1 false, none, [0, 1, 2, 3, 4, 5, 6, 7, 8, 9, 10, 11, 12, 13]⟩,
 ⟨(some 22), .call 20 [(xt 21)], none, [3, 7, 8, 12, 13]⟩,
 xo 23 (.bin .add (xt 19) (xt 22)),
 xo 2 (.mv (xt 23))] [2]
def c12_8 : XC := fun _ => .seq c12_7 (fun _ => .ret)
def c12_9 : XC := fun _ => .seq c12_6 c12_8
def c12_10 : XC := fun _ => .seq c12_1 c12_9
def m_spec_FormatConfig : MCode := c12_10 ()
def h_spec_FormatConfig : Hints := [(0, [1], [], [], []), (1, [1,5], [], [], []), (2, [2], [], [], []), (3, [2], [[],[],[],[],[0,1,2,3],[0,1,2,3],[3],[],[],[0,1,2,3,4,5,6,7,8],[0,1,2,3,4,5,6,7,8],[3,7,8],[],[],[0,1,2,3,4,5,6,7,8,9,10,11,12,13],[0,1,2,3,4,5,6,7,8,9,10,11,12,13],[3,7,8,12,13]], [], [])]
def r_spec_FormatConfig : List RV := [.t 2]
abbrev n_spec_FormatConfig : Nat := 12
theorem k_spec_FormatConfig : Known Pr mu n_spec_FormatConfig m_spec_FormatConfig r_spec_FormatConfig Go.Proofs.Tryz.f12.ntmps := .of h_spec_FormatConfig hm Go.Proofs.Tryz.func12
def c13_1 : XC := fun _ => .region [] [xo 4 (.mv (.const (.slice none 0 0)))] [0,1]
def c13_2 : XC := fun _ => .region [] [xo 5 (.mv (xt 0)),
 xo 6 (.mv (xt 1)),
 xo 7 (.call 24 [(xt 5), (xt 6), (xi 0), (xi (-1))]),
 xo 4 (.mv (xt 7))] [4]
def c13_3 : XC := fun _ => .seq c13_2 (fun _ => .ret)
def c13_4 : XC := fun _ => .seq c13_1 c13_3
def m_strings_Split : MCode := c13_4 ()
def h_strings_Split : Hints := [(0, [0,1], [], [], []), (1, [4], [], [], [])]
def r_strings_Split : List RV := [.t 4]
abbrev n_strings_Split : Nat := 13
theorem k_strings_Split : Known Pr mu n_strings_Split m_strings_Split r_strings_Split Go.Proofs.Tryz.f13.ntmps := .of h_strings_Split hm Go.Proofs.Tryz.func13
def c14_1 : XC := fun _ => .region [] [xo 2 (.mv (.const (.slice none 0 0))),
 xo 3 (.mv (xb false))] [0]
def c14_2 : XC := fun _ => .region [] [xo 6 (.bsl 1 0 [.int .i64 0] []),
 xo 4 (.mv (xt 6))] [0,4]
def c14_3 : XC := fun _ => .region [] [xo 7 (.mv (xt 0)),
 xo 8 (.bin .eql (xt 7) (.const (.string ⟨#[110, 111, 110, 101]⟩)))] [0,4,8]
def c14_4 : XC := fun _ => .region [] [xo 9 (.mv (xt 4)),
 xo 2 (.mv (xt 9)),
 xo 3 (.mv (xb true))] [2,3]
def c14_5 : XC := fun _ => .seq c14_4 (fun _ => .ret)
def c14_6 : XC := fun _ => .cond (xt 8) c14_5 (fun _ => .skip)
def c14_7 : XC := fun _ => .seq c14_3 c14_6
def c14_8 : XC := fun _ => .region [] [xo 10 (.mv (xt 0)),
 xo 11 (.len true (xt 10)),
 xo 12 (.mv (xi 0))] [0,4,11,12]
def c14_9 : XC := fun _ => .region [] [xo 13 (.bin .lss (xt 12) (xt 11))] [0,4,11,12,13]
def c14_10 : XC := fun _ => .cond (xt 13) (fun _ => .skip) (fun _ => .exit 0)
def c14_11 : XC := fun _ => .region [] [xo 14 (.mv (xt 12)),
 xo 5 (.mv (xt 14))] [0,4,5,11,12]
def c14_12 : XC := fun _ => .region [] [xo 15 (.mv (xt 4)),
 xo 16 (.mv (xt 0)),
 xo 17 (.mv (xt 5)),
 xo 18 (.sidx (xt 16) (xt 17)),
 xo 19 (.conv .i64 (xt 18)),
 xo 20 (.bin .sub (xt 19) (xi 48)),
 xo 21 (.bsl 1 1 [.int .i64 0] [(0, (xt 20))]),
 xo 22 (.app (xt 15) (xt 21) 1 8),
 xo 4 (.mv (xt 22))] [0,4,11,12]
def c14_13 : XC := fun _ => .seq c14_11 c14_12
def c14_14 : XC := fun _ => .block 1 c14_13
def c14_15 : XC := fun _ => .region [] [xo 23 (.bin .add (xt 12) (xi 1)),
 xo 12 (.mv (xt 23))] [0,4,11,12]
def c14_16 : XC := fun _ => .seq c14_14 c14_15
def c14_17 : XC := fun _ => .seq c14_10 c14_16
def c14_18 : XC := fun _ => .seq c14_9 c14_17
def c14_19 : XC := fun _ => .loop c14_18
def c14_20 : XC := fun _ => .block 0 c14_19
def c14_21 : XC := fun _ => .seq c14_8 c14_20
def c14_22 : XC := fun _ => .region [] [xo 24 (.mv (xt 0)),
 xo 25 (.bin .eql (xt 24) (.const (.string ⟨#[]⟩))),
 xo 26 (.mv (xt 25)),
 ⟨(some 27), .mv (xt 4), (some (26, false)), []⟩,
 ⟨(some 28), .call 25 [(xt 27)], (some (26, false)), []⟩,
 ⟨(some 29), .mv (xt 0), (some (26, false)), []⟩,
 ⟨(some 30), .bin .neq (xt 28) (xt 29), (some (26, false)), []⟩,
 xo 31 (.pick (xt 26) (xb true) (xt 30))] [4,31]
def c14_23 : XC := fun _ => .region [] [xo 2 (.mv (.const (.slice none 0 0))),
 xo 3 (.mv (xb false))] [2,3]
def c14_24 : XC := fun _ => .seq c14_23 (fun _ => .ret)
def c14_25 : XC := fun _ => .cond (xt 31) c14_24 (fun _ => .skip)
def c14_26 : XC := fun _ => .seq c14_22 c14_25
def c14_27 : XC := fun _ => .region [] [xo 32 (.mv (xt 4)),
 xo 2 (.mv (xt 32)),
 xo 3 (.mv (xb true))] [2,3]
def c14_28 : XC := fun _ => .seq c14_27 (fun _ => .ret)
def c14_29 : XC := fun _ => .seq c14_26 c14_28
def c14_30 : XC := fun _ => .seq c14_21 c14_29
def c14_31 : XC := fun _ => .seq c14_7 c14_30
def c14_32 : XC := fun _ => .seq c14_2 c14_31
def c14_33 : XC := fun _ => .seq c14_1 c14_32
def m_impl_ParseServers : MCode := c14_33 ()
def h_impl_ParseServers : Hints := [(0, [0], [], [], []), (1, [0,4], [], [], []), (2, [0,4,8], [], [], []), (3, [2,3], [], [], []), (4, [0,4,11,12], [], [], []), (5, [0,4,11,12,13], [], [], []), (6, [0,4,5,11,12], [], [], []), (7, [0,4,11,12], [], [], []), (8, [0,4,11,12], [], [], []), (9, [4,31], [], [], []), (10, [2,3], [], [], []), (11, [2,3], [], [], [])]
def r_impl_ParseServers : List RV := [.t 2, .t 3]
abbrev n_impl_ParseServers : Nat := 14
theorem k_impl_ParseServers : Known Pr mu n_impl_ParseServers m_impl_ParseServers r_impl_ParseServers Go.Proofs.Tryz.f14.ntmps := .of h_impl_ParseServers hm Go.Proofs.Tryz.func14
def c15_1 : XC := fun _ => .region [] [xo 2 (.mv (xi 0))] [0]
def c15_2 : XC := fun _ => .region [] [xo 6 (.mv (xt 0)),
 xo 7 (.call 26 [(xt 6)]),
 xo 5 (.mv (xt 7)),
 xo 8 (.ext (xt 5) 0),
 xo 9 (.ext (xt 5) 1),
 xo 3 (.mv (xt 8)),
 xo 4 (.mv (xt 9))] [3,4]
def c15_3 : XC := fun _ => .region [] [xo 10 (.mv (xt 4)),
 xo 11 (.not (xt 10))] [3,11]
def c15_4 : XC := fun _ => .region [] [xo 2 (.mv (xi (-1)))] [2]
def c15_5 : XC := fun _ => .seq c15_4 (fun _ => .ret)
def c15_6 : XC := fun _ => .cond (xt 11) c15_5 (fun _ => .skip)
def c15_7 : XC := fun _ => .seq c15_3 c15_6
def c15_8 : XC := fun _ => .region [] [xo 12 (.mv (xt 3)),
 xo 2 (.mv (xt 12))] [2]
def c15_9 : XC := fun _ => .seq c15_8 (fun _ => .ret)
def c15_10 : XC := fun _ => .seq c15_7 c15_9
def c15_11 : XC := fun _ => .seq c15_2 c15_10
def c15_12 : XC := fun _ => .seq c15_1 c15_11
def m_impl_number : MCode := c15_12 ()
def h_impl_number : Hints := [(0, [0], [], [], []), (1, [3,4], [], [], []), (2, [3,11], [], [], []), (3, [2], [], [], []), (4, [2], [], [], [])]
def r_impl_number : List RV := [.t 2]
abbrev n_impl_number : Nat := 15
theorem k_impl_number : Known Pr mu n_impl_number m_impl_number r_impl_number Go.Proofs.Tryz.f15.ntmps := .of h_impl_number hm Go.Proofs.Tryz.func15
def c16_1 : XC := fun _ => .region [] [xo 1 (.box (xt 0)),
 xo 2 (.mv (.const (.string ⟨#[]⟩)))] [1]
def c16_2 : XC := fun _ => .region [] [xo 3 (.ld (xt 1) 4 true),
 xo 4 (.call 27 [(xt 3)]),
 xo 5 (.not (xt 4))] [1,5]
def c16_3 : XC := fun _ => .region [] [xo 2 (.mv (.const (.string ⟨#[]⟩)))] [2]
def c16_4 : XC := fun _ => .seq c16_3 (fun _ => .ret)
def c16_5 : XC := fun _ => .cond (xt 5) c16_4 (fun _ => .skip)
def c16_6 : XC := fun _ => .seq c16_2 c16_5
def c16_7 : XC := fun _ => .region [] [xo 6 (.fa (xt 1) 0),
 xo 7 (.ld (xt 6) 1 false),
 xo 8 (.call 29 [(xt 7)]),
 ⟨(some 9), .fa (xt 1) 1, none, [0, 1, 2]⟩,
 ⟨(some 10), .ld (xt 9) 1 false, none, [0, 1, 2]⟩,
 xo 11 (.call 29 [(xt 10)]),
 ⟨(some 12), .fa (xt 1) 2, none, [0, 1, 2, 3, 4, 5]⟩,
 ⟨(some 13), .ld (xt 12) 1 false, none, [0, 1, 2, 3, 4, 5]⟩,
 xo 14 (.call 25 [(xt 13)]),
 ⟨(some 15), .fa (xt 1) 3, none, [0, 1, 2, 3, 4, 5, 6, 7, 8]⟩,
 ⟨(some 16), .ld (xt 15) 1 false, none, [0, 1, 2, 3, 4, 5, 6, 7, 8]⟩,
 xo 17 (.call 25 [(xt 16)]),
 xo 18 (.bsl 1 4 [.string ⟨#[]⟩] [(0, (xt 8)), (1, (xt 11)), (2, (xt 14)), (3, (xt 17))]),
 xo 19 (.call 28 [(xt 18), (.const (.string ⟨#[32]⟩))]),
 xo 2 (.mv (xt 19))] [2]
def c16_8 : XC := fun _ => .seq c16_7 (fun _ => .ret)
def c16_9 : XC := fun _ => .seq c16_6 c16_8
def c16_10 : XC := fun _ => .seq c16_1 c16_9
def m_impl_FormatConfig : MCode := c16_10 ()
def h_impl_FormatConfig : Hints := [(0, [1], [], [], []), (1, [1,5], [], [], []), (2, [2], [], [], []), (3, [2], [[],[],[],[0,1,2],[0,1,2],[],[0,1,2,3,4,5],[0,1,2,3,4,5],[],[0,1,2,3,4,5,6,7,8],[0,1,2,3,4,5,6,7,8]], [], [])]
def r_impl_FormatConfig : List RV := [.t 2]
abbrev n_impl_FormatConfig : Nat := 16
theorem k_impl_FormatConfig : Known Pr mu n_impl_FormatConfig m_impl_FormatConfig r_impl_FormatConfig Go.Proofs.Tryz.f16.ntmps := .of h_impl_FormatConfig hm Go.Proofs.Tryz.func16
def c17_1 : XC := fun _ => .region [] [xo 4 (.mv (xb false))] [0,1]
def c17_2 : XC := fun _ => .region [] [xo 6 (.mv (xt 0)),
 xo 7 (.len false (xt 6)),
 xo 8 (.mv (xt 1)),
 xo 9 (.len false (xt 8)),
 xo 10 (.bin .neq (xt 7) (xt 9))] [0,1,10]
def c17_3 : XC := fun _ => .region [] [xo 4 (.mv (xb false))] [4]
def c17_4 : XC := fun _ => .seq c17_3 (fun _ => .ret)
def c17_5 : XC := fun _ => .cond (xt 10) c17_4 (fun _ => .skip)
def c17_6 : XC := fun _ => .seq c17_2 c17_5
def c17_7 : XC := fun _ => .region [] [xo 5 (.mv (xi 0))] [0,1,5]
def c17_8 : XC := fun _ => .region [] [xo 11 (.mv (xt 5)),
 xo 12 (.mv (xt 0)),
 xo 13 (.len false (xt 12)),
 xo 14 (.bin .lss (xt 11) (xt 13))] [0,1,5,14]
def c17_9 : XC := fun _ => .cond (xt 14) (fun _ => .skip) (fun _ => .exit 0)
def c17_10 : XC := fun _ => .seq c17_8 c17_9
def c17_11 : XC := fun _ => .region [] [xo 17 (.mv (xt 0)),
 xo 18 (.mv (xt 5)),
 xo 19 (.ia (xt 17) (xt 18) 1),
 xo 20 (.ld (xt 19) 1 false),
 xo 21 (.mv (xt 1)),
 xo 22 (.mv (xt 5)),
 ⟨(some 23), .ia (xt 21) (xt 22) 1, none, [0, 1, 2, 3]⟩,
 ⟨(some 24), .ld (xt 23) 1 false, none, [0, 1, 2, 3]⟩,
 xo 25 (.bin .neq (xt 20) (xt 24))] [0,1,5,25]
def c17_12 : XC := fun _ => .region [] [xo 4 (.mv (xb false))] [4]
def c17_13 : XC := fun _ => .seq c17_12 (fun _ => .ret)
def c17_14 : XC := fun _ => .cond (xt 25) c17_13 (fun _ => .skip)
def c17_15 : XC := fun _ => .seq c17_11 c17_14
def c17_16 : XC := fun _ => .block 1 c17_15
def c17_17 : XC := fun _ => .region [] [xo 15 (.mv (xt 5)),
 xo 16 (.bin .add (xt 15) (xi 1)),
 xo 5 (.mv (xt 16))] [0,1,5]
def c17_18 : XC := fun _ => .seq c17_16 c17_17
def c17_19 : XC := fun _ => .seq c17_10 c17_18
def c17_20 : XC := fun _ => .loop c17_19
def c17_21 : XC := fun _ => .block 0 c17_20
def c17_22 : XC := fun _ => .seq c17_7 c17_21
def c17_23 : XC := fun _ => .region [] [xo 4 (.mv (xb true))] [4]
def c17_24 : XC := fun _ => .seq c17_23 (fun _ => .ret)
def c17_25 : XC := fun _ => .seq c17_22 c17_24
def c17_26 : XC := fun _ => .seq c17_6 c17_25
def c17_27 : XC := fun _ => .seq c17_1 c17_26
def m_laws_eqIntS : MCode := c17_27 ()
def h_laws_eqIntS : Hints := [(0, [0,1], [], [], []), (1, [0,1,10], [], [], []), (2, [4], [], [], []), (3, [0,1,5], [], [], []), (4, [0,1,5,14], [], [], []), (6, [0,1,5,25], [[],[],[],[],[],[],[0,1,2,3],[0,1,2,3]], [], []), (7, [4], [], [], []), (5, [0,1,5], [], [], []), (8, [4], [], [], [])]
def r_laws_eqIntS : List RV := [.t 4]
abbrev n_laws_eqIntS : Nat := 17
theorem k_laws_eqIntS : Known Pr mu n_laws_eqIntS m_laws_eqIntS r_laws_eqIntS Go.Proofs.Tryz.f17.ntmps := .of h_laws_eqIntS hm Go.Proofs.Tryz.func17
def c18_1 : XC := fun _ => .region [] [xo 4 (.mv (xi 0))] [0,1]
def c18_2 : XC := fun _ => .region [] [xo 5 (.mv (xi 0))] [0,1,5]
def c18_3 : XC := fun _ => .region [] [xo 6 (.mv (xt 5)),
 xo 7 (.mv (xt 0)),
 xo 8 (.len false (xt 7)),
 xo 9 (.bin .lss (xt 6) (xt 8))] [0,1,5,9]
def c18_4 : XC := fun _ => .cond (xt 9) (fun _ => .skip) (fun _ => .exit 0)
def c18_5 : XC := fun _ => .seq c18_3 c18_4
def c18_6 : XC := fun _ => .region [] [xo 12 (.mv (xt 0)),
 xo 13 (.mv (xt 5)),
 xo 14 (.mv (xt 1)),
 xo 15 (.ia (xt 12) (xt 13) 1),
 xn (.sto (xt 15) (xt 14) 1)] [0,1,5]
def c18_7 : XC := fun _ => .region [] [xo 16 (.mv (xt 1)),
 xo 17 (.bin .add (xt 16) (xi 1)),
 xo 1 (.mv (xt 17))] [0,1,5]
def c18_8 : XC := fun _ => .seq c18_6 c18_7
def c18_9 : XC := fun _ => .block 1 c18_8
def c18_10 : XC := fun _ => .region [] [xo 10 (.mv (xt 5)),
 xo 11 (.bin .add (xt 10) (xi 1)),
 xo 5 (.mv (xt 11))] [0,1,5]
def c18_11 : XC := fun _ => .seq c18_9 c18_10
def c18_12 : XC := fun _ => .seq c18_5 c18_11
def c18_13 : XC := fun _ => .loop c18_12
def c18_14 : XC := fun _ => .block 0 c18_13
def c18_15 : XC := fun _ => .seq c18_2 c18_14
def c18_16 : XC := fun _ => .region [] [xo 18 (.mv (xt 1)),
 xo 4 (.mv (xt 18))] [4]
def c18_17 : XC := fun _ => .seq c18_16 (fun _ => .ret)
def c18_18 : XC := fun _ => .seq c18_15 c18_17
def c18_19 : XC := fun _ => .seq c18_1 c18_18
def m_laws_markIntS : MCode := c18_19 ()
def h_laws_markIntS : Hints := [(0, [0,1], [], [], []), (1, [0,1,5], [], [], []), (2, [0,1,5,9], [], [], []), (4, [0,1,5], [], [], []), (5, [0,1,5], [], [], []), (3, [0,1,5], [], [], []), (6, [4], [], [], [])]
def r_laws_markIntS : List RV := [.t 4]
abbrev n_laws_markIntS : Nat := 18
theorem k_laws_markIntS : Known Pr mu n_laws_markIntS m_laws_markIntS r_laws_markIntS Go.Proofs.Tryz.f18.ntmps := .of h_laws_markIntS hm Go.Proofs.Tryz.func18
def c19_1 : XC := fun _ => .region [] [xo 4 (.mv (xi 0))] [0,1]
def c19_2 : XC := fun _ => .region [] [xo 5 (.mv (xi 0))] [0,1,5]
def c19_3 : XC := fun _ => .region [] [xo 6 (.mv (xt 5)),
 xo 7 (.mv (xt 0)),
 xo 8 (.len false (xt 7)),
 xo 9 (.bin .lss (xt 6) (xt 8))] [0,1,5,9]
def c19_4 : XC := fun _ => .cond (xt 9) (fun _ => .skip) (fun _ => .exit 0)
def c19_5 : XC := fun _ => .seq c19_3 c19_4
def c19_6 : XC := fun _ => .region [] [xo 12 (.mv (xt 0)),
 xo 13 (.mv (xt 5)),
 xo 14 (.ia (xt 12) (xt 13) 1),
 xo 15 (.ld (xt 14) 1 false),
 xo 16 (.mv (xt 1)),
 xo 17 (.bin .neq (xt 15) (xt 16))] [0,1,5,17]
def c19_7 : XC := fun _ => .region [] [xo 4 (.mv (xi (-1)))] [4]
def c19_8 : XC := fun _ => .seq c19_7 (fun _ => .ret)
def c19_9 : XC := fun _ => .cond (xt 17) c19_8 (fun _ => .skip)
def c19_10 : XC := fun _ => .seq c19_6 c19_9
def c19_11 : XC := fun _ => .region [] [xo 18 (.mv (xt 1)),
 xo 19 (.bin .add (xt 18) (xi 1)),
 xo 1 (.mv (xt 19))] [0,1,5]
def c19_12 : XC := fun _ => .seq c19_10 c19_11
def c19_13 : XC := fun _ => .block 1 c19_12
def c19_14 : XC := fun _ => .region [] [xo 10 (.mv (xt 5)),
 xo 11 (.bin .add (xt 10) (xi 1)),
 xo 5 (.mv (xt 11))] [0,1,5]
def c19_15 : XC := fun _ => .seq c19_13 c19_14
def c19_16 : XC := fun _ => .seq c19_5 c19_15
def c19_17 : XC := fun _ => .loop c19_16
def c19_18 : XC := fun _ => .block 0 c19_17
def c19_19 : XC := fun _ => .seq c19_2 c19_18
def c19_20 : XC := fun _ => .region [] [xo 20 (.mv (xt 1)),
 xo 4 (.mv (xt 20))] [4]
def c19_21 : XC := fun _ => .seq c19_20 (fun _ => .ret)
def c19_22 : XC := fun _ => .seq c19_19 c19_21
def c19_23 : XC := fun _ => .seq c19_1 c19_22
def m_laws_heldIntS : MCode := c19_23 ()
def h_laws_heldIntS : Hints := [(0, [0,1], [], [], []), (1, [0,1,5], [], [], []), (2, [0,1,5,9], [], [], []), (4, [0,1,5,17], [], [], []), (5, [4], [], [], []), (6, [0,1,5], [], [], []), (3, [0,1,5], [], [], []), (7, [4], [], [], [])]
def r_laws_heldIntS : List RV := [.t 4]
abbrev n_laws_heldIntS : Nat := 19
theorem k_laws_heldIntS : Known Pr mu n_laws_heldIntS m_laws_heldIntS r_laws_heldIntS Go.Proofs.Tryz.f19.ntmps := .of h_laws_heldIntS hm Go.Proofs.Tryz.func19
def c20_1 : XC := fun _ => .region [] [xo 2 (.mv (.const (.string ⟨#[]⟩)))] [0]
def c20_2 : XC := fun _ => .region [] [xo 5 (.mv (xt 0)),
 xo 6 (.call 30 [(xt 5)]),
 xo 7 (.not (xt 6))] [0,7]
def c20_3 : XC := fun _ => .region [] [xo 2 (.mv (.const (.string ⟨#[]⟩)))] [2]
def c20_4 : XC := fun _ => .seq c20_3 (fun _ => .ret)
def c20_5 : XC := fun _ => .cond (xt 7) c20_4 (fun _ => .skip)
def c20_6 : XC := fun _ => .seq c20_2 c20_5
def c20_7 : XC := fun _ => .region [] [xo 8 (.mv (xt 0)),
 xo 9 (.len false (xt 8)),
 xo 10 (.bin .eql (xt 9) (xi 0))] [0,10]
def c20_8 : XC := fun _ => .region [] [xo 2 (.mv (.const (.string ⟨#[110, 111, 110, 101]⟩)))] [2]
def c20_9 : XC := fun _ => .seq c20_8 (fun _ => .ret)
def c20_10 : XC := fun _ => .cond (xt 10) c20_9 (fun _ => .skip)
def c20_11 : XC := fun _ => .seq c20_7 c20_10
def c20_12 : XC := fun _ => .region [] [xo 3 (.mv (.const (.string ⟨#[]⟩)))] [0,3]
def c20_13 : XC := fun _ => .region [] [xo 4 (.mv (xi 0))] [0,3,4]
def c20_14 : XC := fun _ => .region [] [xo 11 (.mv (xt 4)),
 xo 12 (.mv (xt 0)),
 xo 13 (.len false (xt 12)),
 xo 14 (.bin .lss (xt 11) (xt 13))] [0,3,4,14]
def c20_15 : XC := fun _ => .cond (xt 14) (fun _ => .skip) (fun _ => .exit 0)
def c20_16 : XC := fun _ => .seq c20_14 c20_15
def c20_17 : XC := fun _ => .region [] [xo 17 (.mv (xt 3)),
 xo 18 (.mv (xt 0)),
 xo 19 (.mv (xt 4)),
 xo 20 (.ia (xt 18) (xt 19) 1),
 xo 21 (.ld (xt 20) 1 false),
 xo 22 (.call 23 [(xt 21)]),
 xo 23 (.bin .add (xt 17) (xt 22)),
 xo 3 (.mv (xt 23))] [0,3,4]
def c20_18 : XC := fun _ => .block 1 c20_17
def c20_19 : XC := fun _ => .region [] [xo 15 (.mv (xt 4)),
 xo 16 (.bin .add (xt 15) (xi 1)),
 xo 4 (.mv (xt 16))] [0,3,4]
def c20_20 : XC := fun _ => .seq c20_18 c20_19
def c20_21 : XC := fun _ => .seq c20_16 c20_20
def c20_22 : XC := fun _ => .loop c20_21
def c20_23 : XC := fun _ => .block 0 c20_22
def c20_24 : XC := fun _ => .seq c20_13 c20_23
def c20_25 : XC := fun _ => .region [] [xo 24 (.mv (xt 3)),
 xo 2 (.mv (xt 24))] [2]
def c20_26 : XC := fun _ => .seq c20_25 (fun _ => .ret)
def c20_27 : XC := fun _ => .seq c20_24 c20_26
def c20_28 : XC := fun _ => .seq c20_12 c20_27
def c20_29 : XC := fun _ => .seq c20_11 c20_28
def c20_30 : XC := fun _ => .seq c20_6 c20_29
def c20_31 : XC := fun _ => .seq c20_1 c20_30
def m_spec_FormatServers : MCode := c20_31 ()
def h_spec_FormatServers : Hints := [(0, [0], [], [], []), (1, [0,7], [], [], []), (2, [2], [], [], []), (3, [0,10], [], [], []), (4, [2], [], [], []), (5, [0,3], [], [], []), (6, [0,3,4], [], [], []), (7, [0,3,4,14], [], [], []), (9, [0,3,4], [], [], []), (8, [0,3,4], [], [], []), (10, [2], [], [], [])]
def r_spec_FormatServers : List RV := [.t 2]
abbrev n_spec_FormatServers : Nat := 20
theorem k_spec_FormatServers : Known Pr mu n_spec_FormatServers m_spec_FormatServers r_spec_FormatServers Go.Proofs.Tryz.f20.ntmps := .of h_spec_FormatServers hm Go.Proofs.Tryz.func20
def c21_1 : XC := fun _ => .region [] [xo 2 (.mv (xi 0)),
 xo 3 (.mv (xb false))] [0]
def c21_2 : XC := fun _ => .region [] [xo 4 (.mv (xi 0))] [0,4]
def c21_3 : XC := fun _ => .region [] [xo 5 (.mv (xi 0))] [0,4,5]
def c21_4 : XC := fun _ => .region [] [xo 6 (.mv (xi 0))] [0,4,5,6]
def c21_5 : XC := fun _ => .region [] [xo 7 (.mv (xt 6)),
 xo 8 (.mv (xt 0)),
 xo 9 (.len true (xt 8)),
 xo 10 (.bin .lss (xt 7) (xt 9)),
 xo 11 (.mv (xt 10)),
 ⟨(some 12), .mv (xt 6), (some (11, true)), []⟩,
 ⟨(some 13), .bin .lss (xt 12) (xi 11), (some (11, true)), []⟩,
 xo 14 (.pick (xt 11) (xt 13) (xb false))] [0,4,5,6,14]
def c21_6 : XC := fun _ => .cond (xt 14) (fun _ => .skip) (fun _ => .exit 0)
def c21_7 : XC := fun _ => .seq c21_5 c21_6
def c21_8 : XC := fun _ => .region [] [xo 17 (.mv (xt 0)),
 xo 18 (.mv (xt 6)),
 xo 19 (.sidx (xt 17) (xt 18)),
 xo 20 (.bin .geq (xt 19) (.const (.int .u8 48))),
 xo 21 (.mv (xt 20)),
 ⟨(some 22), .mv (xt 0), (some (21, true)), []⟩,
 ⟨(some 23), .mv (xt 6), (some (21, true)), []⟩,
 ⟨(some 24), .sidx (xt 22) (xt 23), (some (21, true)), []⟩,
 ⟨(some 25), .bin .leq (xt 24) (.const (.int .u8 57)), (some (21, true)), []⟩,
 xo 26 (.pick (xt 21) (xt 25) (xb false))] [0,4,5,6,26]
def c21_9 : XC := fun _ => .region [] [xo 27 (.mv (xt 4)),
 xo 28 (.bin .mul (xt 27) (xi 10)),
 xo 29 (.mv (xt 0)),
 xo 30 (.mv (xt 6)),
 xo 31 (.sidx (xt 29) (xt 30)),
 xo 32 (.bin .sub (xt 31) (.const (.int .u8 48))),
 xo 33 (.conv .i64 (xt 32)),
 xo 34 (.bin .add (xt 28) (xt 33)),
 xo 4 (.mv (xt 34))] [0,4,5,6]
def c21_10 : XC := fun _ => .region [] [xo 35 (.mv (xt 5)),
 xo 36 (.bin .add (xt 35) (xi 1)),
 xo 5 (.mv (xt 36))] [0,4,5,6]
def c21_11 : XC := fun _ => .seq c21_9 c21_10
def c21_12 : XC := fun _ => .cond (xt 26) c21_11 (fun _ => .skip)
def c21_13 : XC := fun _ => .seq c21_8 c21_12
def c21_14 : XC := fun _ => .block 1 c21_13
def c21_15 : XC := fun _ => .region [] [xo 15 (.mv (xt 6)),
 xo 16 (.bin .add (xt 15) (xi 1)),
 xo 6 (.mv (xt 16))] [0,4,5,6]
def c21_16 : XC := fun _ => .seq c21_14 c21_15
def c21_17 : XC := fun _ => .seq c21_7 c21_16
def c21_18 : XC := fun _ => .loop c21_17
def c21_19 : XC := fun _ => .block 0 c21_18
def c21_20 : XC := fun _ => .seq c21_4 c21_19
def c21_21 : XC := fun _ => .region [] [xo 37 (.mv (xt 0)),
 xo 38 (.len true (xt 37)),
 xo 39 (.bin .gtr (xt 38) (xi 0)),
 xo 40 (.mv (xt 39)),
 ⟨(some 41), .mv (xt 0), (some (40, true)), []⟩,
 ⟨(some 42), .sidx (xt 41) (xi 0), (some (40, true)), []⟩,
 ⟨(some 43), .bin .eql (xt 42) (.const (.int .u8 45)), (some (40, true)), []⟩,
 xo 44 (.pick (xt 40) (xt 43) (xb false))] [0,4,5,44]
def c21_22 : XC := fun _ => .region [] [xo 45 (.mv (xt 4)),
 xo 46 (.neg (xt 45)),
 xo 4 (.mv (xt 46))] [0,4,5]
def c21_23 : XC := fun _ => .cond (xt 44) c21_22 (fun _ => .skip)
def c21_24 : XC := fun _ => .seq c21_21 c21_23
def c21_25 : XC := fun _ => .region [] [xo 47 (.mv (xt 5)),
 xo 48 (.bin .gtr (xt 47) (xi 9)),
 xo 49 (.mv (xt 48)),
 ⟨(some 50), .mv (xt 0), (some (49, false)), []⟩,
 ⟨(some 51), .len true (xt 50), (some (49, false)), []⟩,
 ⟨(some 52), .bin .gtr (xt 51) (xi 10), (some (49, false)), []⟩,
 xo 53 (.pick (xt 49) (xb true) (xt 52)),
 xo 54 (.mv (xt 53)),
 ⟨(some 55), .mv (xt 4), (some (54, false)), []⟩,
 ⟨(some 56), .call 23 [(xt 55)], (some (54, false)), []⟩,
 ⟨(some 57), .mv (xt 0), (some (54, false)), []⟩,
 ⟨(some 58), .bin .neq (xt 56) (xt 57), (some (54, false)), []⟩,
 xo 59 (.pick (xt 54) (xb true) (xt 58))] [4,59]
def c21_26 : XC := fun _ => .region [] [xo 2 (.mv (xi 0)),
 xo 3 (.mv (xb false))] [2,3]
def c21_27 : XC := fun _ => .seq c21_26 (fun _ => .ret)
def c21_28 : XC := fun _ => .cond (xt 59) c21_27 (fun _ => .skip)
def c21_29 : XC := fun _ => .seq c21_25 c21_28
def c21_30 : XC := fun _ => .region [] [xo 60 (.mv (xt 4)),
 xo 2 (.mv (xt 60)),
 xo 3 (.mv (xb true))] [2,3]
def c21_31 : XC := fun _ => .seq c21_30 (fun _ => .ret)
def c21_32 : XC := fun _ => .seq c21_29 c21_31
def c21_33 : XC := fun _ => .seq c21_24 c21_32
def c21_34 : XC := fun _ => .seq c21_20 c21_33
def c21_35 : XC := fun _ => .seq c21_3 c21_34
def c21_36 : XC := fun _ => .seq c21_2 c21_35
def c21_37 : XC := fun _ => .seq c21_1 c21_36
def m_spec_ParseInt : MCode := c21_37 ()
def h_spec_ParseInt : Hints := [(0, [0], [], [], []), (1, [0,4], [], [], []), (2, [0,4,5], [], [], []), (3, [0,4,5,6], [], [], []), (4, [0,4,5,6,14], [], [], []), (6, [0,4,5,6,26], [], [], []), (7, [0,4,5,6], [], [], []), (8, [0,4,5,6], [], [], []), (5, [0,4,5,6], [], [], []), (9, [0,4,5,44], [], [], []), (10, [0,4,5], [], [], []), (11, [4,59], [], [], []), (12, [2,3], [], [], []), (13, [2,3], [], [], [])]
def r_spec_ParseInt : List RV := [.t 2, .t 3]
abbrev n_spec_ParseInt : Nat := 21
theorem k_spec_ParseInt : Known Pr mu n_spec_ParseInt m_spec_ParseInt r_spec_ParseInt Go.Proofs.Tryz.f21.ntmps := .of h_spec_ParseInt hm Go.Proofs.Tryz.func21
def c22_1 : XC := fun _ => .region [] [xo 1 (.box (xt 0)),
 xo 2 (.mv (xb false))] [1]
def c22_2 : XC := fun _ => .region [] [xo 3 (.fa (xt 1) 0),
 xo 4 (.ld (xt 3) 1 false),
 xo 5 (.call 31 [(xt 4), (xi 1), (xi 20)]),
 xo 6 (.mv (xt 5)),
 ⟨(some 7), .fa (xt 1) 2, (some (6, true)), []⟩,
 ⟨(some 8), .ld (xt 7) 1 false, (some (6, true)), []⟩,
 ⟨(some 9), .call 30 [(xt 8)], (some (6, true)), []⟩,
 xo 10 (.pick (xt 6) (xt 9) (xb false)),
 xo 11 (.mv (xt 10)),
 ⟨(some 12), .fa (xt 1) 3, (some (11, true)), []⟩,
 ⟨(some 13), .ld (xt 12) 1 false, (some (11, true)), []⟩,
 ⟨(some 14), .call 30 [(xt 13)], (some (11, true)), []⟩,
 xo 15 (.pick (xt 11) (xt 14) (xb false)),
 xo 16 (.mv (xt 15)),
 ⟨(some 17), .fa (xt 1) 2, (some (16, true)), []⟩,
 ⟨(some 18), .ld (xt 17) 1 false, (some (16, true)), []⟩,
 ⟨(some 19), .fa (xt 1) 1, (some (16, true)), []⟩,
 ⟨(some 20), .ld (xt 19) 1 false, (some (16, true)), []⟩,
 ⟨(some 21), .call 32 [(xt 18), (xt 20)], (some (16, true)), []⟩,
 xo 22 (.pick (xt 16) (xt 21) (xb false)),
 xo 23 (.mv (xt 22)),
 ⟨(some 24), .fa (xt 1) 2, (some (23, true)), []⟩,
 ⟨(some 25), .ld (xt 24) 1 false, (some (23, true)), []⟩,
 ⟨(some 26), .fa (xt 1) 3, (some (23, true)), []⟩,
 ⟨(some 27), .ld (xt 26) 1 false, (some (23, true)), []⟩,
 ⟨(some 28), .call 33 [(xt 25), (xt 27)], (some (23, true)), []⟩,
 ⟨(some 29), .len false (xt 28), (some (23, true)), []⟩,
 ⟨(some 30), .bin .eql (xt 29) (xi 0), (some (23, true)), []⟩,
 xo 31 (.pick (xt 23) (xt 30) (xb false)),
 xo 2 (.mv (xt 31))] [2]
def c22_3 : XC := fun _ => .seq c22_2 (fun _ => .ret)
def c22_4 : XC := fun _ => .seq c22_1 c22_3
def m_spec_IsValidConfig : MCode := c22_4 ()
def h_spec_IsValidConfig : Hints := [(0, [1], [], [], []), (1, [2], [], [], [])]
def r_spec_IsValidConfig : List RV := [.t 2]
abbrev n_spec_IsValidConfig : Nat := 22
theorem k_spec_IsValidConfig : Known Pr mu n_spec_IsValidConfig m_spec_IsValidConfig r_spec_IsValidConfig Go.Proofs.Tryz.f22.ntmps := .of h_spec_IsValidConfig hm Go.Proofs.Tryz.func22
def c23_1 : XC := fun _ => .region [] [xo 2 (.mv (.const (.string ⟨#[]⟩)))] [0]
def c23_2 : XC := fun _ => .region [] [xo 6 (.mv (xt 0)),
 xo 7 (.bin .eql (xt 6) (xi 0))] [0,7]
def c23_3 : XC := fun _ => .region [] [xo 2 (.mv (.const (.string ⟨#[48]⟩)))] [2]
def c23_4 : XC := fun _ => .seq c23_3 (fun _ => .ret)
def c23_5 : XC := fun _ => .cond (xt 7) c23_4 (fun _ => .skip)
def c23_6 : XC := fun _ => .seq c23_2 c23_5
def c23_7 : XC := fun _ => .region [] [xo 3 (.mv (.const (.string ⟨#[]⟩)))] [0,3]
def c23_8 : XC := fun _ => .region [] [xo 8 (.mv (xt 0)),
 xo 9 (.bin .lss (xt 8) (xi 0)),
 xo 4 (.mv (xt 9))] [0,3,4]
def c23_9 : XC := fun _ => .region [] [xo 10 (.mv (xt 0)),
 xo 11 (.bin .neq (xt 10) (xi 0))] [0,3,4,11]
def c23_10 : XC := fun _ => .cond (xt 11) (fun _ => .skip) (fun _ => .exit 0)
def c23_11 : XC := fun _ => .seq c23_9 c23_10
def c23_12 : XC := fun _ => .region [] [xo 12 (.mv (xt 0)),
 xo 13 (.bin .rem (xt 12) (xi 10)),
 xo 5 (.mv (xt 13))] [0,3,4,5]
def c23_13 : XC := fun _ => .region [] [xo 14 (.mv (xt 5)),
 xo 15 (.bin .lss (xt 14) (xi 0))] [0,3,4,5,15]
def c23_14 : XC := fun _ => .region [] [xo 16 (.mv (xt 5)),
 xo 17 (.neg (xt 16)),
 xo 5 (.mv (xt 17))] [0,3,4,5]
def c23_15 : XC := fun _ => .cond (xt 15) c23_14 (fun _ => .skip)
def c23_16 : XC := fun _ => .seq c23_13 c23_15
def c23_17 : XC := fun _ => .region [] [xo 18 (.mv (xt 5)),
 xo 19 (.bin .add (xi 48) (xt 18)),
 xo 20 (.conv .u8 (xt 19)),
 xo 21 (.bsl 1 1 [.int .u8 0] [(0, (xt 20))]),
 xo 22 (.cst (xt 21)),
 xo 23 (.mv (xt 3)),
 xo 24 (.bin .add (xt 22) (xt 23)),
 xo 3 (.mv (xt 24))] [0,3,4]
def c23_18 : XC := fun _ => .region [] [xo 25 (.mv (xt 0)),
 xo 26 (.bin .quo (xt 25) (xi 10)),
 xo 0 (.mv (xt 26))] [0,3,4]
def c23_19 : XC := fun _ => .seq c23_17 c23_18
def c23_20 : XC := fun _ => .seq c23_16 c23_19
def c23_21 : XC := fun _ => .seq c23_12 c23_20
def c23_22 : XC := fun _ => .block 1 c23_21
def c23_23 : XC := fun _ => .seq c23_11 c23_22
def c23_24 : XC := fun _ => .loop c23_23
def c23_25 : XC := fun _ => .block 0 c23_24
def c23_26 : XC := fun _ => .region [] [xo 27 (.mv (xt 4))] [3,27]
def c23_27 : XC := fun _ => .region [] [xo 28 (.mv (xt 3)),
 xo 29 (.bin .add (.const (.string ⟨#[45]⟩)) (xt 28)),
 xo 2 (.mv (xt 29))] [2]
def c23_28 : XC := fun _ => .seq c23_27 (fun _ => .ret)
def c23_29 : XC := fun _ => .cond (xt 27) c23_28 (fun _ => .skip)
def c23_30 : XC := fun _ => .seq c23_26 c23_29
def c23_31 : XC := fun _ => .region [] [xo 30 (.mv (xt 3)),
 xo 2 (.mv (xt 30))] [2]
def c23_32 : XC := fun _ => .seq c23_31 (fun _ => .ret)
def c23_33 : XC := fun _ => .seq c23_30 c23_32
def c23_34 : XC := fun _ => .seq c23_25 c23_33
def c23_35 : XC := fun _ => .seq c23_8 c23_34
def c23_36 : XC := fun _ => .seq c23_7 c23_35
def c23_37 : XC := fun _ => .seq c23_6 c23_36
def c23_38 : XC := fun _ => .seq c23_1 c23_37
def m_spec_FormatInt : MCode := c23_38 ()
def h_spec_FormatInt : Hints := [(0, [0], [], [], []), (1, [0,7], [], [], []), (2, [2], [], [], []), (3, [0,3], [], [], []), (4, [0,3,4], [], [], []), (5, [0,3,4,11], [], [], []), (6, [0,3,4,5], [], [], []), (7, [0,3,4,5,15], [], [], []), (8, [0,3,4,5], [], [], []), (9, [0,3,4], [], [], []), (10, [0,3,4], [], [], []), (11, [3,27], [], [], []), (12, [2], [], [], []), (13, [2], [], [], [])]
def r_spec_FormatInt : List RV := [.t 2]
abbrev n_spec_FormatInt : Nat := 23
theorem k_spec_FormatInt : Known Pr mu n_spec_FormatInt m_spec_FormatInt r_spec_FormatInt Go.Proofs.Tryz.f23.ntmps := .of h_spec_FormatInt hm Go.Proofs.Tryz.func23
def c25_1 : XC := fun _ => .region [] [xo 2 (.mv (.const (.string ⟨#[]⟩)))] [0]
def c25_2 : XC := fun _ => .region [] [xo 7 (.mv (xt 0)),
 xo 8 (.call 37 [(xt 7)]),
 xo 9 (.not (xt 8)),
 xo 6 (.mv (xt 9))] [0,6]
def c25_3 : XC := fun _ => .region [] [xo 2 (.mv (.const (.string ⟨#[]⟩)))] [2]
def c25_4 : XC := fun _ => .seq c25_3 (fun _ => .ret)
def c25_5 : XC := fun _ => .region [] [xo 11 (.mv (xt 0)),
 xo 12 (.len false (xt 11)),
 xo 13 (.bin .eql (xt 12) (xi 0)),
 xo 10 (.mv (xt 13))] [0,10]
def c25_6 : XC := fun _ => .region [] [xo 2 (.mv (.const (.string ⟨#[110, 111, 110, 101]⟩)))] [2]
def c25_7 : XC := fun _ => .seq c25_6 (fun _ => .ret)
def c25_8 : XC := fun _ => .cond (xt 10) c25_7 (fun _ => .skip)
def c25_9 : XC := fun _ => .seq c25_5 c25_8
def c25_10 : XC := fun _ => .cond (xt 6) c25_4 c25_9
def c25_11 : XC := fun _ => .seq c25_2 c25_10
def c25_12 : XC := fun _ => .block 0 c25_11
def c25_13 : XC := fun _ => .region [] [xo 3 (.mv (.const (.string ⟨#[]⟩)))] [0,3]
def c25_14 : XC := fun _ => .region [] [xo 14 (.mv (xt 0)),
 xo 15 (.len false (xt 14)),
 xo 16 (.mv (xi 0))] [3,14,15,16]
def c25_15 : XC := fun _ => .region [] [xo 17 (.bin .lss (xt 16) (xt 15))] [3,14,15,16,17]
def c25_16 : XC := fun _ => .cond (xt 17) (fun _ => .skip) (fun _ => .exit 1)
def c25_17 : XC := fun _ => .region [] [xo 18 (.ia (xt 14) (xt 16) 1),
 xo 19 (.ld (xt 18) 1 false),
 xo 5 (.mv (xt 19))] [3,5,14,15,16]
def c25_18 : XC := fun _ => .region [] [xo 20 (.mv (xt 3)),
 xo 21 (.mv (xt 5)),
 xo 22 (.call 29 [(xt 21)]),
 xo 23 (.bin .add (xt 20) (xt 22)),
 xo 3 (.mv (xt 23))] [3,14,15,16]
def c25_19 : XC := fun _ => .seq c25_17 c25_18
def c25_20 : XC := fun _ => .block 2 c25_19
def c25_21 : XC := fun _ => .region [] [xo 24 (.bin .add (xt 16) (xi 1)),
 xo 16 (.mv (xt 24))] [3,14,15,16]
def c25_22 : XC := fun _ => .seq c25_20 c25_21
def c25_23 : XC := fun _ => .seq c25_16 c25_22
def c25_24 : XC := fun _ => .seq c25_15 c25_23
def c25_25 : XC := fun _ => .loop c25_24
def c25_26 : XC := fun _ => .block 1 c25_25
def c25_27 : XC := fun _ => .seq c25_14 c25_26
def c25_28 : XC := fun _ => .region [] [xo 25 (.mv (xt 3)),
 xo 2 (.mv (xt 25))] [2]
def c25_29 : XC := fun _ => .seq c25_28 (fun _ => .ret)
def c25_30 : XC := fun _ => .seq c25_27 c25_29
def c25_31 : XC := fun _ => .seq c25_13 c25_30
def c25_32 : XC := fun _ => .seq c25_12 c25_31
def c25_33 : XC := fun _ => .seq c25_1 c25_32
def m_impl_FormatServers : MCode := c25_33 ()
def h_impl_FormatServers : Hints := [(0, [0], [], [], []), (1, [0,6], [], [], []), (2, [2], [], [], []), (3, [0,10], [], [], []), (4, [2], [], [], []), (5, [0,3], [], [], []), (6, [3,14,15,16], [], [], []), (7, [3,14,15,16,17], [], [], []), (8, [3,5,14,15,16], [], [], []), (9, [3,14,15,16], [], [], []), (10, [3,14,15,16], [], [], []), (11, [2], [], [], [])]
def r_impl_FormatServers : List RV := [.t 2]
abbrev n_impl_FormatServers : Nat := 25
theorem k_impl_FormatServers : Known Pr mu n_impl_FormatServers m_impl_FormatServers r_impl_FormatServers Go.Proofs.Tryz.f25.ntmps := .of h_impl_FormatServers hm Go.Proofs.Tryz.func25
def c26_1 : XC := fun _ => .region [] [xo 2 (.mv (xi 0)),
 xo 3 (.mv (xb false))] [0]
def c26_2 : XC := fun _ => .region [] [xo 8 (.mv (xt 0)),
 xo 4 (.mv (xt 8)),
 xo 5 (.mv (xi 1))] [0,4,5]
def c26_3 : XC := fun _ => .region [] [xo 9 (.mv (xt 0)),
 xo 10 (.len true (xt 9)),
 xo 11 (.bin .gtr (xt 10) (xi 0)),
 xo 12 (.mv (xt 11)),
 ⟨(some 13), .mv (xt 0), (some (12, true)), []⟩,
 ⟨(some 14), .sidx (xt 13) (xi 0), (some (12, true)), []⟩,
 ⟨(some 15), .bin .eql (xt 14) (.const (.int .u8 45)), (some (12, true)), []⟩,
 xo 16 (.pick (xt 12) (xt 15) (xb false))] [0,4,5,16]
def c26_4 : XC := fun _ => .region [] [xo 17 (.mv (xt 0)),
 xo 18 (.slc true (xt 17) (some (xi 1)) none none 0),
 xo 4 (.mv (xt 18)),
 xo 5 (.mv (xi (-1)))] [0,4,5]
def c26_5 : XC := fun _ => .cond (xt 16) c26_4 (fun _ => .skip)
def c26_6 : XC := fun _ => .seq c26_3 c26_5
def c26_7 : XC := fun _ => .region [] [xo 19 (.mv (xt 4)),
 xo 20 (.len true (xt 19)),
 xo 21 (.call 38 [(xt 20), (xi 1), (xi 9)]),
 xo 22 (.not (xt 21))] [0,4,5,22]
def c26_8 : XC := fun _ => .region [] [xo 2 (.mv (xi 0)),
 xo 3 (.mv (xb false))] [2,3]
def c26_9 : XC := fun _ => .seq c26_8 (fun _ => .ret)
def c26_10 : XC := fun _ => .cond (xt 22) c26_9 (fun _ => .skip)
def c26_11 : XC := fun _ => .seq c26_7 c26_10
def c26_12 : XC := fun _ => .region [] [xo 6 (.mv (xi 0))] [0,4,5,6]
def c26_13 : XC := fun _ => .region [] [xo 23 (.mv (xt 4)),
 xo 24 (.len true (xt 23)),
 xo 25 (.mv (xi 0))] [0,4,5,6,24,25]
def c26_14 : XC := fun _ => .region [] [xo 26 (.bin .lss (xt 25) (xt 24))] [0,4,5,6,24,25,26]
def c26_15 : XC := fun _ => .cond (xt 26) (fun _ => .skip) (fun _ => .exit 0)
def c26_16 : XC := fun _ => .region [] [xo 27 (.mv (xt 25)),
 xo 7 (.mv (xt 27))] [0,4,5,6,7,24,25]
def c26_17 : XC := fun _ => .region [] [xo 28 (.mv (xt 4)),
 xo 29 (.mv (xt 7)),
 xo 30 (.sidx (xt 28) (xt 29)),
 xo 31 (.bin .lss (xt 30) (.const (.int .u8 48))),
 xo 32 (.mv (xt 31)),
 ⟨(some 33), .mv (xt 4), (some (32, false)), []⟩,
 ⟨(some 34), .mv (xt 7), (some (32, false)), []⟩,
 ⟨(some 35), .sidx (xt 33) (xt 34), (some (32, false)), []⟩,
 ⟨(some 36), .bin .gtr (xt 35) (.const (.int .u8 57)), (some (32, false)), []⟩,
 xo 37 (.pick (xt 32) (xb true) (xt 36))] [0,4,5,6,7,24,25,37]
def c26_18 : XC := fun _ => .region [] [xo 2 (.mv (xi 0)),
 xo 3 (.mv (xb false))] [2,3]
def c26_19 : XC := fun _ => .seq c26_18 (fun _ => .ret)
def c26_20 : XC := fun _ => .cond (xt 37) c26_19 (fun _ => .skip)
def c26_21 : XC := fun _ => .seq c26_17 c26_20
def c26_22 : XC := fun _ => .region [] [xo 38 (.mv (xt 6)),
 xo 39 (.bin .mul (xi 10) (xt 38)),
 xo 40 (.mv (xt 4)),
 xo 41 (.mv (xt 7)),
 xo 42 (.sidx (xt 40) (xt 41)),
 xo 43 (.bin .sub (xt 42) (.const (.int .u8 48))),
 xo 44 (.conv .i64 (xt 43)),
 xo 45 (.bin .add (xt 39) (xt 44)),
 xo 6 (.mv (xt 45))] [0,4,5,6,24,25]
def c26_23 : XC := fun _ => .seq c26_21 c26_22
def c26_24 : XC := fun _ => .seq c26_16 c26_23
def c26_25 : XC := fun _ => .block 1 c26_24
def c26_26 : XC := fun _ => .region [] [xo 46 (.bin .add (xt 25) (xi 1)),
 xo 25 (.mv (xt 46))] [0,4,5,6,24,25]
def c26_27 : XC := fun _ => .seq c26_25 c26_26
def c26_28 : XC := fun _ => .seq c26_15 c26_27
def c26_29 : XC := fun _ => .seq c26_14 c26_28
def c26_30 : XC := fun _ => .loop c26_29
def c26_31 : XC := fun _ => .block 0 c26_30
def c26_32 : XC := fun _ => .seq c26_13 c26_31
def c26_33 : XC := fun _ => .region [] [xo 47 (.mv (xt 5)),
 xo 48 (.mv (xt 6)),
 xo 49 (.bin .mul (xt 47) (xt 48)),
 xo 50 (.call 29 [(xt 49)]),
 xo 51 (.mv (xt 0)),
 xo 52 (.bin .neq (xt 50) (xt 51))] [5,6,52]
def c26_34 : XC := fun _ => .region [] [xo 2 (.mv (xi 0)),
 xo 3 (.mv (xb false))] [2,3]
def c26_35 : XC := fun _ => .seq c26_34 (fun _ => .ret)
def c26_36 : XC := fun _ => .cond (xt 52) c26_35 (fun _ => .skip)
def c26_37 : XC := fun _ => .seq c26_33 c26_36
def c26_38 : XC := fun _ => .region [] [xo 53 (.mv (xt 5)),
 xo 54 (.mv (xt 6)),
 xo 55 (.bin .mul (xt 53) (xt 54)),
 xo 2 (.mv (xt 55)),
 xo 3 (.mv (xb true))] [2,3]
def c26_39 : XC := fun _ => .seq c26_38 (fun _ => .ret)
def c26_40 : XC := fun _ => .seq c26_37 c26_39
def c26_41 : XC := fun _ => .seq c26_32 c26_40
def c26_42 : XC := fun _ => .seq c26_12 c26_41
def c26_43 : XC := fun _ => .seq c26_11 c26_42
def c26_44 : XC := fun _ => .seq c26_6 c26_43
def c26_45 : XC := fun _ => .seq c26_2 c26_44
def c26_46 : XC := fun _ => .seq c26_1 c26_45
def m_impl_ParseInt : MCode := c26_46 ()
def h_impl_ParseInt : Hints := [(0, [0], [], [], []), (1, [0,4,5], [], [], []), (2, [0,4,5,16], [], [], []), (3, [0,4,5], [], [], []), (4, [0,4,5,22], [], [], []), (5, [2,3], [], [], []), (6, [0,4,5,6], [], [], []), (7, [0,4,5,6,24,25], [], [], []), (8, [0,4,5,6,24,25,26], [], [], []), (9, [0,4,5,6,7,24,25], [], [], []), (10, [0,4,5,6,7,24,25,37], [], [], []), (11, [2,3], [], [], []), (12, [0,4,5,6,24,25], [], [], []), (13, [0,4,5,6,24,25], [], [], []), (14, [5,6,52], [], [], []), (15, [2,3], [], [], []), (16, [2,3], [], [], [])]
def r_impl_ParseInt : List RV := [.t 2, .t 3]
abbrev n_impl_ParseInt : Nat := 26
theorem k_impl_ParseInt : Known Pr mu n_impl_ParseInt m_impl_ParseInt r_impl_ParseInt Go.Proofs.Tryz.f26.ntmps := .of h_impl_ParseInt hm Go.Proofs.Tryz.func26
def c27_1 : XC := fun _ => .region [] [xo 1 (.box (xt 0)),
 xo 2 (.mv (xb false))] [1]
def c27_2 : XC := fun _ => .region [] [xo 3 (.fa (xt 1) 0),
 xo 4 (.ld (xt 3) 1 false),
 xo 5 (.call 38 [(xt 4), (xi 1), (xi 20)]),
 xo 6 (.mv (xt 5)),
 ⟨(some 7), .fa (xt 1) 2, (some (6, true)), []⟩,
 ⟨(some 8), .ld (xt 7) 1 false, (some (6, true)), []⟩,
 ⟨(some 9), .call 37 [(xt 8)], (some (6, true)), []⟩,
 xo 10 (.pick (xt 6) (xt 9) (xb false)),
 xo 11 (.mv (xt 10)),
 ⟨(some 12), .fa (xt 1) 3, (some (11, true)), []⟩,
 ⟨(some 13), .ld (xt 12) 1 false, (some (11, true)), []⟩,
 ⟨(some 14), .call 37 [(xt 13)], (some (11, true)), []⟩,
 xo 15 (.pick (xt 11) (xt 14) (xb false)),
 xo 16 (.mv (xt 15)),
 ⟨(some 17), .fa (xt 1) 2, (some (16, true)), []⟩,
 ⟨(some 18), .ld (xt 17) 1 false, (some (16, true)), []⟩,
 ⟨(some 19), .fa (xt 1) 1, (some (16, true)), []⟩,
 ⟨(some 20), .ld (xt 19) 1 false, (some (16, true)), []⟩,
 ⟨(some 21), .call 39 [(xt 18), (xt 20)], (some (16, true)), []⟩,
 xo 22 (.pick (xt 16) (xt 21) (xb false)),
 xo 23 (.mv (xt 22)),
 ⟨(some 24), .fa (xt 1) 2, (some (23, true)), []⟩,
 ⟨(some 25), .ld (xt 24) 1 false, (some (23, true)), []⟩,
 ⟨(some 26), .fa (xt 1) 3, (some (23, true)), []⟩,
 ⟨(some 27), .ld (xt 26) 1 false, (some (23, true)), []⟩,
 ⟨(some 28), .call 40 [(xt 25), (xt 27)], (some (23, true)), []⟩,
 ⟨(some 29), .len false (xt 28), (some (23, true)), []⟩,
 ⟨(some 30), .bin .eql (xt 29) (xi 0), (some (23, true)), []⟩,
 xo 31 (.pick (xt 23) (xt 30) (xb false)),
 xo 2 (.mv (xt 31))] [2]
def c27_3 : XC := fun _ => .seq c27_2 (fun _ => .ret)
def c27_4 : XC := fun _ => .seq c27_1 c27_3
def m_impl_IsValidConfig : MCode := c27_4 ()
def h_impl_IsValidConfig : Hints := [(0, [1], [], [], []), (1, [2], [], [], [])]
def r_impl_IsValidConfig : List RV := [.t 2]
abbrev n_impl_IsValidConfig : Nat := 27
theorem k_impl_IsValidConfig : Known Pr mu n_impl_IsValidConfig m_impl_IsValidConfig r_impl_IsValidConfig Go.Proofs.Tryz.f27.ntmps := .of h_impl_IsValidConfig hm Go.Proofs.Tryz.func27
def c29_1 : XC := fun _ => .region [] [xo 2 (.mv (.const (.string ⟨#[]⟩)))] [0]
def c29_2 : XC := fun _ => .region [] [xo 3 (.mv (xt 0)),
 xo 4 (.call 44 [(xt 3)]),
 xo 2 (.mv (xt 4))] [2]
def c29_3 : XC := fun _ => .seq c29_2 (fun _ => .ret)
def c29_4 : XC := fun _ => .seq c29_1 c29_3
def m_impl_FormatInt : MCode := c29_4 ()
def h_impl_FormatInt : Hints := [(0, [0], [], [], []), (1, [2], [], [], [])]
def r_impl_FormatInt : List RV := [.t 2]
abbrev n_impl_FormatInt : Nat := 29
theorem k_impl_FormatInt : Known Pr mu n_impl_FormatInt m_impl_FormatInt r_impl_FormatInt Go.Proofs.Tryz.f29.ntmps := .of h_impl_FormatInt hm Go.Proofs.Tryz.func29
def c30_1 : XC := fun _ => .region [] [xo 2 (.mv (xb false))] [0]
def c30_2 : XC := fun _ => .region [] [xo 3 (.mv (xi 0))] [0,3]
def c30_3 : XC := fun _ => .region [] [xo 4 (.mv (xt 3)),
 xo 5 (.mv (xt 0)),
 xo 6 (.len false (xt 5)),
 xo 7 (.bin .lss (xt 4) (xt 6))] [0,3,7]
def c30_4 : XC := fun _ => .cond (xt 7) (fun _ => .skip) (fun _ => .exit 0)
def c30_5 : XC := fun _ => .seq c30_3 c30_4
def c30_6 : XC := fun _ => .region [] [xo 10 (.mv (xt 0)),
 xo 11 (.mv (xt 3)),
 xo 12 (.ia (xt 10) (xt 11) 1),
 xo 13 (.ld (xt 12) 1 false),
 xo 14 (.call 31 [(xt 13), (xi 0), (xi 4)]),
 xo 15 (.not (xt 14)),
 xo 16 (.mv (xt 15)),
 ⟨(some 17), .mv (xt 3), (some (16, false)), []⟩,
 ⟨(some 18), .bin .gtr (xt 17) (xi 0), (some (16, false)), []⟩,
 ⟨(some 19), .mv (xt 18), (some (16, false)), []⟩,
 ⟨(some 20), .mv (xt 0), (some (19, true)), []⟩,
 ⟨(some 21), .mv (xt 3), (some (19, true)), []⟩,
 ⟨(some 22), .bin .sub (xt 21) (xi 1), (some (19, true)), []⟩,
 ⟨(some 23), .ia (xt 20) (xt 22) 1, (some (19, true)), []⟩,
 ⟨(some 24), .ld (xt 23) 1 false, (some (19, true)), []⟩,
 ⟨(some 25), .mv (xt 0), (some (19, true)), []⟩,
 ⟨(some 26), .mv (xt 3), (some (19, true)), []⟩,
 ⟨(some 27), .ia (xt 25) (xt 26) 1, (some (19, true)), [10, 11, 12, 13, 14]⟩,
 ⟨(some 28), .ld (xt 27) 1 false, (some (19, true)), [10, 11, 12, 13, 14]⟩,
 ⟨(some 29), .bin .geq (xt 24) (xt 28), (some (19, true)), []⟩,
 ⟨(some 30), .pick (xt 19) (xt 29) (xb false), (some (16, false)), []⟩,
 xo 31 (.pick (xt 16) (xb true) (xt 30))] [0,3,31]
def c30_7 : XC := fun _ => .region [] [xo 2 (.mv (xb false))] [2]
def c30_8 : XC := fun _ => .seq c30_7 (fun _ => .ret)
def c30_9 : XC := fun _ => .cond (xt 31) c30_8 (fun _ => .skip)
def c30_10 : XC := fun _ => .seq c30_6 c30_9
def c30_11 : XC := fun _ => .block 1 c30_10
def c30_12 : XC := fun _ => .region [] [xo 8 (.mv (xt 3)),
 xo 9 (.bin .add (xt 8) (xi 1)),
 xo 3 (.mv (xt 9))] [0,3]
def c30_13 : XC := fun _ => .seq c30_11 c30_12
def c30_14 : XC := fun _ => .seq c30_5 c30_13
def c30_15 : XC := fun _ => .loop c30_14
def c30_16 : XC := fun _ => .block 0 c30_15
def c30_17 : XC := fun _ => .seq c30_2 c30_16
def c30_18 : XC := fun _ => .region [] [xo 2 (.mv (xb true))] [2]
def c30_19 : XC := fun _ => .seq c30_18 (fun _ => .ret)
def c30_20 : XC := fun _ => .seq c30_17 c30_19
def c30_21 : XC := fun _ => .seq c30_1 c30_20
def m_spec_AreServers : MCode := c30_21 ()
def h_spec_AreServers : Hints := [(0, [0], [], [], []), (1, [0,3], [], [], []), (2, [0,3,7], [], [], []), (4, [0,3,31], [[],[],[],[],[],[],[],[],[],[],[],[],[],[],[],[],[],[10,11,12,13,14],[10,11,12,13,14]], [], []), (5, [2], [], [], []), (3, [0,3], [], [], []), (6, [2], [], [], [])]
def r_spec_AreServers : List RV := [.t 2]
abbrev n_spec_AreServers : Nat := 30
theorem k_spec_AreServers : Known Pr mu n_spec_AreServers m_spec_AreServers r_spec_AreServers Go.Proofs.Tryz.f30.ntmps := .of h_spec_AreServers hm Go.Proofs.Tryz.func30
def c31_1 : XC := fun _ => .region [] [xo 6 (.mv (xb false))] [0,1,2]
def c31_2 : XC := fun _ => .region [] [xo 7 (.mv (xt 0)),
 xo 8 (.mv (xt 1)),
 xo 9 (.bin .geq (xt 7) (xt 8)),
 xo 10 (.mv (xt 9)),
 ⟨(some 11), .mv (xt 0), (some (10, true)), []⟩,
 ⟨(some 12), .mv (xt 2), (some (10, true)), []⟩,
 ⟨(some 13), .bin .leq (xt 11) (xt 12), (some (10, true)), []⟩,
 xo 14 (.pick (xt 10) (xt 13) (xb false)),
 xo 6 (.mv (xt 14))] [6]
def c31_3 : XC := fun _ => .seq c31_2 (fun _ => .ret)
def c31_4 : XC := fun _ => .seq c31_1 c31_3
def m_spec_l1In : MCode := c31_4 ()
def h_spec_l1In : Hints := [(0, [0,1,2], [], [], []), (1, [6], [], [], [])]
def r_spec_l1In : List RV := [.t 6]
abbrev n_spec_l1In : Nat := 31
theorem k_spec_l1In : Known Pr mu n_spec_l1In m_spec_l1In r_spec_l1In Go.Proofs.Tryz.f31.ntmps := .of h_spec_l1In hm Go.Proofs.Tryz.func31
def c32_1 : XC := fun _ => .region [] [xo 4 (.mv (xb false))] [0,1]
def c32_2 : XC := fun _ => .region [] [xo 5 (.mv (xi 0))] [0,1,5]
def c32_3 : XC := fun _ => .region [] [xo 6 (.mv (xt 5)),
 xo 7 (.mv (xt 0)),
 xo 8 (.len false (xt 7)),
 xo 9 (.bin .lss (xt 6) (xt 8))] [0,1,5,9]
def c32_4 : XC := fun _ => .cond (xt 9) (fun _ => .skip) (fun _ => .exit 0)
def c32_5 : XC := fun _ => .seq c32_3 c32_4
def c32_6 : XC := fun _ => .region [] [xo 12 (.mv (xt 0)),
 xo 13 (.mv (xt 5)),
 xo 14 (.ia (xt 12) (xt 13) 1),
 xo 15 (.ld (xt 14) 1 false),
 xo 16 (.mv (xt 1)),
 xo 17 (.bin .eql (xt 15) (xt 16))] [0,1,5,17]
def c32_7 : XC := fun _ => .region [] [xo 4 (.mv (xb true))] [4]
def c32_8 : XC := fun _ => .seq c32_7 (fun _ => .ret)
def c32_9 : XC := fun _ => .cond (xt 17) c32_8 (fun _ => .skip)
def c32_10 : XC := fun _ => .seq c32_6 c32_9
def c32_11 : XC := fun _ => .block 1 c32_10
def c32_12 : XC := fun _ => .region [] [xo 10 (.mv (xt 5)),
 xo 11 (.bin .add (xt 10) (xi 1)),
 xo 5 (.mv (xt 11))] [0,1,5]
def c32_13 : XC := fun _ => .seq c32_11 c32_12
def c32_14 : XC := fun _ => .seq c32_5 c32_13
def c32_15 : XC := fun _ => .loop c32_14
def c32_16 : XC := fun _ => .block 0 c32_15
def c32_17 : XC := fun _ => .seq c32_2 c32_16
def c32_18 : XC := fun _ => .region [] [xo 4 (.mv (xb false))] [4]
def c32_19 : XC := fun _ => .seq c32_18 (fun _ => .ret)
def c32_20 : XC := fun _ => .seq c32_17 c32_19
def c32_21 : XC := fun _ => .seq c32_1 c32_20
def m_spec_HasServer : MCode := c32_21 ()
def h_spec_HasServer : Hints := [(0, [0,1], [], [], []), (1, [0,1,5], [], [], []), (2, [0,1,5,9], [], [], []), (4, [0,1,5,17], [], [], []), (5, [4], [], [], []), (3, [0,1,5], [], [], []), (6, [4], [], [], [])]
def r_spec_HasServer : List RV := [.t 4]
abbrev n_spec_HasServer : Nat := 32
theorem k_spec_HasServer : Known Pr mu n_spec_HasServer m_spec_HasServer r_spec_HasServer Go.Proofs.Tryz.f32.ntmps := .of h_spec_HasServer hm Go.Proofs.Tryz.func32
def c33_1 : XC := fun _ => .region [] [xo 4 (.mv (.const (.slice none 0 0)))] [0,1]
def c33_2 : XC := fun _ => .region [] [xo 7 (.bsl 1 0 [.int .i64 0] []),
 xo 5 (.mv (xt 7))] [0,1,5]
def c33_3 : XC := fun _ => .region [] [xo 6 (.mv (xi 0))] [0,1,5,6]
def c33_4 : XC := fun _ => .region [] [xo 8 (.mv (xt 6)),
 xo 9 (.mv (xt 0)),
 xo 10 (.len false (xt 9)),
 xo 11 (.bin .lss (xt 8) (xt 10))] [0,1,5,6,11]
def c33_5 : XC := fun _ => .cond (xt 11) (fun _ => .skip) (fun _ => .exit 0)
def c33_6 : XC := fun _ => .seq c33_4 c33_5
def c33_7 : XC := fun _ => .region [] [xo 14 (.mv (xt 1)),
 xo 15 (.mv (xt 0)),
 xo 16 (.mv (xt 6)),
 xo 17 (.ia (xt 15) (xt 16) 1),
 xo 18 (.ld (xt 17) 1 false),
 xo 19 (.call 32 [(xt 14), (xt 18)])] [0,1,5,6,19]
def c33_8 : XC := fun _ => .region [] [xo 20 (.mv (xt 5)),
 xo 21 (.mv (xt 0)),
 xo 22 (.mv (xt 6)),
 xo 23 (.ia (xt 21) (xt 22) 1),
 xo 24 (.ld (xt 23) 1 false),
 xo 25 (.call 45 [(xt 20), (xt 24)]),
 xo 5 (.mv (xt 25))] [0,1,5,6]
def c33_9 : XC := fun _ => .cond (xt 19) c33_8 (fun _ => .skip)
def c33_10 : XC := fun _ => .seq c33_7 c33_9
def c33_11 : XC := fun _ => .block 1 c33_10
def c33_12 : XC := fun _ => .region [] [xo 12 (.mv (xt 6)),
 xo 13 (.bin .add (xt 12) (xi 1)),
 xo 6 (.mv (xt 13))] [0,1,5,6]
def c33_13 : XC := fun _ => .seq c33_11 c33_12
def c33_14 : XC := fun _ => .seq c33_6 c33_13
def c33_15 : XC := fun _ => .loop c33_14
def c33_16 : XC := fun _ => .block 0 c33_15
def c33_17 : XC := fun _ => .seq c33_3 c33_16
def c33_18 : XC := fun _ => .region [] [xo 26 (.mv (xt 5)),
 xo 4 (.mv (xt 26))] [4]
def c33_19 : XC := fun _ => .seq c33_18 (fun _ => .ret)
def c33_20 : XC := fun _ => .seq c33_17 c33_19
def c33_21 : XC := fun _ => .seq c33_2 c33_20
def c33_22 : XC := fun _ => .seq c33_1 c33_21
def m_spec_CommonServers : MCode := c33_22 ()
def h_spec_CommonServers : Hints := [(0, [0,1], [], [], []), (1, [0,1,5], [], [], []), (2, [0,1,5,6], [], [], []), (3, [0,1,5,6,11], [], [], []), (5, [0,1,5,6,19], [], [], []), (6, [0,1,5,6], [], [], []), (4, [0,1,5,6], [], [], []), (7, [4], [], [], [])]
def r_spec_CommonServers : List RV := [.t 4]
abbrev n_spec_CommonServers : Nat := 33
theorem k_spec_CommonServers : Known Pr mu n_spec_CommonServers m_spec_CommonServers r_spec_CommonServers Go.Proofs.Tryz.f33.ntmps := .of h_spec_CommonServers hm Go.Proofs.Tryz.func33
def c37_1 : XC := fun _ => .region [] [xo 2 (.mv (xb false))] [0]
def c37_2 : XC := fun _ => .region [] [xo 5 (.mv (xt 0)),
 xo 6 (.len false (xt 5)),
 xo 7 (.mv (xi 0))] [0,5,6,7]
def c37_3 : XC := fun _ => .region [] [xo 8 (.bin .lss (xt 7) (xt 6))] [0,5,6,7,8]
def c37_4 : XC := fun _ => .cond (xt 8) (fun _ => .skip) (fun _ => .exit 0)
def c37_5 : XC := fun _ => .region [] [xo 9 (.mv (xt 7)),
 xo 10 (.ia (xt 5) (xt 7) 1),
 xo 11 (.ld (xt 10) 1 false),
 xo 3 (.mv (xt 9)),
 xo 4 (.mv (xt 11))] [0,3,4,5,6,7]
def c37_6 : XC := fun _ => .region [] [xo 12 (.mv (xt 4)),
 xo 13 (.call 38 [(xt 12), (xi 0), (xi 4)]),
 xo 14 (.not (xt 13)),
 xo 15 (.mv (xt 14)),
 ⟨(some 16), .mv (xt 3), (some (15, false)), []⟩,
 ⟨(some 17), .bin .gtr (xt 16) (xi 0), (some (15, false)), []⟩,
 ⟨(some 18), .mv (xt 17), (some (15, false)), []⟩,
 ⟨(some 19), .mv (xt 4), (some (18, true)), []⟩,
 ⟨(some 20), .mv (xt 0), (some (18, true)), []⟩,
 ⟨(some 21), .mv (xt 3), (some (18, true)), []⟩,
 ⟨(some 22), .bin .sub (xt 21) (xi 1), (some (18, true)), []⟩,
 ⟨(some 23), .ia (xt 20) (xt 22) 1, (some (18, true)), []⟩,
 ⟨(some 24), .ld (xt 23) 1 false, (some (18, true)), []⟩,
 ⟨(some 25), .bin .leq (xt 19) (xt 24), (some (18, true)), []⟩,
 ⟨(some 26), .pick (xt 18) (xt 25) (xb false), (some (15, false)), []⟩,
 xo 27 (.pick (xt 15) (xb true) (xt 26))] [0,5,6,7,27]
def c37_7 : XC := fun _ => .region [] [xo 2 (.mv (xb false))] [2]
def c37_8 : XC := fun _ => .seq c37_7 (fun _ => .ret)
def c37_9 : XC := fun _ => .cond (xt 27) c37_8 (fun _ => .skip)
def c37_10 : XC := fun _ => .seq c37_6 c37_9
def c37_11 : XC := fun _ => .seq c37_5 c37_10
def c37_12 : XC := fun _ => .block 1 c37_11
def c37_13 : XC := fun _ => .region [] [xo 28 (.bin .add (xt 7) (xi 1)),
 xo 7 (.mv (xt 28))] [0,5,6,7]
def c37_14 : XC := fun _ => .seq c37_12 c37_13
def c37_15 : XC := fun _ => .seq c37_4 c37_14
def c37_16 : XC := fun _ => .seq c37_3 c37_15
def c37_17 : XC := fun _ => .loop c37_16
def c37_18 : XC := fun _ => .block 0 c37_17
def c37_19 : XC := fun _ => .seq c37_2 c37_18
def c37_20 : XC := fun _ => .region [] [xo 2 (.mv (xb true))] [2]
def c37_21 : XC := fun _ => .seq c37_20 (fun _ => .ret)
def c37_22 : XC := fun _ => .seq c37_19 c37_21
def c37_23 : XC := fun _ => .seq c37_1 c37_22
def m_impl_AreServers : MCode := c37_23 ()
def h_impl_AreServers : Hints := [(0, [0], [], [], []), (1, [0,5,6,7], [], [], []), (2, [0,5,6,7,8], [], [], []), (3, [0,3,4,5,6,7], [], [], []), (4, [0,5,6,7,27], [], [], []), (5, [2], [], [], []), (6, [0,5,6,7], [], [], []), (7, [2], [], [], [])]
def r_impl_AreServers : List RV := [.t 2]
abbrev n_impl_AreServers : Nat := 37
theorem k_impl_AreServers : Known Pr mu n_impl_AreServers m_impl_AreServers r_impl_AreServers Go.Proofs.Tryz.f37.ntmps := .of h_impl_AreServers hm Go.Proofs.Tryz.func37
def c38_1 : XC := fun _ => .region [] [xo 6 (.mv (xb false))] [0,1,2]
def c38_2 : XC := fun _ => .region [] [xo 7 (.mv (xt 1)),
 xo 8 (.mv (xt 0)),
 xo 9 (.bin .leq (xt 7) (xt 8)),
 xo 10 (.mv (xt 9)),
 ⟨(some 11), .mv (xt 0), (some (10, true)), []⟩,
 ⟨(some 12), .mv (xt 2), (some (10, true)), []⟩,
 ⟨(some 13), .bin .leq (xt 11) (xt 12), (some (10, true)), []⟩,
 xo 14 (.pick (xt 10) (xt 13) (xb false)),
 xo 6 (.mv (xt 14))] [6]
def c38_3 : XC := fun _ => .seq c38_2 (fun _ => .ret)
def c38_4 : XC := fun _ => .seq c38_1 c38_3
def m_impl_within : MCode := c38_4 ()
def h_impl_within : Hints := [(0, [0,1,2], [], [], []), (1, [6], [], [], [])]
def r_impl_within : List RV := [.t 6]
abbrev n_impl_within : Nat := 38
theorem k_impl_within : Known Pr mu n_impl_within m_impl_within r_impl_within Go.Proofs.Tryz.f38.ntmps := .of h_impl_within hm Go.Proofs.Tryz.func38
def c39_1 : XC := fun _ => .region [] [xo 4 (.mv (xb false))] [0,1]
def c39_2 : XC := fun _ => .region [] [xo 5 (.mv (xt 0)),
 xo 6 (.mv (xt 1)),
 xo 7 (.call 50 [(xt 5), (xt 6)]),
 xo 4 (.mv (xt 7))] [4]
def c39_3 : XC := fun _ => .seq c39_2 (fun _ => .ret)
def c39_4 : XC := fun _ => .seq c39_1 c39_3
def m_impl_HasServer : MCode := c39_4 ()
def h_impl_HasServer : Hints := [(0, [0,1], [], [], []), (1, [4], [], [], [])]
def r_impl_HasServer : List RV := [.t 4]
abbrev n_impl_HasServer : Nat := 39
theorem k_impl_HasServer : Known Pr mu n_impl_HasServer m_impl_HasServer r_impl_HasServer Go.Proofs.Tryz.f39.ntmps := .of h_impl_HasServer hm Go.Proofs.Tryz.func39
def c40_1 : XC := fun _ => .region [] [xo 4 (.mv (.const (.slice none 0 0)))] [0,1]
def c40_2 : XC := fun _ => .region [] [xo 5 (.mv (xt 0)),
 xo 6 (.mv (xt 0)),
 xo 7 (.mv (xt 1)),
 xo 8 (.call 51 [(xt 6), (xt 7)]),
 xo 9 (.call 51 [(xt 5), (xt 8)]),
 xo 4 (.mv (xt 9))] [4]
def c40_3 : XC := fun _ => .seq c40_2 (fun _ => .ret)
def c40_4 : XC := fun _ => .seq c40_1 c40_3
def m_impl_CommonServers : MCode := c40_4 ()
def h_impl_CommonServers : Hints := [(0, [0,1], [], [], []), (1, [4], [], [], [])]
def r_impl_CommonServers : List RV := [.t 4]
abbrev n_impl_CommonServers : Nat := 40
theorem k_impl_CommonServers : Known Pr mu n_impl_CommonServers m_impl_CommonServers r_impl_CommonServers Go.Proofs.Tryz.f40.ntmps := .of h_impl_CommonServers hm Go.Proofs.Tryz.func40
def c44_1 : XC := fun _ => .region [] [xo 2 (.mv (.const (.string ⟨#[]⟩)))] [0]
def c44_2 : XC := fun _ => .region [] [xo 3 (.mv (xt 0)),
 xo 4 (.call 54 [(xt 3)]),
 xo 2 (.mv (xt 4))] [2]
def c44_3 : XC := fun _ => .seq c44_2 (fun _ => .ret)
def c44_4 : XC := fun _ => .seq c44_1 c44_3
def m_strconv_Itoa : MCode := c44_4 ()
def h_strconv_Itoa : Hints := [(0, [0], [], [], []), (1, [2], [], [], [])]
def r_strconv_Itoa : List RV := [.t 2]
abbrev n_strconv_Itoa : Nat := 44
theorem k_strconv_Itoa : Known Pr mu n_strconv_Itoa m_strconv_Itoa r_strconv_Itoa Go.Proofs.Tryz.f44.ntmps := .of h_strconv_Itoa hm Go.Proofs.Tryz.func44
def c45_1 : XC := fun _ => .region [] [xo 4 (.mv (.const (.slice none 0 0)))] [0,1]
def c45_2 : XC := fun _ => .region [] [xo 5 (.mv (xi 0))] [0,1,5]
def c45_3 : XC := fun _ => .region [] [xo 6 (.mv (xt 5)),
 xo 7 (.mv (xt 0)),
 xo 8 (.len false (xt 7)),
 xo 9 (.bin .lss (xt 6) (xt 8)),
 xo 10 (.mv (xt 9)),
 ⟨(some 11), .mv (xt 0), (some (10, true)), []⟩,
 ⟨(some 12), .mv (xt 5), (some (10, true)), []⟩,
 ⟨(some 13), .ia (xt 11) (xt 12) 1, (some (10, true)), []⟩,
 ⟨(some 14), .ld (xt 13) 1 false, (some (10, true)), []⟩,
 ⟨(some 15), .mv (xt 1), (some (10, true)), []⟩,
 ⟨(some 16), .bin .lss (xt 14) (xt 15), (some (10, true)), []⟩,
 xo 17 (.pick (xt 10) (xt 16) (xb false))] [0,1,5,17]
def c45_4 : XC := fun _ => .cond (xt 17) (fun _ => .skip) (fun _ => .exit 0)
def c45_5 : XC := fun _ => .seq c45_3 c45_4
def c45_6 : XC := fun _ => .region [] [xo 18 (.mv (xt 5)),
 xo 19 (.bin .add (xt 18) (xi 1)),
 xo 5 (.mv (xt 19))] [0,1,5]
def c45_7 : XC := fun _ => .block 1 c45_6
def c45_8 : XC := fun _ => .seq c45_5 c45_7
def c45_9 : XC := fun _ => .loop c45_8
def c45_10 : XC := fun _ => .block 0 c45_9
def c45_11 : XC := fun _ => .region [] [xo 20 (.mv (xt 5)),
 xo 21 (.mv (xt 0)),
 xo 22 (.len false (xt 21)),
 xo 23 (.bin .lss (xt 20) (xt 22)),
 xo 24 (.mv (xt 23)),
 ⟨(some 25), .mv (xt 0), (some (24, true)), []⟩,
 ⟨(some 26), .mv (xt 5), (some (24, true)), []⟩,
 ⟨(some 27), .ia (xt 25) (xt 26) 1, (some (24, true)), []⟩,
 ⟨(some 28), .ld (xt 27) 1 false, (some (24, true)), []⟩,
 ⟨(some 29), .mv (xt 1), (some (24, true)), []⟩,
 ⟨(some 30), .bin .eql (xt 28) (xt 29), (some (24, true)), []⟩,
 xo 31 (.pick (xt 24) (xt 30) (xb false))] [0,1,5,31]
def c45_12 : XC := fun _ => .region [] [xo 32 (.bsl 1 0 [.int .i64 0] []),
 xo 33 (.mv (xt 0)),
 xo 34 (.app (xt 32) (xt 33) 1 8),
 xo 4 (.mv (xt 34))] [4]
def c45_13 : XC := fun _ => .seq c45_12 (fun _ => .ret)
def c45_14 : XC := fun _ => .cond (xt 31) c45_13 (fun _ => .skip)
def c45_15 : XC := fun _ => .seq c45_11 c45_14
def c45_16 : XC := fun _ => .region [xo 43 (.mv (xt 0)), xo 44 (.mv (xt 5)), xo 45 (.slf (xt 43) (some (xt 44)) none 1)] [xo 35 (.bsl 1 0 [.int .i64 0] []),
 xo 36 (.mv (xt 0)),
 xo 37 (.mv (xt 5)),
 ⟨(some 38), .slc false (xt 36) none (some (xt 37)) none 1, none, [0]⟩,
 ⟨(some 39), .appn (xt 35) (xt 38) 1 8, none, [1000000]⟩,
 xo 40 (.mv (xt 1)),
 xo 41 (.bsl 1 1 [.int .i64 0] [(0, (xt 40))]),
 xo 42 (.app (xt 39) (xt 41) 1 8),
 ⟨(some 43), .mv (xt 43), none, []⟩,
 ⟨(some 44), .mv (xt 44), none, []⟩,
 ⟨(some 45), .mv (xt 45), none, []⟩,
 xo 46 (.app (xt 42) (xt 45) 1 8),
 xo 4 (.mv (xt 46))] [4]
def c45_17 : XC := fun _ => .seq c45_16 (fun _ => .ret)
def c45_18 : XC := fun _ => .seq c45_15 c45_17
def c45_19 : XC := fun _ => .seq c45_10 c45_18
def c45_20 : XC := fun _ => .seq c45_2 c45_19
def c45_21 : XC := fun _ => .seq c45_1 c45_20
def m_spec_l2Put : MCode := c45_21 ()
def h_spec_l2Put : Hints := [(0, [0,1], [], [], []), (1, [0,1,5], [], [], []), (2, [0,1,5,17], [], [], []), (3, [0,1,5], [], [], []), (4, [0,1,5,31], [], [], []), (5, [4], [], [], []), (6, [4], [[],[],[],[0],[1000000]], [8,9,10], [])]
def r_spec_l2Put : List RV := [.t 4]
abbrev n_spec_l2Put : Nat := 45
theorem k_spec_l2Put : Known Pr mu n_spec_l2Put m_spec_l2Put r_spec_l2Put Go.Proofs.Tryz.f45.ntmps := .of h_spec_l2Put hm Go.Proofs.Tryz.func45
def c50_1 : XC := fun _ => .region [] [xo 4 (.mv (xb false))] [0,1]
def c50_2 : XC := fun _ => .region [] [xo 5 (.mv (xt 0)),
 xo 6 (.mv (xt 1)),
 xo 7 (.call 60 [(xt 5), (xt 6)]),
 xo 8 (.bin .geq (xt 7) (xi 0)),
 xo 4 (.mv (xt 8))] [4]
def c50_3 : XC := fun _ => .seq c50_2 (fun _ => .ret)
def c50_4 : XC := fun _ => .seq c50_1 c50_3
def m_slices_Contains_intint : MCode := c50_4 ()
def h_slices_Contains_intint : Hints := [(0, [0,1], [], [], []), (1, [4], [], [], [])]
def r_slices_Contains_intint : List RV := [.t 4]
abbrev n_slices_Contains_intint : Nat := 50
theorem k_slices_Contains_intint : Known Pr mu n_slices_Contains_intint m_slices_Contains_intint r_slices_Contains_intint Go.Proofs.Tryz.f50.ntmps := .of h_slices_Contains_intint hm Go.Proofs.Tryz.func50
def c51_1 : XC := fun _ => .region [] [xo 3 (.box (xt 1)),
 xo 4 (.mv (.const (.slice none 0 0)))] [0,3]
def c51_2 : XC := fun _ => .region [] [xo 5 (.mv (xt 0)),
 xo 6 (.call 62 [(xt 5)]),
 xo 7 (.mkf 63 [(xt 3)]),
 xo 8 (.callm 61 [(xt 6), (xt 7)]),
 xo 4 (.mv (xt 8))] [4]
def c51_3 : XC := fun _ => .seq c51_2 (fun _ => .ret)
def c51_4 : XC := fun _ => .seq c51_1 c51_3
def m_impl_WithoutServers : MCode := c51_4 ()
def h_impl_WithoutServers : Hints := [(0, [0,3], [], [], []), (1, [4], [], [], [])]
def r_impl_WithoutServers : List RV := [.t 4]
abbrev n_impl_WithoutServers : Nat := 51
theorem k_impl_WithoutServers : Known Pr mu n_impl_WithoutServers m_impl_WithoutServers r_impl_WithoutServers Go.Proofs.Tryz.f51.ntmps := .of h_impl_WithoutServers hm Go.Proofs.Tryz.func51
def c54_1 : XC := fun _ => .region [] [xo 2 (.mv (.const (.string ⟨#[]⟩)))] [0]
def c54_2 : XC := fun _ => .region [] [xo 3 (.mv (xt 0)),
 xo 4 (.call 66 [(xt 3), (xi 10)]),
 xo 2 (.mv (xt 4))] [2]
def c54_3 : XC := fun _ => .seq c54_2 (fun _ => .ret)
def c54_4 : XC := fun _ => .seq c54_1 c54_3
def m_internal_strconv_Itoa : MCode := c54_4 ()
def h_internal_strconv_Itoa : Hints := [(0, [0], [], [], []), (1, [2], [], [], [])]
def r_internal_strconv_Itoa : List RV := [.t 2]
abbrev n_internal_strconv_Itoa : Nat := 54
theorem k_internal_strconv_Itoa : Known Pr mu n_internal_strconv_Itoa m_internal_strconv_Itoa r_internal_strconv_Itoa Go.Proofs.Tryz.f54.ntmps := .of h_internal_strconv_Itoa hm Go.Proofs.Tryz.func54
def c60_1 : XC := fun _ => .region [] [xo 4 (.mv (xi 0))] [0,1]
def c60_2 : XC := fun _ => .region [] [xo 6 (.mv (xt 0)),
 xo 7 (.len false (xt 6)),
 xo 8 (.mv (xi 0))] [0,1,7,8]
def c60_3 : XC := fun _ => .region [] [xo 9 (.bin .lss (xt 8) (xt 7))] [0,1,7,8,9]
def c60_4 : XC := fun _ => .cond (xt 9) (fun _ => .skip) (fun _ => .exit 0)
def c60_5 : XC := fun _ => .region [] [xo 10 (.mv (xt 8)),
 xo 5 (.mv (xt 10))] [0,1,5,7,8]
def c60_6 : XC := fun _ => .region [] [xo 11 (.mv (xt 1)),
 xo 12 (.mv (xt 0)),
 xo 13 (.mv (xt 5)),
 xo 14 (.ia (xt 12) (xt 13) 1),
 xo 15 (.ld (xt 14) 1 false),
 xo 16 (.bin .eql (xt 11) (xt 15))] [0,1,5,7,8,16]
def c60_7 : XC := fun _ => .region [] [xo 17 (.mv (xt 5)),
 xo 4 (.mv (xt 17))] [4]
def c60_8 : XC := fun _ => .seq c60_7 (fun _ => .ret)
def c60_9 : XC := fun _ => .cond (xt 16) c60_8 (fun _ => .skip)
def c60_10 : XC := fun _ => .seq c60_6 c60_9
def c60_11 : XC := fun _ => .seq c60_5 c60_10
def c60_12 : XC := fun _ => .block 1 c60_11
def c60_13 : XC := fun _ => .region [] [xo 18 (.bin .add (xt 8) (xi 1)),
 xo 8 (.mv (xt 18))] [0,1,7,8]
def c60_14 : XC := fun _ => .seq c60_12 c60_13
def c60_15 : XC := fun _ => .seq c60_4 c60_14
def c60_16 : XC := fun _ => .seq c60_3 c60_15
def c60_17 : XC := fun _ => .loop c60_16
def c60_18 : XC := fun _ => .block 0 c60_17
def c60_19 : XC := fun _ => .seq c60_2 c60_18
def c60_20 : XC := fun _ => .region [] [xo 4 (.mv (xi (-1)))] [4]
def c60_21 : XC := fun _ => .seq c60_20 (fun _ => .ret)
def c60_22 : XC := fun _ => .seq c60_19 c60_21
def c60_23 : XC := fun _ => .seq c60_1 c60_22
def m_slices_Index_intint : MCode := c60_23 ()
def h_slices_Index_intint : Hints := [(0, [0,1], [], [], []), (1, [0,1,7,8], [], [], []), (2, [0,1,7,8,9], [], [], []), (3, [0,1,5,7,8], [], [], []), (4, [0,1,5,7,8,16], [], [], []), (5, [4], [], [], []), (6, [0,1,7,8], [], [], []), (7, [4], [], [], [])]
def r_slices_Index_intint : List RV := [.t 4]
abbrev n_slices_Index_intint : Nat := 60
theorem k_slices_Index_intint : Known Pr mu n_slices_Index_intint m_slices_Index_intint r_slices_Index_intint Go.Proofs.Tryz.f60.ntmps := .of h_slices_Index_intint hm Go.Proofs.Tryz.func60
def c61_1 : XC := fun _ => .region [] [xo 4 (.mv (.const (.slice none 0 0)))] [0,1]
def c61_2 : XC := fun _ => .region [] [xo 8 (.mv (xt 0)),
 xo 9 (.mv (xt 1)),
 xo 10 (.call 69 [(xt 8), (xt 9)]),
 xo 5 (.mv (xt 10))] [0,1,5]
def c61_3 : XC := fun _ => .region [] [xo 11 (.mv (xt 5)),
 xo 12 (.bin .eql (xt 11) (xi (-1)))] [0,1,5,12]
def c61_4 : XC := fun _ => .region [] [xo 13 (.mv (xt 0)),
 xo 4 (.mv (xt 13))] [4]
def c61_5 : XC := fun _ => .seq c61_4 (fun _ => .ret)
def c61_6 : XC := fun _ => .cond (xt 12) c61_5 (fun _ => .skip)
def c61_7 : XC := fun _ => .seq c61_3 c61_6
def c61_8 : XC := fun _ => .region [] [xo 14 (.mv (xt 5)),
 xo 15 (.bin .add (xt 14) (xi 1)),
 xo 6 (.mv (xt 15))] [0,1,5,6]
def c61_9 : XC := fun _ => .region [] [xo 16 (.mv (xt 6)),
 xo 17 (.mv (xt 0)),
 xo 18 (.len false (xt 17)),
 xo 19 (.bin .lss (xt 16) (xt 18))] [0,1,5,6,19]
def c61_10 : XC := fun _ => .cond (xt 19) (fun _ => .skip) (fun _ => .exit 0)
def c61_11 : XC := fun _ => .seq c61_9 c61_10
def c61_12 : XC := fun _ => .region [] [xo 22 (.mv (xt 0)),
 xo 23 (.mv (xt 6)),
 xo 24 (.ia (xt 22) (xt 23) 1),
 xo 25 (.ld (xt 24) 1 false),
 xo 7 (.mv (xt 25))] [0,1,5,6,7]
def c61_13 : XC := fun _ => .region [] [xo 26 (.mv (xt 1)),
 xo 27 (.mv (xt 7)),
 xo 28 (.callv (xt 26) [(xt 27)]),
 xo 29 (.not (xt 28))] [0,1,5,6,7,29]
def c61_14 : XC := fun _ => .region [] [xo 30 (.mv (xt 0)),
 xo 31 (.mv (xt 5)),
 xo 32 (.mv (xt 7)),
 xo 33 (.ia (xt 30) (xt 31) 1),
 xn (.sto (xt 33) (xt 32) 1)] [0,1,5,6]
def c61_15 : XC := fun _ => .region [] [xo 34 (.mv (xt 5)),
 xo 35 (.bin .add (xt 34) (xi 1)),
 xo 5 (.mv (xt 35))] [0,1,5,6]
def c61_16 : XC := fun _ => .seq c61_14 c61_15
def c61_17 : XC := fun _ => .cond (xt 29) c61_16 (fun _ => .skip)
def c61_18 : XC := fun _ => .seq c61_13 c61_17
def c61_19 : XC := fun _ => .seq c61_12 c61_18
def c61_20 : XC := fun _ => .block 1 c61_19
def c61_21 : XC := fun _ => .region [] [xo 20 (.mv (xt 6)),
 xo 21 (.bin .add (xt 20) (xi 1)),
 xo 6 (.mv (xt 21))] [0,1,5,6]
def c61_22 : XC := fun _ => .seq c61_20 c61_21
def c61_23 : XC := fun _ => .seq c61_11 c61_22
def c61_24 : XC := fun _ => .loop c61_23
def c61_25 : XC := fun _ => .block 0 c61_24
def c61_26 : XC := fun _ => .seq c61_8 c61_25
def c61_27 : XC := fun _ => .region [] [xo 36 (.mv (xt 0)),
 xo 37 (.mv (xt 5)),
 xo 38 (.slc false (xt 36) (some (xt 37)) none none 1),
 xn (.clr (xt 38) 1 [.int .i64 0])] [0,5]
def c61_28 : XC := fun _ => .region [] [xo 39 (.mv (xt 0)),
 xo 40 (.mv (xt 5)),
 xo 41 (.slc false (xt 39) none (some (xt 40)) none 1),
 xo 4 (.mv (xt 41))] [4]
def c61_29 : XC := fun _ => .seq c61_28 (fun _ => .ret)
def c61_30 : XC := fun _ => .seq c61_27 c61_29
def c61_31 : XC := fun _ => .seq c61_26 c61_30
def c61_32 : XC := fun _ => .seq c61_7 c61_31
def c61_33 : XC := fun _ => .seq c61_2 c61_32
def c61_34 : XC := fun _ => .seq c61_1 c61_33
def m_slices_DeleteFunc_intint : MCode := c61_34 ()
def h_slices_DeleteFunc_intint : Hints := [(0, [0,1], [], [], []), (1, [0,1,5], [], [], []), (2, [0,1,5,12], [], [], []), (3, [4], [], [], []), (4, [0,1,5,6], [], [], []), (5, [0,1,5,6,19], [], [], []), (7, [0,1,5,6,7], [], [], []), (8, [0,1,5,6,7,29], [], [], []), (9, [0,1,5,6], [], [], []), (10, [0,1,5,6], [], [], []), (6, [0,1,5,6], [], [], []), (11, [0,5], [], [], []), (12, [4], [], [], [])]
def r_slices_DeleteFunc_intint : List RV := [.t 4]
abbrev n_slices_DeleteFunc_intint : Nat := 61
theorem k_slices_DeleteFunc_intint : Known Pr mu n_slices_DeleteFunc_intint m_slices_DeleteFunc_intint r_slices_DeleteFunc_intint Go.Proofs.Tryz.f61.ntmps := .of h_slices_DeleteFunc_intint hm Go.Proofs.Tryz.func61
def c62_1 : XC := fun _ => .region [] [xo 2 (.mv (.const (.slice none 0 0)))] [0]
def c62_2 : XC := fun _ => .region [] [xo 4 (.mv (xt 0)),
 xo 5 (.call 70 [(xt 4)]),
 xo 3 (.mv (xt 5))] [3]
def c62_3 : XC := fun _ => .region [] [xo 6 (.mv (xt 3)),
 xo 7 (.callm 71 [(xt 6)])] [3]
def c62_4 : XC := fun _ => .region [] [xo 8 (.mv (xt 3)),
 xo 9 (.callm 72 [(xt 8)]),
 xo 2 (.mv (xt 9))] [2]
def c62_5 : XC := fun _ => .seq c62_4 (fun _ => .ret)
def c62_6 : XC := fun _ => .seq c62_3 c62_5
def c62_7 : XC := fun _ => .seq c62_2 c62_6
def c62_8 : XC := fun _ => .seq c62_1 c62_7
def m_impl_ascending : MCode := c62_8 ()
def h_impl_ascending : Hints := [(0, [0], [], [], []), (1, [3], [], [], []), (2, [3], [], [], []), (3, [2], [], [], [])]
def r_impl_ascending : List RV := [.t 2]
abbrev n_impl_ascending : Nat := 62
theorem k_impl_ascending : Known Pr mu n_impl_ascending m_impl_ascending r_impl_ascending Go.Proofs.Tryz.f62.ntmps := .of h_impl_ascending hm Go.Proofs.Tryz.func62
def c63_1 : XC := fun _ => .region [] [xo 3 (.mv (xb false))] [0,1]
def c63_2 : XC := fun _ => .region [] [xo 4 (.ld (xt 1) 1 false),
 xo 5 (.mv (xt 0)),
 xo 6 (.call 39 [(xt 4), (xt 5)]),
 xo 3 (.mv (xt 6))] [3]
def c63_3 : XC := fun _ => .seq c63_2 (fun _ => .ret)
def c63_4 : XC := fun _ => .seq c63_1 c63_3
def m_impl_WithoutServers_c1 : MCode := c63_4 ()
def h_impl_WithoutServers_c1 : Hints := [(0, [0,1], [], [], []), (1, [3], [], [], [])]
def r_impl_WithoutServers_c1 : List RV := [.t 3]
abbrev n_impl_WithoutServers_c1 : Nat := 63
theorem k_impl_WithoutServers_c1 : Known Pr mu n_impl_WithoutServers_c1 m_impl_WithoutServers_c1 r_impl_WithoutServers_c1 Go.Proofs.Tryz.f63.ntmps := .of h_impl_WithoutServers_c1 hm Go.Proofs.Tryz.func63
def c66_1 : XC := fun _ => .region [] [xo 4 (.mv (.const (.string ⟨#[]⟩)))] [0,1]
def c66_2 : XC := fun _ => .region [] [xo 10 (.mv (xt 1)),
 xo 11 (.bin .eql (xt 10) (xi 10))] [0,1,11]
def c66_3 : XC := fun _ => .region [] [xo 12 (.mv (xt 0)),
 xo 13 (.bin .leq (xi 0) (xt 12)),
 xo 14 (.mv (xt 13)),
 ⟨(some 15), .mv (xt 0), (some (14, true)), []⟩,
 ⟨(some 16), .bin .lss (xt 15) (xi 100), (some (14, true)), []⟩,
 xo 17 (.pick (xt 14) (xt 16) (xb false))] [0,17]
def c66_4 : XC := fun _ => .region [] [xo 18 (.mv (xt 0)),
 xo 19 (.call 73 [(xt 18)]),
 xo 4 (.mv (xt 19))] [4]
def c66_5 : XC := fun _ => .seq c66_4 (fun _ => .ret)
def c66_6 : XC := fun _ => .cond (xt 17) c66_5 (fun _ => .skip)
def c66_7 : XC := fun _ => .seq c66_3 c66_6
def c66_8 : XC := fun _ => .region [] [xo 5 (.alloc [.int .u8 0, .int .u8 0, .int .u8 0, .int .u8 0, .int .u8 0, .int .u8 0, .int .u8 0, .int .u8 0, .int .u8 0, .int .u8 0, .int .u8 0, .int .u8 0, .int .u8 0, .int .u8 0, .int .u8 0, .int .u8 0, .int .u8 0, .int .u8 0, .int .u8 0, .int .u8 0, .int .u8 0, .int .u8 0, .int .u8 0, .int .u8 0])] [0,5]
def c66_9 : XC := fun _ => .region [] [xo 20 (.mv (xt 0)),
 xo 21 (.conv .u64 (xt 20)),
 xo 6 (.mv (xt 21))] [0,5,6]
def c66_10 : XC := fun _ => .region [] [xo 22 (.mv (xt 0)),
 xo 23 (.bin .lss (xt 22) (xi 0))] [0,5,6,23]
def c66_11 : XC := fun _ => .region [] [xo 24 (.mv (xt 6)),
 xo 25 (.neg (xt 24)),
 xo 6 (.mv (xt 25))] [0,5,6]
def c66_12 : XC := fun _ => .cond (xt 23) c66_11 (fun _ => .skip)
def c66_13 : XC := fun _ => .seq c66_10 c66_12
def c66_14 : XC := fun _ => .region [] [xo 26 (.mv (xt 6)),
 xo 27 (.call 74 [(xt 26)]),
 xo 7 (.mv (xt 27))] [0,5,6,7]
def c66_15 : XC := fun _ => .region [] [xo 28 (.mv (xt 7)),
 xo 29 (.bin .add (xi 1) (xt 28)),
 xo 30 (.no),
 xo 31 (.mv (xt 6)),
 xo 32 (.call 75 [(xt 30), (xt 31)])] [0,5,7]
def c66_16 : XC := fun _ => .region [] [xo 33 (.mv (xt 0)),
 xo 34 (.bin .lss (xt 33) (xi 0))] [5,7,34]
def c66_17 : XC := fun _ => .region [] [xo 35 (.iaa (xt 5) (xi 0) 24 1),
 xn (.sto (xt 35) (.const (.int .u8 45)) 1)] [5,7]
def c66_18 : XC := fun _ => .region [] [xo 36 (.mv (xt 7)),
 xo 37 (.bin .add (xi 1) (xt 36)),
 xo 38 (.no),
 xo 39 (.cst (xt 38)),
 xo 4 (.mv (xt 39))] [4]
def c66_19 : XC := fun _ => .seq c66_18 (fun _ => .ret)
def c66_20 : XC := fun _ => .seq c66_17 c66_19
def c66_21 : XC := fun _ => .cond (xt 34) c66_20 (fun _ => .skip)
def c66_22 : XC := fun _ => .seq c66_16 c66_21
def c66_23 : XC := fun _ => .region [] [xo 40 (.mv (xt 7)),
 xo 41 (.bin .add (xi 1) (xt 40)),
 xo 42 (.no),
 xo 43 (.cst (xt 42)),
 xo 4 (.mv (xt 43))] [4]
def c66_24 : XC := fun _ => .seq c66_23 (fun _ => .ret)
def c66_25 : XC := fun _ => .seq c66_22 c66_24
def c66_26 : XC := fun _ => .seq c66_15 c66_25
def c66_27 : XC := fun _ => .seq c66_14 c66_26
def c66_28 : XC := fun _ => .seq c66_13 c66_27
def c66_29 : XC := fun _ => .seq c66_9 c66_28
def c66_30 : XC := fun _ => .seq c66_8 c66_29
def c66_31 : XC := fun _ => .seq c66_7 c66_30
def c66_32 : XC := fun _ => .cond (xt 11) c66_31 (fun _ => .skip)
def c66_33 : XC := fun _ => .seq c66_2 c66_32
def c66_34 : XC := fun _ => .region [] [xo 45 (.mv (xt 0)),
 xo 46 (.conv .u64 (xt 45)),
 xo 47 (.mv (xt 1)),
 xo 48 (.mv (xt 0)),
 xo 49 (.bin .lss (xt 48) (xi 0)),
 xo 50 (.call 76 [(.const (.slice none 0 0)), (xt 46), (xt 47), (xt 49), (xb false)]),
 xo 44 (.mv (xt 50)),
 xo 51 (.ext (xt 44) 0),
 xo 52 (.ext (xt 44) 1),
 xo 8 (.mv (xt 51)),
 xo 9 (.mv (xt 52))] [9]
def c66_35 : XC := fun _ => .region [] [xo 53 (.mv (xt 9)),
 xo 4 (.mv (xt 53))] [4]
def c66_36 : XC := fun _ => .seq c66_35 (fun _ => .ret)
def c66_37 : XC := fun _ => .seq c66_34 c66_36
def c66_38 : XC := fun _ => .seq c66_33 c66_37
def c66_39 : XC := fun _ => .seq c66_1 c66_38
def m_internal_strconv_FormatInt : MCode := c66_39 ()
def h_internal_strconv_FormatInt : Hints := [(0, [0,1], [], [], []), (1, [0,1,11], [], [], []), (2, [0,17], [], [], []), (3, [4], [], [], []), (4, [0,5], [], [], []), (5, [0,5,6], [], [], []), (6, [0,5,6,23], [], [], []), (7, [0,5,6], [], [], []), (8, [0,5,6,7], [], [], []), (9, [0,5,7], [], [], []), (10, [5,7,34], [], [], []), (11, [5,7], [], [], []), (12, [4], [], [], []), (13, [4], [], [], []), (14, [9], [], [], []), (15, [4], [], [], [])]
def r_internal_strconv_FormatInt : List RV := [.t 4]
abbrev n_internal_strconv_FormatInt : Nat := 66
theorem k_internal_strconv_FormatInt : Known Pr mu n_internal_strconv_FormatInt m_internal_strconv_FormatInt r_internal_strconv_FormatInt Go.Proofs.Tryz.f66.ntmps := .of h_internal_strconv_FormatInt hm Go.Proofs.Tryz.func66
def c69_1 : XC := fun _ => .region [] [xo 4 (.mv (xi 0))] [0,1]
def c69_2 : XC := fun _ => .region [] [xo 6 (.mv (xt 0)),
 xo 7 (.len false (xt 6)),
 xo 8 (.mv (xi 0))] [0,1,7,8]
def c69_3 : XC := fun _ => .region [] [xo 9 (.bin .lss (xt 8) (xt 7))] [0,1,7,8,9]
def c69_4 : XC := fun _ => .cond (xt 9) (fun _ => .skip) (fun _ => .exit 0)
def c69_5 : XC := fun _ => .region [] [xo 10 (.mv (xt 8)),
 xo 5 (.mv (xt 10))] [0,1,5,7,8]
def c69_6 : XC := fun _ => .region [] [xo 11 (.mv (xt 1)),
 xo 12 (.mv (xt 0)),
 xo 13 (.mv (xt 5)),
 xo 14 (.ia (xt 12) (xt 13) 1),
 xo 15 (.ld (xt 14) 1 false),
 xo 16 (.callv (xt 11) [(xt 15)])] [0,1,5,7,8,16]
def c69_7 : XC := fun _ => .region [] [xo 17 (.mv (xt 5)),
 xo 4 (.mv (xt 17))] [4]
def c69_8 : XC := fun _ => .seq c69_7 (fun _ => .ret)
def c69_9 : XC := fun _ => .cond (xt 16) c69_8 (fun _ => .skip)
def c69_10 : XC := fun _ => .seq c69_6 c69_9
def c69_11 : XC := fun _ => .seq c69_5 c69_10
def c69_12 : XC := fun _ => .block 1 c69_11
def c69_13 : XC := fun _ => .region [] [xo 18 (.bin .add (xt 8) (xi 1)),
 xo 8 (.mv (xt 18))] [0,1,7,8]
def c69_14 : XC := fun _ => .seq c69_12 c69_13
def c69_15 : XC := fun _ => .seq c69_4 c69_14
def c69_16 : XC := fun _ => .seq c69_3 c69_15
def c69_17 : XC := fun _ => .loop c69_16
def c69_18 : XC := fun _ => .block 0 c69_17
def c69_19 : XC := fun _ => .seq c69_2 c69_18
def c69_20 : XC := fun _ => .region [] [xo 4 (.mv (xi (-1)))] [4]
def c69_21 : XC := fun _ => .seq c69_20 (fun _ => .ret)
def c69_22 : XC := fun _ => .seq c69_19 c69_21
def c69_23 : XC := fun _ => .seq c69_1 c69_22
def m_slices_IndexFunc_intint : MCode := c69_23 ()
def h_slices_IndexFunc_intint : Hints := [(0, [0,1], [], [], []), (1, [0,1,7,8], [], [], []), (2, [0,1,7,8,9], [], [], []), (3, [0,1,5,7,8], [], [], []), (4, [0,1,5,7,8,16], [], [], []), (5, [4], [], [], []), (6, [0,1,7,8], [], [], []), (7, [4], [], [], [])]
def r_slices_IndexFunc_intint : List RV := [.t 4]
abbrev n_slices_IndexFunc_intint : Nat := 69
theorem k_slices_IndexFunc_intint : Known Pr mu n_slices_IndexFunc_intint m_slices_IndexFunc_intint r_slices_IndexFunc_intint Go.Proofs.Tryz.f69.ntmps := .of h_slices_IndexFunc_intint hm Go.Proofs.Tryz.func69
def c70_1 : XC := fun _ => .region [] [xo 2 (.mv (.const (.slice none 0 0)))] [0]
def c70_2 : XC := fun _ => .region [] [xo 3 (.mv (xt 0)),
 xo 4 (.nbin .eql (xt 3) (.const (.slice none 0 0)))] [0,4]
def c70_3 : XC := fun _ => .region [] [xo 2 (.mv (.const (.slice none 0 0)))] [2]
def c70_4 : XC := fun _ => .seq c70_3 (fun _ => .ret)
def c70_5 : XC := fun _ => .cond (xt 4) c70_4 (fun _ => .skip)
def c70_6 : XC := fun _ => .seq c70_2 c70_5
def c70_7 : XC := fun _ => .region [] [xo 5 (.bsl 1 0 [.int .i64 0] []),
 xo 6 (.mv (xt 0)),
 xo 7 (.app (xt 5) (xt 6) 1 8),
 xo 2 (.mv (xt 7))] [2]
def c70_8 : XC := fun _ => .seq c70_7 (fun _ => .ret)
def c70_9 : XC := fun _ => .seq c70_6 c70_8
def c70_10 : XC := fun _ => .seq c70_1 c70_9
def m_slices_Clone_intint : MCode := c70_10 ()
def h_slices_Clone_intint : Hints := [(0, [0], [], [], []), (1, [0,4], [], [], []), (2, [2], [], [], []), (3, [2], [], [], [])]
def r_slices_Clone_intint : List RV := [.t 2]
abbrev n_slices_Clone_intint : Nat := 70
theorem k_slices_Clone_intint : Known Pr mu n_slices_Clone_intint m_slices_Clone_intint r_slices_Clone_intint Go.Proofs.Tryz.f70.ntmps := .of h_slices_Clone_intint hm Go.Proofs.Tryz.func70
def c71_1 : XC := fun _ => .region [] [xo 3 (.mv (xt 0)),
 xo 4 (.len false (xt 3)),
 xo 2 (.mv (xt 4))] [0,2]
def c71_2 : XC := fun _ => .region [] [xo 5 (.mv (xt 0)),
 xo 6 (.mv (xt 2)),
 xo 7 (.mv (xt 2)),
 xo 8 (.conv .u64 (xt 7)),
 xo 9 (.call 78 [(xt 8)]),
 xo 10 (.callm 77 [(xt 5), (xi 0), (xt 6), (xt 9)])] []
def c71_3 : XC := fun _ => .seq c71_1 c71_2
def m_slices_Sort_intint : MCode := c71_3 ()
def h_slices_Sort_intint : Hints := [(0, [0,2], [], [], []), (1, [], [], [], [])]
def r_slices_Sort_intint : List RV := []
abbrev n_slices_Sort_intint : Nat := 71
theorem k_slices_Sort_intint : Known Pr mu n_slices_Sort_intint m_slices_Sort_intint r_slices_Sort_intint Go.Proofs.Tryz.f71.ntmps := .of h_slices_Sort_intint hm Go.Proofs.Tryz.func71
def c72_1 : XC := fun _ => .region [] [xo 2 (.mv (.const (.slice none 0 0)))] [0]
def c72_2 : XC := fun _ => .region [] [xo 6 (.mv (xt 0)),
 xo 7 (.len false (xt 6)),
 xo 8 (.bin .lss (xt 7) (xi 2))] [0,8]
def c72_3 : XC := fun _ => .region [] [xo 9 (.mv (xt 0)),
 xo 2 (.mv (xt 9))] [2]
def c72_4 : XC := fun _ => .seq c72_3 (fun _ => .ret)
def c72_5 : XC := fun _ => .cond (xt 8) c72_4 (fun _ => .skip)
def c72_6 : XC := fun _ => .seq c72_2 c72_5
def c72_7 : XC := fun _ => .region [] [xo 3 (.mv (xi 1))] [0,3]
def c72_8 : XC := fun _ => .region [] [xo 10 (.mv (xt 3)),
 xo 11 (.mv (xt 0)),
 xo 12 (.len false (xt 11)),
 xo 13 (.bin .lss (xt 10) (xt 12))] [0,3,13]
def c72_9 : XC := fun _ => .cond (xt 13) (fun _ => .skip) (fun _ => .exit 0)
def c72_10 : XC := fun _ => .seq c72_8 c72_9
def c72_11 : XC := fun _ => .region [] [xo 16 (.mv (xt 0)),
 xo 17 (.mv (xt 3)),
 xo 18 (.ia (xt 16) (xt 17) 1),
 xo 19 (.ld (xt 18) 1 false),
 xo 20 (.mv (xt 0)),
 xo 21 (.mv (xt 3)),
 xo 22 (.bin .sub (xt 21) (xi 1)),
 ⟨(some 23), .ia (xt 20) (xt 22) 1, none, [0, 1, 2, 3]⟩,
 ⟨(some 24), .ld (xt 23) 1 false, none, [0, 1, 2, 3]⟩,
 xo 25 (.bin .eql (xt 19) (xt 24))] [0,3,25]
def c72_12 : XC := fun _ => .region [] [xo 26 (.mv (xt 0)),
 xo 27 (.mv (xt 3)),
 xo 28 (.slc false (xt 26) (some (xt 27)) none none 1),
 xo 4 (.mv (xt 28))] [0,3,4]
def c72_13 : XC := fun _ => .region [] [xo 5 (.mv (xi 1))] [0,3,4,5]
def c72_14 : XC := fun _ => .region [] [xo 29 (.mv (xt 5)),
 xo 30 (.mv (xt 4)),
 xo 31 (.len false (xt 30)),
 xo 32 (.bin .lss (xt 29) (xt 31))] [0,3,4,5,32]
def c72_15 : XC := fun _ => .cond (xt 32) (fun _ => .skip) (fun _ => .exit 2)
def c72_16 : XC := fun _ => .seq c72_14 c72_15
def c72_17 : XC := fun _ => .region [] [xo 35 (.mv (xt 4)),
 xo 36 (.mv (xt 5)),
 xo 37 (.ia (xt 35) (xt 36) 1),
 xo 38 (.ld (xt 37) 1 false),
 xo 39 (.mv (xt 4)),
 xo 40 (.mv (xt 5)),
 xo 41 (.bin .sub (xt 40) (xi 1)),
 ⟨(some 42), .ia (xt 39) (xt 41) 1, none, [0, 1, 2, 3]⟩,
 ⟨(some 43), .ld (xt 42) 1 false, none, [0, 1, 2, 3]⟩,
 xo 44 (.bin .neq (xt 38) (xt 43))] [0,3,4,5,44]
def c72_18 : XC := fun _ => .region [] [xo 45 (.mv (xt 0)),
 xo 46 (.mv (xt 3)),
 xo 47 (.mv (xt 4)),
 xo 48 (.mv (xt 5)),
 xo 49 (.ia (xt 47) (xt 48) 1),
 xo 50 (.ld (xt 49) 1 false),
 xo 51 (.ia (xt 45) (xt 46) 1),
 xn (.sto (xt 51) (xt 50) 1)] [0,3,4,5]
def c72_19 : XC := fun _ => .region [] [xo 52 (.mv (xt 3)),
 xo 53 (.bin .add (xt 52) (xi 1)),
 xo 3 (.mv (xt 53))] [0,3,4,5]
def c72_20 : XC := fun _ => .seq c72_18 c72_19
def c72_21 : XC := fun _ => .cond (xt 44) c72_20 (fun _ => .skip)
def c72_22 : XC := fun _ => .seq c72_17 c72_21
def c72_23 : XC := fun _ => .block 3 c72_22
def c72_24 : XC := fun _ => .region [] [xo 33 (.mv (xt 5)),
 xo 34 (.bin .add (xt 33) (xi 1)),
 xo 5 (.mv (xt 34))] [0,3,4,5]
def c72_25 : XC := fun _ => .seq c72_23 c72_24
def c72_26 : XC := fun _ => .seq c72_16 c72_25
def c72_27 : XC := fun _ => .loop c72_26
def c72_28 : XC := fun _ => .block 2 c72_27
def c72_29 : XC := fun _ => .seq c72_13 c72_28
def c72_30 : XC := fun _ => .region [] [xo 54 (.mv (xt 0)),
 xo 55 (.mv (xt 3)),
 xo 56 (.slc false (xt 54) (some (xt 55)) none none 1),
 xn (.clr (xt 56) 1 [.int .i64 0])] [0,3]
def c72_31 : XC := fun _ => .region [] [xo 57 (.mv (xt 0)),
 xo 58 (.mv (xt 3)),
 xo 59 (.slc false (xt 57) none (some (xt 58)) none 1),
 xo 2 (.mv (xt 59))] [2]
def c72_32 : XC := fun _ => .seq c72_31 (fun _ => .ret)
def c72_33 : XC := fun _ => .seq c72_30 c72_32
def c72_34 : XC := fun _ => .seq c72_29 c72_33
def c72_35 : XC := fun _ => .seq c72_12 c72_34
def c72_36 : XC := fun _ => .cond (xt 25) c72_35 (fun _ => .skip)
def c72_37 : XC := fun _ => .seq c72_11 c72_36
def c72_38 : XC := fun _ => .block 1 c72_37
def c72_39 : XC := fun _ => .region [] [xo 14 (.mv (xt 3)),
 xo 15 (.bin .add (xt 14) (xi 1)),
 xo 3 (.mv (xt 15))] [0,3]
def c72_40 : XC := fun _ => .seq c72_38 c72_39
def c72_41 : XC := fun _ => .seq c72_10 c72_40
def c72_42 : XC := fun _ => .loop c72_41
def c72_43 : XC := fun _ => .block 0 c72_42
def c72_44 : XC := fun _ => .seq c72_7 c72_43
def c72_45 : XC := fun _ => .region [] [xo 60 (.mv (xt 0)),
 xo 2 (.mv (xt 60))] [2]
def c72_46 : XC := fun _ => .seq c72_45 (fun _ => .ret)
def c72_47 : XC := fun _ => .seq c72_44 c72_46
def c72_48 : XC := fun _ => .seq c72_6 c72_47
def c72_49 : XC := fun _ => .seq c72_1 c72_48
def m_slices_Compact_intint : MCode := c72_49 ()
def h_slices_Compact_intint : Hints := [(0, [0], [], [], []), (1, [0,8], [], [], []), (2, [2], [], [], []), (3, [0,3], [], [], []), (4, [0,3,13], [], [], []), (6, [0,3,25], [[],[],[],[],[],[],[],[0,1,2,3],[0,1,2,3]], [], []), (7, [0,3,4], [], [], []), (8, [0,3,4,5], [], [], []), (9, [0,3,4,5,32], [], [], []), (11, [0,3,4,5,44], [[],[],[],[],[],[],[],[0,1,2,3],[0,1,2,3]], [], []), (12, [0,3,4,5], [], [], []), (13, [0,3,4,5], [], [], []), (10, [0,3,4,5], [], [], []), (14, [0,3], [], [], []), (15, [2], [], [], []), (5, [0,3], [], [], []), (16, [2], [], [], [])]
def r_slices_Compact_intint : List RV := [.t 2]
abbrev n_slices_Compact_intint : Nat := 72
theorem k_slices_Compact_intint : Known Pr mu n_slices_Compact_intint m_slices_Compact_intint r_slices_Compact_intint Go.Proofs.Tryz.f72.ntmps := .of h_slices_Compact_intint hm Go.Proofs.Tryz.func72
def c73_1 : XC := fun _ => .region [] [xo 2 (.mv (.const (.string ⟨#[]⟩)))] [0]
def c73_2 : XC := fun _ => .region [] [xo 3 (.mv (xt 0)),
 xo 4 (.bin .lss (xt 3) (xi 10))] [0,4]
def c73_3 : XC := fun _ => .region [] [xo 5 (.mv (xt 0)),
 xo 6 (.mv (xt 0)),
 xo 7 (.bin .add (xt 6) (xi 1)),
 xo 8 (.slc true (.const (.string ⟨#[48, 49, 50, 51, 52, 53, 54, 55, 56, 57, 97, 98, 99, 100, 101, 102, 103, 104, 105, 106, 107, 108, 109, 110, 111, 112, 113, 114, 115, 116, 117, 118, 119, 120, 121, 122]⟩)) (some (xt 5)) (some (xt 7)) none 0),
 xo 2 (.mv (xt 8))] [2]
def c73_4 : XC := fun _ => .seq c73_3 (fun _ => .ret)
def c73_5 : XC := fun _ => .cond (xt 4) c73_4 (fun _ => .skip)
def c73_6 : XC := fun _ => .seq c73_2 c73_5
def c73_7 : XC := fun _ => .region [] [xo 9 (.mv (xt 0)),
 xo 10 (.bin .mul (xt 9) (xi 2)),
 xo 11 (.mv (xt 0)),
 xo 12 (.bin .mul (xt 11) (xi 2)),
 xo 13 (.bin .add (xt 12) (xi 2)),
 xo 14 (.slc true (.const (.string ⟨#[48, 48, 48, 49, 48, 50, 48, 51, 48, 52, 48, 53, 48, 54, 48, 55, 48, 56, 48, 57, 49, 48, 49, 49, 49, 50, 49, 51, 49, 52, 49, 53, 49, 54, 49, 55, 49, 56, 49, 57, 50, 48, 50, 49, 50, 50, 50, 51, 50, 52, 50, 53, 50, 54, 50, 55, 50, 56, 50, 57, 51, 48, 51, 49, 51, 50, 51, 51, 51, 52, 51, 53, 51, 54, 51, 55, 51, 56, 51, 57, 52, 48, 52, 49, 52, 50, 52, 51, 52, 52, 52, 53, 52, 54, 52, 55, 52, 56, 52, 57, 53, 48, 53, 49, 53, 50, 53, 51, 53, 52, 53, 53, 53, 54, 53, 55, 53, 56, 53, 57, 54, 48, 54, 49, 54, 50, 54, 51, 54, 52, 54, 53, 54, 54, 54, 55, 54, 56, 54, 57, 55, 48, 55, 49, 55, 50, 55, 51, 55, 52, 55, 53, 55, 54, 55, 55, 55, 56, 55, 57, 56, 48, 56, 49, 56, 50, 56, 51, 56, 52, 56, 53, 56, 54, 56, 55, 56, 56, 56, 57, 57, 48, 57, 49, 57, 50, 57, 51, 57, 52, 57, 53, 57, 54, 57, 55, 57, 56, 57, 57]⟩)) (some (xt 10)) (some (xt 13)) none 0),
 xo 2 (.mv (xt 14))] [2]
def c73_8 : XC := fun _ => .seq c73_7 (fun _ => .ret)
def c73_9 : XC := fun _ => .seq c73_6 c73_8
def c73_10 : XC := fun _ => .seq c73_1 c73_9
def m_internal_strconv_small : MCode := c73_10 ()
def h_internal_strconv_small : Hints := [(0, [0], [], [], []), (1, [0,4], [], [], []), (2, [2], [], [], []), (3, [2], [], [], [])]
def r_internal_strconv_small : List RV := [.t 2]
abbrev n_internal_strconv_small : Nat := 73
theorem k_internal_strconv_small : Known Pr mu n_internal_strconv_small m_internal_strconv_small r_internal_strconv_small Go.Proofs.Tryz.f73.ntmps := .of h_internal_strconv_small hm Go.Proofs.Tryz.func73
def c77_1 : XC := fun _ => .region [] [xo 8 (.mv (xb true))] [0,1,2,3,8]
def c77_2 : XC := fun _ => .region [] [xo 9 (.mv (xb true))] [0,1,2,3,8,9]
def c77_3 : XC := fun _ => .region [] [xo 19 (.mv (xt 2)),
 xo 20 (.mv (xt 1)),
 xo 21 (.bin .sub (xt 19) (xt 20)),
 xo 10 (.mv (xt 21))] [0,1,2,3,8,9,10]
def c77_4 : XC := fun _ => .region [] [xo 22 (.mv (xt 10)),
 xo 23 (.bin .leq (xt 22) (xi 12))] [0,1,2,3,8,9,10,23]
def c77_5 : XC := fun _ => .region [] [xo 24 (.mv (xt 0)),
 xo 25 (.mv (xt 1)),
 xo 26 (.mv (xt 2)),
 xo 27 (.callm 84 [(xt 24), (xt 25), (xt 26)])] []
def c77_6 : XC := fun _ => .seq c77_5 (fun _ => .ret)
def c77_7 : XC := fun _ => .cond (xt 23) c77_6 (fun _ => .skip)
def c77_8 : XC := fun _ => .seq c77_4 c77_7
def c77_9 : XC := fun _ => .region [] [xo 28 (.mv (xt 3)),
 xo 29 (.bin .eql (xt 28) (xi 0))] [0,1,2,3,8,9,10,29]
def c77_10 : XC := fun _ => .region [] [xo 30 (.mv (xt 0)),
 xo 31 (.mv (xt 1)),
 xo 32 (.mv (xt 2)),
 xo 33 (.callm 85 [(xt 30), (xt 31), (xt 32)])] []
def c77_11 : XC := fun _ => .seq c77_10 (fun _ => .ret)
def c77_12 : XC := fun _ => .cond (xt 29) c77_11 (fun _ => .skip)
def c77_13 : XC := fun _ => .seq c77_9 c77_12
def c77_14 : XC := fun _ => .region [] [xo 34 (.mv (xt 8)),
 xo 35 (.not (xt 34))] [0,1,2,3,8,9,10,35]
def c77_15 : XC := fun _ => .region [] [xo 36 (.mv (xt 0)),
 xo 37 (.mv (xt 1)),
 xo 38 (.mv (xt 2)),
 xo 39 (.callm 86 [(xt 36), (xt 37), (xt 38)])] [0,1,2,3,8,9,10]
def c77_16 : XC := fun _ => .region [] [xo 40 (.mv (xt 3)),
 xo 41 (.bin .sub (xt 40) (xi 1)),
 xo 3 (.mv (xt 41))] [0,1,2,3,8,9,10]
def c77_17 : XC := fun _ => .seq c77_15 c77_16
def c77_18 : XC := fun _ => .cond (xt 35) c77_17 (fun _ => .skip)
def c77_19 : XC := fun _ => .seq c77_14 c77_18
def c77_20 : XC := fun _ => .region [] [xo 43 (.mv (xt 0)),
 xo 44 (.mv (xt 1)),
 xo 45 (.mv (xt 2)),
 xo 46 (.call 87 [(xt 43), (xt 44), (xt 45)]),
 xo 42 (.mv (xt 46)),
 xo 47 (.ext (xt 42) 0),
 xo 48 (.ext (xt 42) 1),
 xo 11 (.mv (xt 47)),
 xo 12 (.mv (xt 48))] [0,1,2,3,8,9,10,11,12]
def c77_21 : XC := fun _ => .region [] [xo 49 (.mv (xt 12)),
 xo 50 (.bin .eql (xt 49) (xi 2))] [0,1,2,3,8,9,10,11,12,50]
def c77_22 : XC := fun _ => .region [] [xo 51 (.mv (xt 0)),
 xo 52 (.mv (xt 1)),
 xo 53 (.mv (xt 2)),
 xo 54 (.callm 88 [(xt 51), (xt 52), (xt 53)])] [0,1,2,3,8,9,10,11]
def c77_23 : XC := fun _ => .region [] [xo 55 (.mv (xt 2)),
 xo 56 (.bin .sub (xt 55) (xi 1)),
 xo 57 (.mv (xt 11)),
 xo 58 (.mv (xt 1)),
 xo 59 (.bin .sub (xt 57) (xt 58)),
 xo 60 (.bin .sub (xt 56) (xt 59)),
 xo 11 (.mv (xt 60))] [0,1,2,3,8,9,10,11]
def c77_24 : XC := fun _ => .region [] [xo 12 (.mv (xi 1))] [0,1,2,3,8,9,10,11,12]
def c77_25 : XC := fun _ => .seq c77_23 c77_24
def c77_26 : XC := fun _ => .seq c77_22 c77_25
def c77_27 : XC := fun _ => .cond (xt 50) c77_26 (fun _ => .skip)
def c77_28 : XC := fun _ => .seq c77_21 c77_27
def c77_29 : XC := fun _ => .region [] [xo 61 (.mv (xt 8)),
 xo 62 (.mv (xt 61)),
 ⟨(some 63), .mv (xt 9), (some (62, true)), []⟩,
 xo 64 (.pick (xt 62) (xt 63) (xb false)),
 xo 65 (.mv (xt 64)),
 ⟨(some 66), .mv (xt 12), (some (65, true)), []⟩,
 ⟨(some 67), .bin .eql (xt 66) (xi 1), (some (65, true)), []⟩,
 xo 68 (.pick (xt 65) (xt 67) (xb false))] [0,1,2,3,8,9,10,11,68]
def c77_30 : XC := fun _ => .region [] [xo 69 (.mv (xt 0)),
 xo 70 (.mv (xt 1)),
 xo 71 (.mv (xt 2)),
 xo 72 (.callm 89 [(xt 69), (xt 70), (xt 71)])] [0,1,2,3,8,9,10,11,72]
def c77_31 : XC := fun _ => .cond (xt 72) (fun _ => .ret) (fun _ => .skip)
def c77_32 : XC := fun _ => .seq c77_30 c77_31
def c77_33 : XC := fun _ => .cond (xt 68) c77_32 (fun _ => .skip)
def c77_34 : XC := fun _ => .seq c77_29 c77_33
def c77_35 : XC := fun _ => .region [] [xo 73 (.mv (xt 1)),
 xo 74 (.bin .gtr (xt 73) (xi 0)),
 xo 75 (.mv (xt 74)),
 ⟨(some 76), .mv (xt 0), (some (75, true)), []⟩,
 ⟨(some 77), .mv (xt 1), (some (75, true)), []⟩,
 ⟨(some 78), .bin .sub (xt 77) (xi 1), (some (75, true)), []⟩,
 ⟨(some 79), .ia (xt 76) (xt 78) 1, (some (75, true)), []⟩,
 ⟨(some 80), .ld (xt 79) 1 false, (some (75, true)), []⟩,
 ⟨(some 81), .mv (xt 0), (some (75, true)), []⟩,
 ⟨(some 82), .mv (xt 11), (some (75, true)), []⟩,
 ⟨(some 83), .ia (xt 81) (xt 82) 1, (some (75, true)), [3, 4, 5, 6, 7]⟩,
 ⟨(some 84), .ld (xt 83) 1 false, (some (75, true)), [3, 4, 5, 6, 7]⟩,
 ⟨(some 85), .call 90 [(xt 80), (xt 84)], (some (75, true)), []⟩,
 ⟨(some 86), .not (xt 85), (some (75, true)), []⟩,
 xo 87 (.pick (xt 75) (xt 86) (xb false))] [0,1,2,3,8,9,10,11,87]
def c77_36 : XC := fun _ => .region [] [xo 88 (.mv (xt 0)),
 xo 89 (.mv (xt 1)),
 xo 90 (.mv (xt 2)),
 xo 91 (.mv (xt 11)),
 xo 92 (.callm 91 [(xt 88), (xt 89), (xt 90), (xt 91)]),
 xo 13 (.mv (xt 92))] [0,2,3,8,9,13]
def c77_37 : XC := fun _ => .region [] [xo 93 (.mv (xt 13)),
 xo 1 (.mv (xt 93))] [0,1,2,3,8,9]
def c77_38 : XC := fun _ => .seq c77_37 (fun _ => .exit 1)
def c77_39 : XC := fun _ => .seq c77_36 c77_38
def c77_40 : XC := fun _ => .cond (xt 87) c77_39 (fun _ => .skip)
def c77_41 : XC := fun _ => .seq c77_35 c77_40
def c77_42 : XC := fun _ => .region [] [xo 95 (.mv (xt 0)),
 xo 96 (.mv (xt 1)),
 xo 97 (.mv (xt 2)),
 xo 98 (.mv (xt 11)),
 xo 99 (.callm 92 [(xt 95), (xt 96), (xt 97), (xt 98)]),
 xo 94 (.mv (xt 99)),
 xo 100 (.ext (xt 94) 0),
 xo 101 (.ext (xt 94) 1),
 xo 14 (.mv (xt 100)),
 xo 15 (.mv (xt 101))] [0,1,2,3,10,14,15]
def c77_43 : XC := fun _ => .region [] [xo 102 (.mv (xt 15)),
 xo 9 (.mv (xt 102))] [0,1,2,3,9,10,14]
def c77_44 : XC := fun _ => .region [] [xo 103 (.mv (xt 14)),
 xo 104 (.mv (xt 1)),
 xo 105 (.bin .sub (xt 103) (xt 104)),
 xo 106 (.mv (xt 2)),
 xo 107 (.mv (xt 14)),
 xo 108 (.bin .sub (xt 106) (xt 107)),
 xo 16 (.mv (xt 105)),
 xo 17 (.mv (xt 108))] [0,1,2,3,9,10,14,16,17]
def c77_45 : XC := fun _ => .region [] [xo 109 (.mv (xt 10)),
 xo 110 (.bin .quo (xt 109) (xi 8)),
 xo 18 (.mv (xt 110))] [0,1,2,3,9,14,16,17,18]
def c77_46 : XC := fun _ => .region [] [xo 111 (.mv (xt 16)),
 xo 112 (.mv (xt 17)),
 xo 113 (.bin .lss (xt 111) (xt 112))] [0,1,2,3,9,14,16,17,18,113]
def c77_47 : XC := fun _ => .region [] [xo 114 (.mv (xt 16)),
 xo 115 (.mv (xt 18)),
 xo 116 (.bin .geq (xt 114) (xt 115)),
 xo 8 (.mv (xt 116))] [0,1,2,3,8,9,14]
def c77_48 : XC := fun _ => .region [] [xo 117 (.mv (xt 0)),
 xo 118 (.mv (xt 1)),
 xo 119 (.mv (xt 14)),
 xo 120 (.mv (xt 3)),
 xo 121 (.callm 77 [(xt 117), (xt 118), (xt 119), (xt 120)])] [0,2,3,8,9,14]
def c77_49 : XC := fun _ => .region [] [xo 122 (.mv (xt 14)),
 xo 123 (.bin .add (xt 122) (xi 1)),
 xo 1 (.mv (xt 123))] [0,1,2,3,8,9]
def c77_50 : XC := fun _ => .seq c77_48 c77_49
def c77_51 : XC := fun _ => .seq c77_47 c77_50
def c77_52 : XC := fun _ => .region [] [xo 124 (.mv (xt 17)),
 xo 125 (.mv (xt 18)),
 xo 126 (.bin .geq (xt 124) (xt 125)),
 xo 8 (.mv (xt 126))] [0,1,2,3,8,9,14]
def c77_53 : XC := fun _ => .region [] [xo 127 (.mv (xt 0)),
 xo 128 (.mv (xt 14)),
 xo 129 (.bin .add (xt 128) (xi 1)),
 xo 130 (.mv (xt 2)),
 xo 131 (.mv (xt 3)),
 xo 132 (.callm 77 [(xt 127), (xt 129), (xt 130), (xt 131)])] [0,1,3,8,9,14]
def c77_54 : XC := fun _ => .region [] [xo 133 (.mv (xt 14)),
 xo 2 (.mv (xt 133))] [0,1,2,3,8,9]
def c77_55 : XC := fun _ => .seq c77_53 c77_54
def c77_56 : XC := fun _ => .seq c77_52 c77_55
def c77_57 : XC := fun _ => .cond (xt 113) c77_51 c77_56
def c77_58 : XC := fun _ => .seq c77_46 c77_57
def c77_59 : XC := fun _ => .seq c77_45 c77_58
def c77_60 : XC := fun _ => .seq c77_44 c77_59
def c77_61 : XC := fun _ => .seq c77_43 c77_60
def c77_62 : XC := fun _ => .seq c77_42 c77_61
def c77_63 : XC := fun _ => .seq c77_41 c77_62
def c77_64 : XC := fun _ => .seq c77_34 c77_63
def c77_65 : XC := fun _ => .seq c77_28 c77_64
def c77_66 : XC := fun _ => .seq c77_20 c77_65
def c77_67 : XC := fun _ => .seq c77_19 c77_66
def c77_68 : XC := fun _ => .seq c77_13 c77_67
def c77_69 : XC := fun _ => .seq c77_8 c77_68
def c77_70 : XC := fun _ => .seq c77_3 c77_69
def c77_71 : XC := fun _ => .block 1 c77_70
def c77_72 : XC := fun _ => .loop c77_71
def c77_73 : XC := fun _ => .block 0 c77_72
def c77_74 : XC := fun _ => .seq c77_2 c77_73
def c77_75 : XC := fun _ => .seq c77_1 c77_74
def m_slices_pdqsortOrdered_int : MCode := c77_75 ()
def h_slices_pdqsortOrdered_int : Hints := [(0, [0,1,2,3,8], [], [], []), (1, [0,1,2,3,8,9], [], [], []), (2, [0,1,2,3,8,9,10], [], [], []), (3, [0,1,2,3,8,9,10,23], [], [], []), (4, [], [], [], []), (5, [0,1,2,3,8,9,10,29], [], [], []), (6, [], [], [], []), (7, [0,1,2,3,8,9,10,35], [], [], []), (8, [0,1,2,3,8,9,10], [], [], []), (9, [0,1,2,3,8,9,10], [], [], []), (10, [0,1,2,3,8,9,10,11,12], [], [], []), (11, [0,1,2,3,8,9,10,11,12,50], [], [], []), (12, [0,1,2,3,8,9,10,11], [], [], []), (13, [0,1,2,3,8,9,10,11], [], [], []), (14, [0,1,2,3,8,9,10,11,12], [], [], []), (15, [0,1,2,3,8,9,10,11,68], [], [], []), (16, [0,1,2,3,8,9,10,11,72], [], [], []), (17, [0,1,2,3,8,9,10,11,87], [[],[],[],[],[],[],[],[],[],[],[3,4,5,6,7],[3,4,5,6,7]], [], []), (18, [0,2,3,8,9,13], [], [], []), (19, [0,1,2,3,8,9], [], [], []), (20, [0,1,2,3,10,14,15], [], [], []), (21, [0,1,2,3,9,10,14], [], [], []), (22, [0,1,2,3,9,10,14,16,17], [], [], []), (23, [0,1,2,3,9,14,16,17,18], [], [], []), (24, [0,1,2,3,9,14,16,17,18,113], [], [], []), (25, [0,1,2,3,8,9,14], [], [], []), (26, [0,2,3,8,9,14], [], [], []), (27, [0,1,2,3,8,9], [], [], []), (28, [0,1,2,3,8,9,14], [], [], []), (29, [0,1,3,8,9,14], [], [], []), (30, [0,1,2,3,8,9], [], [], [])]
def r_slices_pdqsortOrdered_int : List RV := []
abbrev n_slices_pdqsortOrdered_int : Nat := 77
theorem k_slices_pdqsortOrdered_int : Known Pr mu n_slices_pdqsortOrdered_int m_slices_pdqsortOrdered_int r_slices_pdqsortOrdered_int Go.Proofs.Tryz.f77.ntmps := .of h_slices_pdqsortOrdered_int hm Go.Proofs.Tryz.func77
def c78_1 : XC := fun _ => .region [] [xo 2 (.mv (xi 0))] [0]
def c78_2 : XC := fun _ => .region [] [xo 3 (.mv (xt 0)),
 xo 4 (.conv .u32 (xt 3)),
 xo 5 (.call 93 [(xt 4)]),
 xo 2 (.mv (xt 5))] [2]
def c78_3 : XC := fun _ => .seq c78_2 (fun _ => .ret)
def c78_4 : XC := fun _ => .cond (xb false) c78_3 (fun _ => .skip)
def c78_5 : XC := fun _ => .region [] [xo 6 (.mv (xt 0)),
 xo 7 (.call 80 [(xt 6)]),
 xo 2 (.mv (xt 7))] [2]
def c78_6 : XC := fun _ => .seq c78_5 (fun _ => .ret)
def c78_7 : XC := fun _ => .seq c78_4 c78_6
def c78_8 : XC := fun _ => .seq c78_1 c78_7
def m_math_bits_Len : MCode := c78_8 ()
def h_math_bits_Len : Hints := [(0, [0], [], [], []), (1, [2], [], [], []), (2, [2], [], [], [])]
def r_math_bits_Len : List RV := [.t 2]
abbrev n_math_bits_Len : Nat := 78
theorem k_math_bits_Len : Known Pr mu n_math_bits_Len m_math_bits_Len r_math_bits_Len Go.Proofs.Tryz.f78.ntmps := .of h_math_bits_Len hm Go.Proofs.Tryz.func78
def c80_1 : XC := fun _ => .region [] [xo 2 (.mv (xi 0))] [0,2]
def c80_2 : XC := fun _ => .region [] [xo 3 (.mv (xt 0)),
 xo 4 (.bin .geq (xt 3) (.const (.int .u64 4294967296)))] [0,2,4]
def c80_3 : XC := fun _ => .region [] [xo 5 (.mv (xt 0)),
 xo 6 (.bit .shr (xt 5) (.const (.int .u64 32))),
 xo 0 (.mv (xt 6))] [0]
def c80_4 : XC := fun _ => .region [] [xo 2 (.mv (xi 32))] [0,2]
def c80_5 : XC := fun _ => .seq c80_3 c80_4
def c80_6 : XC := fun _ => .cond (xt 4) c80_5 (fun _ => .skip)
def c80_7 : XC := fun _ => .seq c80_2 c80_6
def c80_8 : XC := fun _ => .region [] [xo 7 (.mv (xt 0)),
 xo 8 (.bin .geq (xt 7) (.const (.int .u64 65536)))] [0,2,8]
def c80_9 : XC := fun _ => .region [] [xo 9 (.mv (xt 0)),
 xo 10 (.bit .shr (xt 9) (.const (.int .u64 16))),
 xo 0 (.mv (xt 10))] [0,2]
def c80_10 : XC := fun _ => .region [] [xo 11 (.mv (xt 2)),
 xo 12 (.bin .add (xt 11) (xi 16)),
 xo 2 (.mv (xt 12))] [0,2]
def c80_11 : XC := fun _ => .seq c80_9 c80_10
def c80_12 : XC := fun _ => .cond (xt 8) c80_11 (fun _ => .skip)
def c80_13 : XC := fun _ => .seq c80_8 c80_12
def c80_14 : XC := fun _ => .region [] [xo 13 (.mv (xt 0)),
 xo 14 (.bin .geq (xt 13) (.const (.int .u64 256)))] [0,2,14]
def c80_15 : XC := fun _ => .region [] [xo 15 (.mv (xt 0)),
 xo 16 (.bit .shr (xt 15) (.const (.int .u64 8))),
 xo 0 (.mv (xt 16))] [0,2]
def c80_16 : XC := fun _ => .region [] [xo 17 (.mv (xt 2)),
 xo 18 (.bin .add (xt 17) (xi 8)),
 xo 2 (.mv (xt 18))] [0,2]
def c80_17 : XC := fun _ => .seq c80_15 c80_16
def c80_18 : XC := fun _ => .cond (xt 14) c80_17 (fun _ => .skip)
def c80_19 : XC := fun _ => .seq c80_14 c80_18
def c80_20 : XC := fun _ => .region [] [xo 19 (.mv (xt 2)),
 xo 20 (.mv (xt 0)),
 xo 21 (.conv .u8 (xt 20)),
 xo 22 (.sidx (.const (.string ⟨#[0, 1, 2, 2, 3, 3, 3, 3, 4, 4, 4, 4, 4, 4, 4, 4, 5, 5, 5, 5, 5, 5, 5, 5, 5, 5, 5, 5, 5, 5, 5, 5, 6, 6, 6, 6, 6, 6, 6, 6, 6, 6, 6, 6, 6, 6, 6, 6, 6, 6, 6, 6, 6, 6, 6, 6, 6, 6, 6, 6, 6, 6, 6, 6, 7, 7, 7, 7, 7, 7, 7, 7, 7, 7, 7, 7, 7, 7, 7, 7, 7, 7, 7, 7, 7, 7, 7, 7, 7, 7, 7, 7, 7, 7, 7, 7, 7, 7, 7, 7, 7, 7, 7, 7, 7, 7, 7, 7, 7, 7, 7, 7, 7, 7, 7, 7, 7, 7, 7, 7, 7, 7, 7, 7, 7, 7, 7, 7, 8, 8, 8, 8, 8, 8, 8, 8, 8, 8, 8, 8, 8, 8, 8, 8, 8, 8, 8, 8, 8, 8, 8, 8, 8, 8, 8, 8, 8, 8, 8, 8, 8, 8, 8, 8, 8, 8, 8, 8, 8, 8, 8, 8, 8, 8, 8, 8, 8, 8, 8, 8, 8, 8, 8, 8, 8, 8, 8, 8, 8, 8, 8, 8, 8, 8, 8, 8, 8, 8, 8, 8, 8, 8, 8, 8, 8, 8, 8, 8, 8, 8, 8, 8, 8, 8, 8, 8, 8, 8, 8, 8, 8, 8, 8, 8, 8, 8, 8, 8, 8, 8, 8, 8, 8, 8, 8, 8, 8, 8, 8, 8, 8, 8, 8, 8, 8, 8, 8, 8, 8, 8, 8, 8, 8, 8, 8, 8]⟩)) (xt 21)),
 xo 23 (.conv .i64 (xt 22)),
 xo 24 (.bin .add (xt 19) (xt 23)),
 xo 2 (.mv (xt 24))] [2]
def c80_21 : XC := fun _ => .seq c80_20 (fun _ => .ret)
def c80_22 : XC := fun _ => .seq c80_19 c80_21
def c80_23 : XC := fun _ => .seq c80_13 c80_22
def c80_24 : XC := fun _ => .seq c80_7 c80_23
def c80_25 : XC := fun _ => .seq c80_1 c80_24
def m_math_bits_Len64 : MCode := c80_25 ()
def h_math_bits_Len64 : Hints := [(0, [0,2], [], [], []), (1, [0,2,4], [], [], []), (2, [0], [], [], []), (3, [0,2], [], [], []), (4, [0,2,8], [], [], []), (5, [0,2], [], [], []), (6, [0,2], [], [], []), (7, [0,2,14], [], [], []), (8, [0,2], [], [], []), (9, [0,2], [], [], []), (10, [2], [], [], [])]
def r_math_bits_Len64 : List RV := [.t 2]
abbrev n_math_bits_Len64 : Nat := 80
theorem k_math_bits_Len64 : Known Pr mu n_math_bits_Len64 m_math_bits_Len64 r_math_bits_Len64 Go.Proofs.Tryz.f80.ntmps := .of h_math_bits_Len64 hm Go.Proofs.Tryz.func80
def c84_1 : XC := fun _ => .region [] [xo 8 (.mv (xt 1)),
 xo 9 (.bin .add (xt 8) (xi 1)),
 xo 6 (.mv (xt 9))] [0,1,2,6]
def c84_2 : XC := fun _ => .region [] [xo 10 (.mv (xt 6)),
 xo 11 (.mv (xt 2)),
 xo 12 (.bin .lss (xt 10) (xt 11))] [0,1,2,6,12]
def c84_3 : XC := fun _ => .cond (xt 12) (fun _ => .skip) (fun _ => .exit 0)
def c84_4 : XC := fun _ => .seq c84_2 c84_3
def c84_5 : XC := fun _ => .region [] [xo 15 (.mv (xt 6)),
 xo 7 (.mv (xt 15))] [0,1,2,6,7]
def c84_6 : XC := fun _ => .region [] [xo 16 (.mv (xt 7)),
 xo 17 (.mv (xt 1)),
 xo 18 (.bin .gtr (xt 16) (xt 17)),
 xo 19 (.mv (xt 18)),
 ⟨(some 20), .mv (xt 0), (some (19, true)), []⟩,
 ⟨(some 21), .mv (xt 7), (some (19, true)), []⟩,
 ⟨(some 22), .ia (xt 20) (xt 21) 1, (some (19, true)), []⟩,
 ⟨(some 23), .ld (xt 22) 1 false, (some (19, true)), []⟩,
 ⟨(some 24), .mv (xt 0), (some (19, true)), []⟩,
 ⟨(some 25), .mv (xt 7), (some (19, true)), []⟩,
 ⟨(some 26), .bin .sub (xt 25) (xi 1), (some (19, true)), []⟩,
 ⟨(some 27), .ia (xt 24) (xt 26) 1, (some (19, true)), [4, 5, 6, 7]⟩,
 ⟨(some 28), .ld (xt 27) 1 false, (some (19, true)), [4, 5, 6, 7]⟩,
 ⟨(some 29), .call 90 [(xt 23), (xt 28)], (some (19, true)), []⟩,
 xo 30 (.pick (xt 19) (xt 29) (xb false))] [0,1,2,6,7,30]
def c84_7 : XC := fun _ => .cond (xt 30) (fun _ => .skip) (fun _ => .exit 2)
def c84_8 : XC := fun _ => .seq c84_6 c84_7
def c84_9 : XC := fun _ => .region [] [xo 33 (.mv (xt 0)),
 xo 34 (.mv (xt 7)),
 xo 35 (.mv (xt 0)),
 xo 36 (.mv (xt 7)),
 xo 37 (.bin .sub (xt 36) (xi 1)),
 xo 38 (.mv (xt 0)),
 xo 39 (.mv (xt 7)),
 xo 40 (.bin .sub (xt 39) (xi 1)),
 ⟨(some 41), .ia (xt 38) (xt 40) 1, none, [0, 1, 2, 3, 4]⟩,
 ⟨(some 42), .ld (xt 41) 1 false, none, [0, 1, 2, 3, 4]⟩,
 xo 43 (.mv (xt 0)),
 xo 44 (.mv (xt 7)),
 ⟨(some 45), .ia (xt 43) (xt 44) 1, none, [0, 1, 2, 3, 4, 5, 6, 7, 8, 9]⟩,
 ⟨(some 46), .ld (xt 45) 1 false, none, [0, 1, 2, 3, 4, 5, 6, 7, 8, 9]⟩,
 ⟨(some 47), .ia (xt 33) (xt 34) 1, none, [2, 3, 4]⟩,
 xn (.sto (xt 47) (xt 42) 1),
 xo 48 (.ia (xt 35) (xt 37) 1),
 xn (.sto (xt 48) (xt 46) 1)] [0,1,2,6,7]
def c84_10 : XC := fun _ => .block 3 c84_9
def c84_11 : XC := fun _ => .region [] [xo 31 (.mv (xt 7)),
 xo 32 (.bin .sub (xt 31) (xi 1)),
 xo 7 (.mv (xt 32))] [0,1,2,6,7]
def c84_12 : XC := fun _ => .seq c84_10 c84_11
def c84_13 : XC := fun _ => .seq c84_8 c84_12
def c84_14 : XC := fun _ => .loop c84_13
def c84_15 : XC := fun _ => .block 2 c84_14
def c84_16 : XC := fun _ => .seq c84_5 c84_15
def c84_17 : XC := fun _ => .block 1 c84_16
def c84_18 : XC := fun _ => .region [] [xo 13 (.mv (xt 6)),
 xo 14 (.bin .add (xt 13) (xi 1)),
 xo 6 (.mv (xt 14))] [0,1,2,6]
def c84_19 : XC := fun _ => .seq c84_17 c84_18
def c84_20 : XC := fun _ => .seq c84_4 c84_19
def c84_21 : XC := fun _ => .loop c84_20
def c84_22 : XC := fun _ => .block 0 c84_21
def c84_23 : XC := fun _ => .seq c84_1 c84_22
def m_slices_insertionSortOrdered_int : MCode := c84_23 ()
def h_slices_insertionSortOrdered_int : Hints := [(0, [0,1,2,6], [], [], []), (1, [0,1,2,6,12], [], [], []), (3, [0,1,2,6,7], [], [], []), (4, [0,1,2,6,7,30], [[],[],[],[],[],[],[],[],[],[],[],[4,5,6,7],[4,5,6,7]], [], []), (6, [0,1,2,6,7], [[],[],[],[],[],[],[],[],[0,1,2,3,4],[0,1,2,3,4],[],[],[0,1,2,3,4,5,6,7,8,9],[0,1,2,3,4,5,6,7,8,9],[2,3,4]], [], [2,3,4]), (5, [0,1,2,6,7], [], [], []), (2, [0,1,2,6], [], [], [])]
def r_slices_insertionSortOrdered_int : List RV := []
abbrev n_slices_insertionSortOrdered_int : Nat := 84
theorem k_slices_insertionSortOrdered_int : Known Pr mu n_slices_insertionSortOrdered_int m_slices_insertionSortOrdered_int r_slices_insertionSortOrdered_int Go.Proofs.Tryz.f84.ntmps := .of h_slices_insertionSortOrdered_int hm Go.Proofs.Tryz.func84
def c90_1 : XC := fun _ => .region [] [xo 4 (.mv (xb false))] [0,1]
def c90_2 : XC := fun _ => .region [] [xo 5 (.mv (xt 0)),
 xo 6 (.call 101 [(xt 5)]),
 xo 7 (.mv (xt 6)),
 ⟨(some 8), .mv (xt 1), (some (7, true)), []⟩,
 ⟨(some 9), .call 101 [(xt 8)], (some (7, true)), []⟩,
 ⟨(some 10), .not (xt 9), (some (7, true)), []⟩,
 xo 11 (.pick (xt 7) (xt 10) (xb false)),
 xo 12 (.mv (xt 11)),
 ⟨(some 13), .mv (xt 0), (some (12, false)), []⟩,
 ⟨(some 14), .mv (xt 1), (some (12, false)), []⟩,
 ⟨(some 15), .bin .lss (xt 13) (xt 14), (some (12, false)), []⟩,
 xo 16 (.pick (xt 12) (xb true) (xt 15)),
 xo 4 (.mv (xt 16))] [4]
def c90_3 : XC := fun _ => .seq c90_2 (fun _ => .ret)
def c90_4 : XC := fun _ => .seq c90_1 c90_3
def m_cmp_Less_int : MCode := c90_4 ()
def h_cmp_Less_int : Hints := [(0, [0,1], [], [], []), (1, [4], [], [], [])]
def r_cmp_Less_int : List RV := [.t 4]
abbrev n_cmp_Less_int : Nat := 90
theorem k_cmp_Less_int : Known Pr mu n_cmp_Less_int m_cmp_Less_int r_cmp_Less_int Go.Proofs.Tryz.f90.ntmps := .of h_cmp_Less_int hm Go.Proofs.Tryz.func90
def c101_1 : XC := fun _ => .region [] [xo 2 (.mv (xb false))] [0]
def c101_2 : XC := fun _ => .region [] [xo 3 (.mv (xt 0)),
 xo 4 (.mv (xt 0)),
 xo 5 (.bin .neq (xt 3) (xt 4)),
 xo 2 (.mv (xt 5))] [2]
def c101_3 : XC := fun _ => .seq c101_2 (fun _ => .ret)
def c101_4 : XC := fun _ => .seq c101_1 c101_3
def m_cmp_isNaN_int : MCode := c101_4 ()
def h_cmp_isNaN_int : Hints := [(0, [0], [], [], []), (1, [2], [], [], [])]
def r_cmp_isNaN_int : List RV := [.t 2]
abbrev n_cmp_isNaN_int : Nat := 101
theorem k_cmp_isNaN_int : Known Pr mu n_cmp_isNaN_int m_cmp_isNaN_int r_cmp_isNaN_int Go.Proofs.Tryz.f101.ntmps := .of h_cmp_isNaN_int hm Go.Proofs.Tryz.func101
end Go.V.T
