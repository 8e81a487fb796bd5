/- The short code of the functions that FnExactParseSnapshot reaches, held against the program. Conditions: none. -/
import Derived.Test.YtimhfljclimjeaaDoorV6
import Derived.Test.YtimhfljclimjeaaDoorProg
namespace Go.V.T
open Go Go.V
noncomputable abbrev Pr := Go.Proofs.Tryd.prog
def mu : Nat → Bool := fun n => Nat.beq n 7 || Nat.beq n 18 || Nat.beq n 36 || Nat.beq n 37
def muc : Nat → Bool := fun n => Nat.beq n 3000000 || mu n
abbrev XC := Unit → MCode
def xt (n : Nat) : Operand := .tmp n
def xi (n : Int) : Operand := .const (.int .i64 n)
def xb (b : Bool) : Operand := .const (.bool b)
def xo (d : Nat) (m : MOp) : MOper := ⟨some d, m, none, []⟩
def xn (m : MOp) : MOper := ⟨none, m, none, []⟩
theorem hm : Pr.follows .mixedOrders = true := by kernel_rfl
def c3_1 : XC := fun _ => .region [] [xo 2 (.mv (xb false))] [0]
def c3_2 : XC := fun _ => .region [] [xo 11 (.mv (xt 0)),
 xo 12 (.len true (xt 11)),
 xo 13 (.bin .gtr (xt 12) (xi 1048576))] [0,13]
def c3_3 : XC := fun _ => .region [] [xo 2 (.mv (xb true))] [2]
def c3_4 : XC := fun _ => .seq c3_3 (fun _ => .ret)
def c3_5 : XC := fun _ => .cond (xt 13) c3_4 (fun _ => .skip)
def c3_6 : XC := fun _ => .seq c3_2 c3_5
def c3_7 : XC := fun _ => .region [] [xo 15 (.mv (xt 0)),
 xo 16 (.call 4 [(xt 15)]),
 xo 14 (.mv (xt 16)),
 xo 17 (.ext (xt 14) 0),
 xo 18 (.ext (xt 14) 1),
 xo 3 (.alloc [.int .i64 0, .int .i64 0, .slice none 0 0, .slice none 0 0]),
 xn (.sto (xt 3) (xt 17) 4),
 xo 4 (.mv (xt 18))] [0,3,4]
def c3_8 : XC := fun _ => .region [] [xo 20 (.mv (xt 0)),
 xo 21 (.call 5 [(xt 20)]),
 xo 19 (.mv (xt 21)),
 xo 22 (.ext (xt 19) 0),
 xo 23 (.ext (xt 19) 1),
 xo 5 (.alloc [.int .i64 0, .int .i64 0, .slice none 0 0, .slice none 0 0]),
 xn (.sto (xt 5) (xt 22) 4),
 xo 6 (.mv (xt 23))] [0,3,4,5,6]
def c3_9 : XC := fun _ => .region [] [xo 24 (.ld (xt 5) 4 true),
 xo 25 (.ld (xt 3) 4 true),
 xo 26 (.call 6 [(xt 24), (xt 25)]),
 xo 27 (.not (xt 26)),
 xo 28 (.mv (xt 27)),
 ⟨(some 29), .mv (xt 6), (some (28, false)), []⟩,
 ⟨(some 30), .mv (xt 4), (some (28, false)), []⟩,
 ⟨(some 31), .bbin .neq (xt 29) (xt 30), (some (28, false)), []⟩,
 xo 32 (.pick (xt 28) (xb true) (xt 31))] [0,3,4,5,32]
def c3_10 : XC := fun _ => .region [] [xo 2 (.mv (xb false))] [2]
def c3_11 : XC := fun _ => .seq c3_10 (fun _ => .ret)
def c3_12 : XC := fun _ => .cond (xt 32) c3_11 (fun _ => .skip)
def c3_13 : XC := fun _ => .seq c3_9 c3_12
def c3_14 : XC := fun _ => .region [] [xo 7 (.mv (xi 1))] [0,3,4,5,7]
def c3_15 : XC := fun _ => .region [] [xo 33 (.ld (xt 5) 4 true),
 xo 34 (.mv (xt 7)),
 xo 35 (.callm 7 [(xt 33), (xt 34)]),
 xo 7 (.mv (xt 35))] [0,3,4,5,7]
def c3_16 : XC := fun _ => .region [] [xo 8 (.mv (xi 1))] [0,3,4,5,7,8]
def c3_17 : XC := fun _ => .region [] [xo 36 (.ld (xt 5) 4 true),
 xo 37 (.mv (xt 8)),
 xo 38 (.call 8 [(xt 36), (xt 37)]),
 xo 8 (.mv (xt 38))] [0,3,4,5,7,8]
def c3_18 : XC := fun _ => .region [] [xo 39 (.mv (xt 8)),
 xo 40 (.bin .lss (xt 39) (xi 0))] [0,3,4,5,7,8,40]
def c3_19 : XC := fun _ => .region [] [xo 2 (.mv (xb false))] [2]
def c3_20 : XC := fun _ => .seq c3_19 (fun _ => .ret)
def c3_21 : XC := fun _ => .cond (xt 40) c3_20 (fun _ => .skip)
def c3_22 : XC := fun _ => .seq c3_18 c3_21
def c3_23 : XC := fun _ => .region [] [xo 41 (.mv (xt 8)),
 xo 42 (.mv (xt 7)),
 xo 43 (.bin .neq (xt 41) (xt 42))] [0,3,4,5,7,43]
def c3_24 : XC := fun _ => .region [] [xo 2 (.mv (xb false))] [2]
def c3_25 : XC := fun _ => .seq c3_24 (fun _ => .ret)
def c3_26 : XC := fun _ => .cond (xt 43) c3_25 (fun _ => .skip)
def c3_27 : XC := fun _ => .seq c3_23 c3_26
def c3_28 : XC := fun _ => .region [] [xo 45 (.mv (xt 0)),
 xo 46 (.call 5 [(xt 45)]),
 xo 44 (.mv (xt 46)),
 xo 47 (.ext (xt 44) 0),
 xo 48 (.ext (xt 44) 1),
 xo 9 (.alloc [.int .i64 0, .int .i64 0, .slice none 0 0, .slice none 0 0]),
 xn (.sto (xt 9) (xt 47) 4),
 xo 10 (.mv (xt 48))] [3,4,5,7,9,10]
def c3_29 : XC := fun _ => .region [] [xo 49 (.ld (xt 9) 4 true),
 xo 50 (.ld (xt 3) 4 true),
 xo 51 (.call 6 [(xt 49), (xt 50)]),
 xo 52 (.not (xt 51)),
 xo 53 (.mv (xt 52)),
 ⟨(some 54), .mv (xt 10), (some (53, false)), []⟩,
 ⟨(some 55), .mv (xt 4), (some (53, false)), []⟩,
 ⟨(some 56), .bbin .neq (xt 54) (xt 55), (some (53, false)), []⟩,
 xo 57 (.pick (xt 53) (xb true) (xt 56))] [5,7,57]
def c3_30 : XC := fun _ => .region [] [xo 2 (.mv (xb false))] [2]
def c3_31 : XC := fun _ => .seq c3_30 (fun _ => .ret)
def c3_32 : XC := fun _ => .cond (xt 57) c3_31 (fun _ => .skip)
def c3_33 : XC := fun _ => .seq c3_29 c3_32
def c3_34 : XC := fun _ => .region [] [xo 8 (.mv (xi 1))] [5,7,8]
def c3_35 : XC := fun _ => .region [] [xo 58 (.ld (xt 5) 4 true),
 xo 59 (.mv (xt 8)),
 xo 60 (.call 8 [(xt 58), (xt 59)]),
 xo 8 (.mv (xt 60))] [7,8]
def c3_36 : XC := fun _ => .region [] [xo 61 (.mv (xt 8)),
 xo 62 (.bin .lss (xt 61) (xi 0))] [7,8,62]
def c3_37 : XC := fun _ => .region [] [xo 2 (.mv (xb false))] [2]
def c3_38 : XC := fun _ => .seq c3_37 (fun _ => .ret)
def c3_39 : XC := fun _ => .cond (xt 62) c3_38 (fun _ => .skip)
def c3_40 : XC := fun _ => .seq c3_36 c3_39
def c3_41 : XC := fun _ => .region [] [xo 63 (.mv (xt 8)),
 xo 64 (.mv (xt 7)),
 xo 65 (.bin .neq (xt 63) (xt 64))] [65]
def c3_42 : XC := fun _ => .region [] [xo 2 (.mv (xb false))] [2]
def c3_43 : XC := fun _ => .seq c3_42 (fun _ => .ret)
def c3_44 : XC := fun _ => .cond (xt 65) c3_43 (fun _ => .skip)
def c3_45 : XC := fun _ => .seq c3_41 c3_44
def c3_46 : XC := fun _ => .region [] [xo 2 (.mv (xb true))] [2]
def c3_47 : XC := fun _ => .seq c3_46 (fun _ => .ret)
def c3_48 : XC := fun _ => .seq c3_45 c3_47
def c3_49 : XC := fun _ => .seq c3_40 c3_48
def c3_50 : XC := fun _ => .seq c3_35 c3_49
def c3_51 : XC := fun _ => .seq c3_34 c3_50
def c3_52 : XC := fun _ => .seq c3_33 c3_51
def c3_53 : XC := fun _ => .seq c3_28 c3_52
def c3_54 : XC := fun _ => .seq c3_27 c3_53
def c3_55 : XC := fun _ => .seq c3_22 c3_54
def c3_56 : XC := fun _ => .seq c3_17 c3_55
def c3_57 : XC := fun _ => .seq c3_16 c3_56
def c3_58 : XC := fun _ => .seq c3_15 c3_57
def c3_59 : XC := fun _ => .seq c3_14 c3_58
def c3_60 : XC := fun _ => .seq c3_13 c3_59
def c3_61 : XC := fun _ => .seq c3_8 c3_60
def c3_62 : XC := fun _ => .seq c3_7 c3_61
def c3_63 : XC := fun _ => .seq c3_6 c3_62
def c3_64 : XC := fun _ => .seq c3_1 c3_63
def m_laws_FnExactParseSnapshot : MCode := c3_64 ()
def h_laws_FnExactParseSnapshot : Hints := [(0, [0], [], [], []), (1, [0,13], [], [], []), (2, [2], [], [], []), (3, [0,3,4], [], [], []), (4, [0,3,4,5,6], [], [], []), (5, [0,3,4,5,32], [], [], []), (6, [2], [], [], []), (7, [0,3,4,5,7], [], [], []), (8, [0,3,4,5,7], [], [], []), (9, [0,3,4,5,7,8], [], [], []), (10, [0,3,4,5,7,8], [], [], []), (11, [0,3,4,5,7,8,40], [], [], []), (12, [2], [], [], []), (13, [0,3,4,5,7,43], [], [], []), (14, [2], [], [], []), (15, [3,4,5,7,9,10], [], [], []), (16, [5,7,57], [], [], []), (17, [2], [], [], []), (18, [5,7,8], [], [], []), (19, [7,8], [], [], []), (20, [7,8,62], [], [], []), (21, [2], [], [], []), (22, [65], [], [], []), (23, [2], [], [], []), (24, [2], [], [], [])]
def r_laws_FnExactParseSnapshot : List RV := [.t 2]
abbrev n_laws_FnExactParseSnapshot : Nat := 3
theorem k_laws_FnExactParseSnapshot : Known Pr mu n_laws_FnExactParseSnapshot m_laws_FnExactParseSnapshot r_laws_FnExactParseSnapshot Go.Proofs.Tryd.f3.ntmps := .of h_laws_FnExactParseSnapshot hm Go.Proofs.Tryd.func3
def c4_1 : XC := fun _ => .region [] [xo 2 (.alloc [.int .i64 0, .int .i64 0, .slice none 0 0, .slice none 0 0]),
 xo 3 (.mv (xb false))] [0,2]
def c4_2 : XC := fun _ => .region [] [xo 8 (.mv (xt 0)),
 xo 9 (.call 9 [(xt 8), (.const (.int .u8 44))]),
 xo 4 (.mv (xt 9))] [0,2,4]
def c4_3 : XC := fun _ => .region [] [xo 10 (.mv (xt 4)),
 xo 11 (.len false (xt 10)),
 xo 12 (.bin .neq (xt 11) (xi 3))] [0,2,4,12]
def c4_4 : XC := fun _ => .region [] [xo 13 (.bld [.int .i64 0, .int .i64 0, .slice none 0 0, .slice none 0 0] []),
 xn (.sto (xt 2) (xt 13) 4),
 xo 3 (.mv (xb false))] [2,3]
def c4_5 : XC := fun _ => .seq c4_4 (fun _ => .ret)
def c4_6 : XC := fun _ => .cond (xt 12) c4_5 (fun _ => .skip)
def c4_7 : XC := fun _ => .seq c4_3 c4_6
def c4_8 : XC := fun _ => .region [] [xo 15 (.mv (xt 4)),
 xo 16 (.ia (xt 15) (xi 2) 1),
 xo 17 (.ld (xt 16) 1 false),
 xo 18 (.call 10 [(xt 17)]),
 xo 14 (.mv (xt 18)),
 xo 19 (.ext (xt 14) 0),
 xo 20 (.ext (xt 14) 1),
 xo 5 (.alloc [.slice none 0 0, .slice none 0 0]),
 xn (.sto (xt 5) (xt 19) 2),
 xo 6 (.mv (xt 20))] [0,2,4,5]
def c4_9 : XC := fun _ => .region [] [xo 21 (.mv (xt 4)),
 xo 22 (.ia (xt 21) (xi 0) 1),
 xo 23 (.ld (xt 22) 1 false),
 xo 24 (.call 11 [(xt 23)]),
 xo 25 (.mv (xt 4)),
 ⟨(some 26), .ia (xt 25) (xi 1) 1, none, [0, 1, 2, 3]⟩,
 ⟨(some 27), .ld (xt 26) 1 false, none, [0, 1, 2, 3]⟩,
 xo 28 (.call 11 [(xt 27)]),
 ⟨(some 29), .ld (xt 5) 2 true, none, [0, 1, 2, 3, 4, 5, 6, 7]⟩,
 xo 30 (.bld [.int .i64 0, .int .i64 0, .slice none 0 0, .slice none 0 0] [(0, 1, (xt 24)), (1, 1, (xt 28)), (2, 2, (xt 29))]),
 xo 7 (.alloc [.int .i64 0, .int .i64 0, .slice none 0 0, .slice none 0 0]),
 xn (.sto (xt 7) (xt 30) 4)] [0,2,7]
def c4_10 : XC := fun _ => .region [] [xo 31 (.ld (xt 7) 4 true),
 xo 32 (.call 12 [(xt 31)]),
 xo 33 (.mv (xt 0)),
 xo 34 (.bin .neq (xt 32) (xt 33))] [2,7,34]
def c4_11 : XC := fun _ => .region [] [xo 35 (.bld [.int .i64 0, .int .i64 0, .slice none 0 0, .slice none 0 0] []),
 xn (.sto (xt 2) (xt 35) 4),
 xo 3 (.mv (xb false))] [2,3]
def c4_12 : XC := fun _ => .seq c4_11 (fun _ => .ret)
def c4_13 : XC := fun _ => .cond (xt 34) c4_12 (fun _ => .skip)
def c4_14 : XC := fun _ => .seq c4_10 c4_13
def c4_15 : XC := fun _ => .region [] [xo 36 (.ld (xt 7) 4 true),
 xn (.sto (xt 2) (xt 36) 4),
 xo 3 (.mv (xb true))] [2,3]
def c4_16 : XC := fun _ => .seq c4_15 (fun _ => .ret)
def c4_17 : XC := fun _ => .seq c4_14 c4_16
def c4_18 : XC := fun _ => .seq c4_9 c4_17
def c4_19 : XC := fun _ => .seq c4_8 c4_18
def c4_20 : XC := fun _ => .seq c4_7 c4_19
def c4_21 : XC := fun _ => .seq c4_2 c4_20
def c4_22 : XC := fun _ => .seq c4_1 c4_21
def m_spec_ParseSnapshot : MCode := c4_22 ()
def h_spec_ParseSnapshot : Hints := [(0, [0,2], [], [], []), (1, [0,2,4], [], [], []), (2, [0,2,4,12], [], [], []), (3, [2,3], [], [], []), (4, [0,2,4,5], [], [], []), (5, [0,2,7], [[],[],[],[],[],[0,1,2,3],[0,1,2,3],[],[0,1,2,3,4,5,6,7]], [], []), (6, [2,7,34], [], [], []), (7, [2,3], [], [], []), (8, [2,3], [], [], [])]
def r_spec_ParseSnapshot : List RV := [.c 2 4 true, .t 3]
abbrev n_spec_ParseSnapshot : Nat := 4
theorem k_spec_ParseSnapshot : Known Pr mu n_spec_ParseSnapshot m_spec_ParseSnapshot r_spec_ParseSnapshot Go.Proofs.Tryd.f4.ntmps := .of h_spec_ParseSnapshot hm Go.Proofs.Tryd.func4
def c5_1 : XC := fun _ => .region [] [xo 2 (.alloc [.int .i64 0, .int .i64 0, .slice none 0 0, .slice none 0 0]),
 xo 3 (.mv (xb false))] [0,2]
def c5_2 : XC := fun _ => .region [] [xo 8 (.mv (xt 0)),
 xo 9 (.call 13 [(xt 8), (.const (.string ⟨#[44]⟩)), (xi 3)]),
 xo 4 (.mv (xt 9))] [0,2,4]
def c5_3 : XC := fun _ => .region [] [xo 10 (.mv (xt 4)),
 xo 11 (.len false (xt 10)),
 xo 12 (.bin .lss (xt 11) (xi 3))] [0,2,4,12]
def c5_4 : XC := fun _ => .region [] [xo 13 (.bld [.int .i64 0, .int .i64 0, .slice none 0 0, .slice none 0 0] []),
 xn (.sto (xt 2) (xt 13) 4),
 xo 3 (.mv (xb false))] [2,3]
def c5_5 : XC := fun _ => .seq c5_4 (fun _ => .ret)
def c5_6 : XC := fun _ => .cond (xt 12) c5_5 (fun _ => .skip)
def c5_7 : XC := fun _ => .seq c5_3 c5_6
def c5_8 : XC := fun _ => .region [] [xo 15 (.mv (xt 4)),
 xo 16 (.ia (xt 15) (xi 2) 1),
 xo 17 (.ld (xt 16) 1 false),
 xo 18 (.call 14 [(xt 17)]),
 xo 14 (.mv (xt 18)),
 xo 19 (.ext (xt 14) 0),
 xo 20 (.ext (xt 14) 1),
 xo 5 (.alloc [.slice none 0 0, .slice none 0 0]),
 xn (.sto (xt 5) (xt 19) 2),
 xo 6 (.mv (xt 20))] [0,2,4,5]
def c5_9 : XC := fun _ => .region [] [xo 21 (.mv (xt 4)),
 xo 22 (.ia (xt 21) (xi 0) 1),
 xo 23 (.ld (xt 22) 1 false),
 xo 24 (.call 15 [(xt 23)]),
 xo 25 (.mv (xt 4)),
 ⟨(some 26), .ia (xt 25) (xi 1) 1, none, [0, 1, 2, 3]⟩,
 ⟨(some 27), .ld (xt 26) 1 false, none, [0, 1, 2, 3]⟩,
 xo 28 (.call 15 [(xt 27)]),
 ⟨(some 29), .ld (xt 5) 2 true, none, [0, 1, 2, 3, 4, 5, 6, 7]⟩,
 xo 30 (.bld [.int .i64 0, .int .i64 0, .slice none 0 0, .slice none 0 0] [(0, 1, (xt 24)), (1, 1, (xt 28)), (2, 2, (xt 29))]),
 xo 7 (.alloc [.int .i64 0, .int .i64 0, .slice none 0 0, .slice none 0 0]),
 xn (.sto (xt 7) (xt 30) 4)] [0,2,7]
def c5_10 : XC := fun _ => .region [] [xo 31 (.ld (xt 7) 4 true),
 xo 32 (.call 16 [(xt 31)]),
 xo 33 (.mv (xt 0)),
 xo 34 (.bin .neq (xt 32) (xt 33))] [2,7,34]
def c5_11 : XC := fun _ => .region [] [xo 35 (.bld [.int .i64 0, .int .i64 0, .slice none 0 0, .slice none 0 0] []),
 xn (.sto (xt 2) (xt 35) 4),
 xo 3 (.mv (xb false))] [2,3]
def c5_12 : XC := fun _ => .seq c5_11 (fun _ => .ret)
def c5_13 : XC := fun _ => .cond (xt 34) c5_12 (fun _ => .skip)
def c5_14 : XC := fun _ => .seq c5_10 c5_13
def c5_15 : XC := fun _ => .region [] [xo 36 (.ld (xt 7) 4 true),
 xn (.sto (xt 2) (xt 36) 4),
 xo 3 (.mv (xb true))] [2,3]
def c5_16 : XC := fun _ => .seq c5_15 (fun _ => .ret)
def c5_17 : XC := fun _ => .seq c5_14 c5_16
def c5_18 : XC := fun _ => .seq c5_9 c5_17
def c5_19 : XC := fun _ => .seq c5_8 c5_18
def c5_20 : XC := fun _ => .seq c5_7 c5_19
def c5_21 : XC := fun _ => .seq c5_2 c5_20
def c5_22 : XC := fun _ => .seq c5_1 c5_21
def m_impl_ParseSnapshot : MCode := c5_22 ()
def h_impl_ParseSnapshot : Hints := [(0, [0,2], [], [], []), (1, [0,2,4], [], [], []), (2, [0,2,4,12], [], [], []), (3, [2,3], [], [], []), (4, [0,2,4,5], [], [], []), (5, [0,2,7], [[],[],[],[],[],[0,1,2,3],[0,1,2,3],[],[0,1,2,3,4,5,6,7]], [], []), (6, [2,7,34], [], [], []), (7, [2,3], [], [], []), (8, [2,3], [], [], [])]
def r_impl_ParseSnapshot : List RV := [.c 2 4 true, .t 3]
abbrev n_impl_ParseSnapshot : Nat := 5
theorem k_impl_ParseSnapshot : Known Pr mu n_impl_ParseSnapshot m_impl_ParseSnapshot r_impl_ParseSnapshot Go.Proofs.Tryd.f5.ntmps := .of h_impl_ParseSnapshot hm Go.Proofs.Tryd.func5
def c6_1 : XC := fun _ => .region [] [xo 2 (.box (xt 0)),
 xo 3 (.box (xt 1)),
 xo 4 (.mv (xb false))] [2,3]
def c6_2 : XC := fun _ => .region [] [xo 5 (.fa (xt 2) 0),
 xo 6 (.ld (xt 5) 1 false),
 xo 7 (.fa (xt 3) 0),
 xo 8 (.ld (xt 7) 1 false),
 xo 9 (.bin .neq (xt 6) (xt 8))] [2,3,9]
def c6_3 : XC := fun _ => .region [] [xo 4 (.mv (xb false))] [4]
def c6_4 : XC := fun _ => .seq c6_3 (fun _ => .ret)
def c6_5 : XC := fun _ => .cond (xt 9) c6_4 (fun _ => .skip)
def c6_6 : XC := fun _ => .seq c6_2 c6_5
def c6_7 : XC := fun _ => .region [] [xo 10 (.fa (xt 2) 1),
 xo 11 (.ld (xt 10) 1 false),
 xo 12 (.fa (xt 3) 1),
 xo 13 (.ld (xt 12) 1 false),
 xo 14 (.bin .neq (xt 11) (xt 13))] [2,3,14]
def c6_8 : XC := fun _ => .region [] [xo 4 (.mv (xb false))] [4]
def c6_9 : XC := fun _ => .seq c6_8 (fun _ => .ret)
def c6_10 : XC := fun _ => .cond (xt 14) c6_9 (fun _ => .skip)
def c6_11 : XC := fun _ => .seq c6_7 c6_10
def c6_12 : XC := fun _ => .region [] [xo 15 (.fa (xt 2) 2),
 xo 16 (.ld (xt 15) 2 true),
 xo 17 (.fa (xt 3) 2),
 xo 18 (.ld (xt 17) 2 true),
 xo 19 (.call 17 [(xt 16), (xt 18)]),
 xo 20 (.not (xt 19))] [20]
def c6_13 : XC := fun _ => .region [] [xo 4 (.mv (xb false))] [4]
def c6_14 : XC := fun _ => .seq c6_13 (fun _ => .ret)
def c6_15 : XC := fun _ => .cond (xt 20) c6_14 (fun _ => .skip)
def c6_16 : XC := fun _ => .seq c6_12 c6_15
def c6_17 : XC := fun _ => .region [] [xo 4 (.mv (xb true))] [4]
def c6_18 : XC := fun _ => .seq c6_17 (fun _ => .ret)
def c6_19 : XC := fun _ => .seq c6_16 c6_18
def c6_20 : XC := fun _ => .seq c6_11 c6_19
def c6_21 : XC := fun _ => .seq c6_6 c6_20
def c6_22 : XC := fun _ => .seq c6_1 c6_21
def m_laws_eqSnapshot : MCode := c6_22 ()
def h_laws_eqSnapshot : Hints := [(0, [2,3], [], [], []), (1, [2,3,9], [], [], []), (2, [4], [], [], []), (3, [2,3,14], [], [], []), (4, [4], [], [], []), (5, [20], [], [], []), (6, [4], [], [], []), (7, [4], [], [], [])]
def r_laws_eqSnapshot : List RV := [.t 4]
abbrev n_laws_eqSnapshot : Nat := 6
theorem k_laws_eqSnapshot : Known Pr mu n_laws_eqSnapshot m_laws_eqSnapshot r_laws_eqSnapshot Go.Proofs.Tryd.f6.ntmps := .of h_laws_eqSnapshot hm Go.Proofs.Tryd.func6
def c7_1 : XC := fun _ => .region [] [xo 2 (.box (xt 0)),
 xo 4 (.mv (xi 0))] [1,2]
def c7_2 : XC := fun _ => .region [] [xo 5 (.fa (xt 2) 2),
 xo 6 (.ld (xt 5) 2 true),
 xo 7 (.mv (xt 1)),
 xo 8 (.callm 18 [(xt 6), (xt 7)]),
 xo 1 (.mv (xt 8))] [1]
def c7_3 : XC := fun _ => .region [] [xo 9 (.mv (xt 1)),
 xo 4 (.mv (xt 9))] [4]
def c7_4 : XC := fun _ => .seq c7_3 (fun _ => .ret)
def c7_5 : XC := fun _ => .seq c7_2 c7_4
def c7_6 : XC := fun _ => .seq c7_1 c7_5
def m_laws_markSnapshot : MCode := c7_6 ()
def h_laws_markSnapshot : Hints := [(0, [1,2], [], [], []), (1, [1], [], [], []), (2, [4], [], [], [])]
def r_laws_markSnapshot : List RV := [.t 4]
abbrev n_laws_markSnapshot : Nat := 7
theorem k_laws_markSnapshot : Known Pr mu n_laws_markSnapshot m_laws_markSnapshot r_laws_markSnapshot Go.Proofs.Tryd.f7.ntmps := .of h_laws_markSnapshot hm Go.Proofs.Tryd.func7
def c8_1 : XC := fun _ => .region [] [xo 2 (.box (xt 0)),
 xo 4 (.mv (xi 0))] [1,2]
def c8_2 : XC := fun _ => .region [] [xo 5 (.fa (xt 2) 2),
 xo 6 (.ld (xt 5) 2 true),
 xo 7 (.mv (xt 1)),
 xo 8 (.call 19 [(xt 6), (xt 7)]),
 xo 1 (.mv (xt 8))] [1]
def c8_3 : XC := fun _ => .region [] [xo 9 (.mv (xt 1)),
 xo 10 (.bin .lss (xt 9) (xi 0))] [1,10]
def c8_4 : XC := fun _ => .region [] [xo 4 (.mv (xi (-1)))] [4]
def c8_5 : XC := fun _ => .seq c8_4 (fun _ => .ret)
def c8_6 : XC := fun _ => .cond (xt 10) c8_5 (fun _ => .skip)
def c8_7 : XC := fun _ => .seq c8_3 c8_6
def c8_8 : XC := fun _ => .region [] [xo 11 (.mv (xt 1)),
 xo 4 (.mv (xt 11))] [4]
def c8_9 : XC := fun _ => .seq c8_8 (fun _ => .ret)
def c8_10 : XC := fun _ => .seq c8_7 c8_9
def c8_11 : XC := fun _ => .seq c8_2 c8_10
def c8_12 : XC := fun _ => .seq c8_1 c8_11
def m_laws_heldSnapshot : MCode := c8_12 ()
def h_laws_heldSnapshot : Hints := [(0, [1,2], [], [], []), (1, [1], [], [], []), (2, [1,10], [], [], []), (3, [4], [], [], []), (4, [4], [], [], [])]
def r_laws_heldSnapshot : List RV := [.t 4]
abbrev n_laws_heldSnapshot : Nat := 8
theorem k_laws_heldSnapshot : Known Pr mu n_laws_heldSnapshot m_laws_heldSnapshot r_laws_heldSnapshot Go.Proofs.Tryd.f8.ntmps := .of h_laws_heldSnapshot hm Go.Proofs.Tryd.func8
def c9_1 : XC := fun _ => .region [] [xo 4 (.mv (.const (.slice none 0 0)))] [0,1]
def c9_2 : XC := fun _ => .region [] [xo 8 (.bsl 1 0 [.string ⟨#[]⟩] []),
 xo 5 (.mv (xt 8))] [0,1,5]
def c9_3 : XC := fun _ => .region [] [xo 6 (.mv (xi 0))] [0,1,5,6]
def c9_4 : XC := fun _ => .region [] [xo 7 (.mv (xi 0))] [0,1,5,6,7]
def c9_5 : XC := fun _ => .region [] [xo 9 (.mv (xt 7)),
 xo 10 (.mv (xt 0)),
 xo 11 (.len true (xt 10)),
 xo 12 (.bin .lss (xt 9) (xt 11))] [0,1,5,6,7,12]
def c9_6 : XC := fun _ => .cond (xt 12) (fun _ => .skip) (fun _ => .exit 0)
def c9_7 : XC := fun _ => .seq c9_5 c9_6
def c9_8 : XC := fun _ => .region [] [xo 15 (.mv (xt 0)),
 xo 16 (.mv (xt 7)),
 xo 17 (.sidx (xt 15) (xt 16)),
 xo 18 (.mv (xt 1)),
 xo 19 (.bin .eql (xt 17) (xt 18))] [0,1,5,6,7,19]
def c9_9 : XC := fun _ => .region [] [xo 20 (.mv (xt 5)),
 xo 21 (.mv (xt 0)),
 xo 22 (.mv (xt 6)),
 xo 23 (.mv (xt 7)),
 xo 24 (.slc true (xt 21) (some (xt 22)) (some (xt 23)) none 0),
 xo 25 (.bsl 1 1 [.string ⟨#[]⟩] [(0, (xt 24))]),
 xo 26 (.app (xt 20) (xt 25) 1 16),
 xo 5 (.mv (xt 26))] [0,1,5,7]
def c9_10 : XC := fun _ => .region [] [xo 27 (.mv (xt 7)),
 xo 28 (.bin .add (xt 27) (xi 1)),
 xo 6 (.mv (xt 28))] [0,1,5,6,7]
def c9_11 : XC := fun _ => .seq c9_9 c9_10
def c9_12 : XC := fun _ => .cond (xt 19) c9_11 (fun _ => .skip)
def c9_13 : XC := fun _ => .seq c9_8 c9_12
def c9_14 : XC := fun _ => .block 1 c9_13
def c9_15 : XC := fun _ => .region [] [xo 13 (.mv (xt 7)),
 xo 14 (.bin .add (xt 13) (xi 1)),
 xo 7 (.mv (xt 14))] [0,1,5,6,7]
def c9_16 : XC := fun _ => .seq c9_14 c9_15
def c9_17 : XC := fun _ => .seq c9_7 c9_16
def c9_18 : XC := fun _ => .loop c9_17
def c9_19 : XC := fun _ => .block 0 c9_18
def c9_20 : XC := fun _ => .seq c9_4 c9_19
def c9_21 : XC := fun _ => .region [] [xo 29 (.mv (xt 5)),
 xo 30 (.mv (xt 0)),
 xo 31 (.mv (xt 6)),
 xo 32 (.slc true (xt 30) (some (xt 31)) none none 0),
 xo 33 (.bsl 1 1 [.string ⟨#[]⟩] [(0, (xt 32))]),
 xo 34 (.app (xt 29) (xt 33) 1 16),
 xo 4 (.mv (xt 34))] [4]
def c9_22 : XC := fun _ => .seq c9_21 (fun _ => .ret)
def c9_23 : XC := fun _ => .seq c9_20 c9_22
def c9_24 : XC := fun _ => .seq c9_3 c9_23
def c9_25 : XC := fun _ => .seq c9_2 c9_24
def c9_26 : XC := fun _ => .seq c9_1 c9_25
def m_spec_l2Cut : MCode := c9_26 ()
def h_spec_l2Cut : Hints := [(0, [0,1], [], [], []), (1, [0,1,5], [], [], []), (2, [0,1,5,6], [], [], []), (3, [0,1,5,6,7], [], [], []), (4, [0,1,5,6,7,12], [], [], []), (6, [0,1,5,6,7,19], [], [], []), (7, [0,1,5,7], [], [], []), (8, [0,1,5,6,7], [], [], []), (5, [0,1,5,6,7], [], [], []), (9, [4], [], [], [])]
def r_spec_l2Cut : List RV := [.t 4]
abbrev n_spec_l2Cut : Nat := 9
theorem k_spec_l2Cut : Known Pr mu n_spec_l2Cut m_spec_l2Cut r_spec_l2Cut Go.Proofs.Tryd.f9.ntmps := .of h_spec_l2Cut hm Go.Proofs.Tryd.func9
def c10_1 : XC := fun _ => .region [] [xo 2 (.alloc [.slice none 0 0, .slice none 0 0]),
 xo 3 (.mv (xb false))] [0,2]
def c10_2 : XC := fun _ => .region [] [xo 9 (.mv (xt 0)),
 xo 10 (.call 9 [(xt 9), (.const (.int .u8 32))]),
 xo 4 (.mv (xt 10))] [0,2,4]
def c10_3 : XC := fun _ => .region [] [xo 11 (.bld [.slice none 0 0, .slice none 0 0] []),
 xo 5 (.alloc [.slice none 0 0, .slice none 0 0]),
 xn (.sto (xt 5) (xt 11) 2)] [0,2,4,5]
def c10_4 : XC := fun _ => .region [] [xo 6 (.mv (xi 0))] [0,2,4,5,6]
def c10_5 : XC := fun _ => .region [] [xo 12 (.mv (xt 6)),
 xo 13 (.mv (xt 4)),
 xo 14 (.ia (xt 13) (xi 0) 1),
 xo 15 (.ld (xt 14) 1 false),
 xo 16 (.len true (xt 15)),
 xo 17 (.bin .lss (xt 12) (xt 16)),
 xo 18 (.mv (xt 17)),
 ⟨(some 19), .mv (xt 6), (some (18, true)), []⟩,
 ⟨(some 20), .bin .lss (xt 19) (xi 9), (some (18, true)), []⟩,
 xo 21 (.pick (xt 18) (xt 20) (xb false))] [0,2,4,5,6,21]
def c10_6 : XC := fun _ => .cond (xt 21) (fun _ => .skip) (fun _ => .exit 0)
def c10_7 : XC := fun _ => .seq c10_5 c10_6
def c10_8 : XC := fun _ => .region [] [xo 24 (.fa (xt 5) 0),
 xo 25 (.ld (xt 24) 1 false),
 xo 26 (.mv (xt 4)),
 ⟨(some 27), .ia (xt 26) (xi 0) 1, none, [0, 1]⟩,
 ⟨(some 28), .ld (xt 27) 1 false, none, [0, 1]⟩,
 xo 29 (.mv (xt 6)),
 xo 30 (.sidx (xt 28) (xt 29)),
 ⟨(some 31), .conv .i64 (xt 30), none, [0, 1]⟩,
 xo 32 (.bin .sub (xt 31) (xi 48)),
 xo 33 (.bsl 1 1 [.int .i64 0] [(0, (xt 32))]),
 xo 34 (.app (xt 25) (xt 33) 1 8),
 xo 35 (.fa (xt 5) 0),
 xn (.sto (xt 35) (xt 34) 1)] [0,2,4,5,6]
def c10_9 : XC := fun _ => .block 1 c10_8
def c10_10 : XC := fun _ => .region [] [xo 22 (.mv (xt 6)),
 xo 23 (.bin .add (xt 22) (xi 1)),
 xo 6 (.mv (xt 23))] [0,2,4,5,6]
def c10_11 : XC := fun _ => .seq c10_9 c10_10
def c10_12 : XC := fun _ => .seq c10_7 c10_11
def c10_13 : XC := fun _ => .loop c10_12
def c10_14 : XC := fun _ => .block 0 c10_13
def c10_15 : XC := fun _ => .seq c10_4 c10_14
def c10_16 : XC := fun _ => .region [] [xo 7 (.mv (xi 1))] [0,2,4,5,7]
def c10_17 : XC := fun _ => .region [] [xo 36 (.mv (xt 7)),
 xo 37 (.mv (xt 4)),
 xo 38 (.len false (xt 37)),
 xo 39 (.bin .lss (xt 36) (xt 38)),
 xo 40 (.mv (xt 39)),
 ⟨(some 41), .mv (xt 7), (some (40, true)), []⟩,
 ⟨(some 42), .bin .lss (xt 41) (xi 9), (some (40, true)), []⟩,
 xo 43 (.pick (xt 40) (xt 42) (xb false))] [0,2,4,5,7,43]
def c10_18 : XC := fun _ => .cond (xt 43) (fun _ => .skip) (fun _ => .exit 2)
def c10_19 : XC := fun _ => .seq c10_17 c10_18
def c10_20 : XC := fun _ => .region [] [xo 46 (.mv (xt 4)),
 xo 47 (.mv (xt 7)),
 xo 48 (.ia (xt 46) (xt 47) 1),
 xo 49 (.ld (xt 48) 1 false),
 xo 50 (.call 20 [(xt 49)]),
 xo 8 (.alloc [.int .i64 0, .int .i64 0, .bool false, .int .i64 0]),
 xn (.sto (xt 8) (xt 50) 4)] [0,2,4,5,7,8]
def c10_21 : XC := fun _ => .region [] [xo 51 (.fa (xt 5) 1),
 xo 52 (.ld (xt 51) 1 false),
 xo 53 (.ld (xt 8) 4 true),
 xo 54 (.bsl 4 1 [.int .i64 0, .int .i64 0, .bool false, .int .i64 0] [(0, (xt 53))]),
 xo 55 (.app (xt 52) (xt 54) 4 32),
 xo 56 (.fa (xt 5) 1),
 xn (.sto (xt 56) (xt 55) 1)] [0,2,4,5,7]
def c10_22 : XC := fun _ => .seq c10_20 c10_21
def c10_23 : XC := fun _ => .block 3 c10_22
def c10_24 : XC := fun _ => .region [] [xo 44 (.mv (xt 7)),
 xo 45 (.bin .add (xt 44) (xi 1)),
 xo 7 (.mv (xt 45))] [0,2,4,5,7]
def c10_25 : XC := fun _ => .seq c10_23 c10_24
def c10_26 : XC := fun _ => .seq c10_19 c10_25
def c10_27 : XC := fun _ => .loop c10_26
def c10_28 : XC := fun _ => .block 2 c10_27
def c10_29 : XC := fun _ => .seq c10_16 c10_28
def c10_30 : XC := fun _ => .region [] [xo 57 (.mv (xt 0)),
 xo 58 (.bin .eql (xt 57) (.const (.string ⟨#[]⟩))),
 xo 59 (.mv (xt 58)),
 ⟨(some 60), .ld (xt 5) 2 true, (some (59, false)), []⟩,
 ⟨(some 61), .call 21 [(xt 60)], (some (59, false)), []⟩,
 ⟨(some 62), .mv (xt 0), (some (59, false)), []⟩,
 ⟨(some 63), .bin .neq (xt 61) (xt 62), (some (59, false)), []⟩,
 xo 64 (.pick (xt 59) (xb true) (xt 63))] [2,5,64]
def c10_31 : XC := fun _ => .region [] [xo 65 (.bld [.slice none 0 0, .slice none 0 0] []),
 xn (.sto (xt 2) (xt 65) 2),
 xo 3 (.mv (xb false))] [2,3]
def c10_32 : XC := fun _ => .seq c10_31 (fun _ => .ret)
def c10_33 : XC := fun _ => .cond (xt 64) c10_32 (fun _ => .skip)
def c10_34 : XC := fun _ => .seq c10_30 c10_33
def c10_35 : XC := fun _ => .region [] [xo 66 (.ld (xt 5) 2 true),
 xn (.sto (xt 2) (xt 66) 2),
 xo 3 (.mv (xb true))] [2,3]
def c10_36 : XC := fun _ => .seq c10_35 (fun _ => .ret)
def c10_37 : XC := fun _ => .seq c10_34 c10_36
def c10_38 : XC := fun _ => .seq c10_29 c10_37
def c10_39 : XC := fun _ => .seq c10_15 c10_38
def c10_40 : XC := fun _ => .seq c10_3 c10_39
def c10_41 : XC := fun _ => .seq c10_2 c10_40
def c10_42 : XC := fun _ => .seq c10_1 c10_41
def m_spec_ParseMachine : MCode := c10_42 ()
def h_spec_ParseMachine : Hints := [(0, [0,2], [], [], []), (1, [0,2,4], [], [], []), (2, [0,2,4,5], [], [], []), (3, [0,2,4,5,6], [], [], []), (4, [0,2,4,5,6,21], [], [], []), (6, [0,2,4,5,6], [[],[],[],[0,1],[0,1],[],[],[0,1]], [], []), (5, [0,2,4,5,6], [], [], []), (7, [0,2,4,5,7], [], [], []), (8, [0,2,4,5,7,43], [], [], []), (10, [0,2,4,5,7,8], [], [], []), (11, [0,2,4,5,7], [], [], []), (9, [0,2,4,5,7], [], [], []), (12, [2,5,64], [], [], []), (13, [2,3], [], [], []), (14, [2,3], [], [], [])]
def r_spec_ParseMachine : List RV := [.c 2 2 true, .t 3]
abbrev n_spec_ParseMachine : Nat := 10
theorem k_spec_ParseMachine : Known Pr mu n_spec_ParseMachine m_spec_ParseMachine r_spec_ParseMachine Go.Proofs.Tryd.f10.ntmps := .of h_spec_ParseMachine hm Go.Proofs.Tryd.func10
def c11_1 : XC := fun _ => .region [] [xo 2 (.mv (xi 0))] [0]
def c11_2 : XC := fun _ => .region [] [xo 6 (.mv (xt 0)),
 xo 7 (.call 22 [(xt 6)]),
 xo 5 (.mv (xt 7)),
 xo 8 (.ext (xt 5) 0),
 xo 9 (.ext (xt 5) 1),
 xo 3 (.mv (xt 8)),
 xo 4 (.mv (xt 9))] [3,4]
def c11_3 : XC := fun _ => .region [] [xo 10 (.mv (xt 4)),
 xo 11 (.not (xt 10)),
 xo 12 (.mv (xt 11)),
 ⟨(some 13), .mv (xt 3), (some (12, false)), []⟩,
 ⟨(some 14), .bin .lss (xt 13) (xi 0), (some (12, false)), []⟩,
 xo 15 (.pick (xt 12) (xb true) (xt 14))] [3,15]
def c11_4 : XC := fun _ => .region [] [xo 2 (.mv (xi (-1)))] [2]
def c11_5 : XC := fun _ => .seq c11_4 (fun _ => .ret)
def c11_6 : XC := fun _ => .cond (xt 15) c11_5 (fun _ => .skip)
def c11_7 : XC := fun _ => .seq c11_3 c11_6
def c11_8 : XC := fun _ => .region [] [xo 16 (.mv (xt 3)),
 xo 2 (.mv (xt 16))] [2]
def c11_9 : XC := fun _ => .seq c11_8 (fun _ => .ret)
def c11_10 : XC := fun _ => .seq c11_7 c11_9
def c11_11 : XC := fun _ => .seq c11_2 c11_10
def c11_12 : XC := fun _ => .seq c11_1 c11_11
def m_spec_l3Num : MCode := c11_12 ()
def h_spec_l3Num : Hints := [(0, [0], [], [], []), (1, [3,4], [], [], []), (2, [3,15], [], [], []), (3, [2], [], [], []), (4, [2], [], [], [])]
def r_spec_l3Num : List RV := [.t 2]
abbrev n_spec_l3Num : Nat := 11
theorem k_spec_l3Num : Known Pr mu n_spec_l3Num m_spec_l3Num r_spec_l3Num Go.Proofs.Tryd.f11.ntmps := .of h_spec_l3Num hm Go.Proofs.Tryd.func11
def c12_1 : XC := fun _ => .region [] [xo 1 (.box (xt 0)),
 xo 2 (.mv (.const (.string ⟨#[]⟩)))] [1]
def c12_2 : XC := fun _ => .region [] [xo 3 (.ld (xt 1) 4 true),
 xo 4 (.call 23 [(xt 3)]),
 xo 5 (.not (xt 4))] [1,5]
def c12_3 : XC := fun _ => .region [] [xo 2 (.mv (.const (.string ⟨#[]⟩)))] [2]
def c12_4 : XC := fun _ => .seq c12_3 (fun _ => .ret)
def c12_5 : XC := fun _ => .cond (xt 5) c12_4 (fun _ => .skip)
def c12_6 : XC := fun _ => .seq c12_2 c12_5
def c12_7 : XC := fun _ => .region [] [xo 6 (.fa (xt 1) 0),
 xo 7 (.ld (xt 6) 1 false),
 xo 8 (.call 24 [(xt 7)]),
 xo 9 (.bin .add (xt 8) (.const (.string ⟨#[44]⟩))),
 ⟨(some 10), .fa (xt 1) 1, none, [0, 1, 2, 3]⟩,
 ⟨(some 11), .ld (xt 10) 1 false, none, [0, 1, 2, 3]⟩,
 ⟨(some 12), .call 24 [(xt 11)], none, [3]⟩,
 xo 13 (.bin .add (xt 9) (xt 12)),
 xo 14 (.bin .add (xt 13) (.const (.string ⟨#[44]⟩))),
 ⟨(some 15), .fa (xt 1) 2, none, [0, 1, 2, 3, 4, 5, 6, 7, 8]⟩,
 ⟨(some 16), .ld (xt 15) 2 true, none, [0, 1, 2, 3, 4, 5, 6, 7, 8]⟩,
 ⟨(some 17), .call 21 [(xt 16)], none, [3, 7, 8]⟩,
 xo 18 (.bin .add (xt 14) (xt 17)),
 xo 2 (.mv (xt 18))] [2]
def c12_8 : XC := fun _ => .seq c12_7 (fun _ => .ret)
def c12_9 : XC := fun _ => .seq c12_6 c12_8
def c12_10 : XC := fun _ => .seq c12_1 c12_9
def m_spec_SnapshotText : MCode := c12_10 ()
def h_spec_SnapshotText : Hints := [(0, [1], [], [], []), (1, [1,5], [], [], []), (2, [2], [], [], []), (3, [2], [[],[],[],[],[0,1,2,3],[0,1,2,3],[3],[],[],[0,1,2,3,4,5,6,7,8],[0,1,2,3,4,5,6,7,8],[3,7,8]], [], [])]
def r_spec_SnapshotText : List RV := [.t 2]
abbrev n_spec_SnapshotText : Nat := 12
theorem k_spec_SnapshotText : Known Pr mu n_spec_SnapshotText m_spec_SnapshotText r_spec_SnapshotText Go.Proofs.Tryd.f12.ntmps := .of h_spec_SnapshotText hm Go.Proofs.Tryd.func12
def c13_1 : XC := fun _ => .region [] [xo 6 (.mv (.const (.slice none 0 0)))] [0,1,2]
def c13_2 : XC := fun _ => .region [] [xo 7 (.mv (xt 0)),
 xo 8 (.mv (xt 1)),
 xo 9 (.mv (xt 2)),
 xo 10 (.call 25 [(xt 7), (xt 8), (xi 0), (xt 9)]),
 xo 6 (.mv (xt 10))] [6]
def c13_3 : XC := fun _ => .seq c13_2 (fun _ => .ret)
def c13_4 : XC := fun _ => .seq c13_1 c13_3
def m_strings_SplitN : MCode := c13_4 ()
def h_strings_SplitN : Hints := [(0, [0,1,2], [], [], []), (1, [6], [], [], [])]
def r_strings_SplitN : List RV := [.t 6]
abbrev n_strings_SplitN : Nat := 13
theorem k_strings_SplitN : Known Pr mu n_strings_SplitN m_strings_SplitN r_strings_SplitN Go.Proofs.Tryd.f13.ntmps := .of h_strings_SplitN hm Go.Proofs.Tryd.func13
def c14_1 : XC := fun _ => .region [] [xo 2 (.alloc [.slice none 0 0, .slice none 0 0]),
 xo 3 (.mv (xb false))] [0,2]
def c14_2 : XC := fun _ => .region [] [xo 13 (.mv (xt 0)),
 xo 14 (.call 26 [(xt 13), (.const (.string ⟨#[32]⟩))]),
 xo 15 (.bld [.slice none 0 0, .slice none 0 0] []),
 xo 5 (.alloc [.slice none 0 0, .slice none 0 0]),
 xo 4 (.mv (xt 14)),
 xn (.sto (xt 5) (xt 15) 2)] [0,2,4,5]
def c14_3 : XC := fun _ => .region [] [xo 16 (.mv (xt 4)),
 xo 17 (.ia (xt 16) (xi 0) 1),
 xo 18 (.ld (xt 17) 1 false),
 xo 19 (.len true (xt 18)),
 xo 20 (.mv (xi 0))] [0,2,4,5,19,20]
def c14_4 : XC := fun _ => .region [] [xo 21 (.bin .lss (xt 20) (xt 19))] [0,2,4,5,19,20,21]
def c14_5 : XC := fun _ => .cond (xt 21) (fun _ => .skip) (fun _ => .exit 0)
def c14_6 : XC := fun _ => .region [] [xo 22 (.mv (xt 20)),
 xo 6 (.mv (xt 22))] [0,2,4,5,6,19,20]
def c14_7 : XC := fun _ => .region [] [xo 23 (.fa (xt 5) 0),
 xo 24 (.ld (xt 23) 1 false),
 xo 25 (.mv (xt 4)),
 ⟨(some 26), .ia (xt 25) (xi 0) 1, none, [0, 1]⟩,
 ⟨(some 27), .ld (xt 26) 1 false, none, [0, 1]⟩,
 xo 28 (.mv (xt 6)),
 xo 29 (.sidx (xt 27) (xt 28)),
 ⟨(some 30), .conv .i64 (xt 29), none, [0, 1]⟩,
 xo 31 (.bin .sub (xt 30) (xi 48)),
 xo 32 (.bsl 1 1 [.int .i64 0] [(0, (xt 31))]),
 xo 33 (.app (xt 24) (xt 32) 1 8),
 xo 34 (.fa (xt 5) 0),
 xn (.sto (xt 34) (xt 33) 1)] [0,2,4,5,19,20]
def c14_8 : XC := fun _ => .seq c14_6 c14_7
def c14_9 : XC := fun _ => .block 1 c14_8
def c14_10 : XC := fun _ => .region [] [xo 35 (.bin .add (xt 20) (xi 1)),
 xo 20 (.mv (xt 35))] [0,2,4,5,19,20]
def c14_11 : XC := fun _ => .seq c14_9 c14_10
def c14_12 : XC := fun _ => .seq c14_5 c14_11
def c14_13 : XC := fun _ => .seq c14_4 c14_12
def c14_14 : XC := fun _ => .loop c14_13
def c14_15 : XC := fun _ => .block 0 c14_14
def c14_16 : XC := fun _ => .seq c14_3 c14_15
def c14_17 : XC := fun _ => .region [] [xo 36 (.mv (xt 4)),
 xo 37 (.slc false (xt 36) (some (xi 1)) none none 1),
 xo 38 (.len false (xt 37)),
 xo 39 (.mv (xi 0))] [0,2,5,37,38,39]
def c14_18 : XC := fun _ => .region [] [xo 40 (.bin .lss (xt 39) (xt 38))] [0,2,5,37,38,39,40]
def c14_19 : XC := fun _ => .cond (xt 40) (fun _ => .skip) (fun _ => .exit 2)
def c14_20 : XC := fun _ => .region [] [xo 41 (.ia (xt 37) (xt 39) 1),
 xo 42 (.ld (xt 41) 1 false),
 xo 8 (.mv (xt 42))] [0,2,5,8,37,38,39]
def c14_21 : XC := fun _ => .region [] [xo 44 (.mv (xt 8)),
 xo 45 (.call 27 [(xt 44), (.const (.string ⟨#[46]⟩))]),
 xo 43 (.mv (xt 45)),
 xo 46 (.ext (xt 43) 0),
 xo 47 (.ext (xt 43) 1),
 xo 48 (.ext (xt 43) 2),
 xo 9 (.mv (xt 46)),
 xo 10 (.mv (xt 47)),
 xo 11 (.mv (xt 48))] [0,2,5,9,10,37,38,39]
def c14_22 : XC := fun _ => .region [] [xo 49 (.mv (xt 10)),
 xo 50 (.call 28 [(xt 49), (.const (.string ⟨#[43, 45]⟩))]),
 xo 12 (.mv (xt 50))] [0,2,5,9,10,12,37,38,39]
def c14_23 : XC := fun _ => .region [] [xo 51 (.mv (xt 12)),
 xo 52 (.bin .lss (xt 51) (xi 0))] [0,2,5,9,10,12,37,38,39,52]
def c14_24 : XC := fun _ => .region [] [xo 53 (.bld [.slice none 0 0, .slice none 0 0] []),
 xn (.sto (xt 2) (xt 53) 2),
 xo 3 (.mv (xb false))] [2,3]
def c14_25 : XC := fun _ => .seq c14_24 (fun _ => .ret)
def c14_26 : XC := fun _ => .cond (xt 52) c14_25 (fun _ => .skip)
def c14_27 : XC := fun _ => .seq c14_23 c14_26
def c14_28 : XC := fun _ => .region [] [xo 54 (.fa (xt 5) 1),
 xo 55 (.ld (xt 54) 1 false),
 xo 56 (.mv (xt 9)),
 ⟨(some 57), .call 15 [(xt 56)], none, [0, 1]⟩,
 xo 58 (.mv (xt 10)),
 xo 59 (.mv (xt 12)),
 ⟨(some 60), .slc true (xt 58) none (some (xt 59)) none 0, none, [0, 1, 2, 3]⟩,
 ⟨(some 61), .call 15 [(xt 60)], none, [0, 1]⟩,
 xo 62 (.mv (xt 10)),
 xo 63 (.mv (xt 12)),
 xo 64 (.sidx (xt 62) (xt 63)),
 xo 65 (.bin .eql (xt 64) (.const (.int .u8 43))),
 xo 66 (.mv (xt 10)),
 xo 67 (.mv (xt 12)),
 xo 68 (.bin .add (xt 67) (xi 1)),
 ⟨(some 69), .slc true (xt 66) (some (xt 68)) none none 0, none, [0, 1, 2, 3, 4, 5, 6, 7, 8, 9, 10, 11]⟩,
 ⟨(some 70), .call 15 [(xt 69)], none, [0, 1, 8, 9, 10, 11]⟩,
 xo 71 (.bld [.bool false, .int .i64 0] [(0, 1, (xt 65)), (1, 1, (xt 70))]),
 xo 72 (.bld [.int .i64 0, .int .i64 0, .bool false, .int .i64 0] [(0, 1, (xt 57)), (1, 1, (xt 61)), (2, 2, (xt 71))]),
 xo 73 (.bsl 4 1 [.int .i64 0, .int .i64 0, .bool false, .int .i64 0] [(0, (xt 72))]),
 xo 74 (.app (xt 55) (xt 73) 4 32),
 xo 75 (.fa (xt 5) 1),
 xn (.sto (xt 75) (xt 74) 1)] [0,2,5,37,38,39]
def c14_29 : XC := fun _ => .seq c14_27 c14_28
def c14_30 : XC := fun _ => .seq c14_22 c14_29
def c14_31 : XC := fun _ => .seq c14_21 c14_30
def c14_32 : XC := fun _ => .seq c14_20 c14_31
def c14_33 : XC := fun _ => .block 3 c14_32
def c14_34 : XC := fun _ => .region [] [xo 76 (.bin .add (xt 39) (xi 1)),
 xo 39 (.mv (xt 76))] [0,2,5,37,38,39]
def c14_35 : XC := fun _ => .seq c14_33 c14_34
def c14_36 : XC := fun _ => .seq c14_19 c14_35
def c14_37 : XC := fun _ => .seq c14_18 c14_36
def c14_38 : XC := fun _ => .loop c14_37
def c14_39 : XC := fun _ => .block 2 c14_38
def c14_40 : XC := fun _ => .seq c14_17 c14_39
def c14_41 : XC := fun _ => .region [] [xo 77 (.mv (xt 0)),
 xo 78 (.bin .eql (xt 77) (.const (.string ⟨#[]⟩))),
 xo 79 (.mv (xt 78)),
 ⟨(some 80), .ld (xt 5) 2 true, (some (79, false)), []⟩,
 ⟨(some 81), .call 29 [(xt 80)], (some (79, false)), []⟩,
 ⟨(some 82), .mv (xt 0), (some (79, false)), []⟩,
 ⟨(some 83), .bin .neq (xt 81) (xt 82), (some (79, false)), []⟩,
 xo 84 (.pick (xt 79) (xb true) (xt 83))] [2,5,84]
def c14_42 : XC := fun _ => .region [] [xo 85 (.bld [.slice none 0 0, .slice none 0 0] []),
 xn (.sto (xt 2) (xt 85) 2),
 xo 3 (.mv (xb false))] [2,3]
def c14_43 : XC := fun _ => .seq c14_42 (fun _ => .ret)
def c14_44 : XC := fun _ => .cond (xt 84) c14_43 (fun _ => .skip)
def c14_45 : XC := fun _ => .seq c14_41 c14_44
def c14_46 : XC := fun _ => .region [] [xo 86 (.ld (xt 5) 2 true),
 xn (.sto (xt 2) (xt 86) 2),
 xo 3 (.mv (xb true))] [2,3]
def c14_47 : XC := fun _ => .seq c14_46 (fun _ => .ret)
def c14_48 : XC := fun _ => .seq c14_45 c14_47
def c14_49 : XC := fun _ => .seq c14_40 c14_48
def c14_50 : XC := fun _ => .seq c14_16 c14_49
def c14_51 : XC := fun _ => .seq c14_2 c14_50
def c14_52 : XC := fun _ => .seq c14_1 c14_51
def m_impl_ParseMachine : MCode := c14_52 ()
def h_impl_ParseMachine : Hints := [(0, [0,2], [], [], []), (1, [0,2,4,5], [], [], []), (2, [0,2,4,5,19,20], [], [], []), (3, [0,2,4,5,19,20,21], [], [], []), (4, [0,2,4,5,6,19,20], [], [], []), (5, [0,2,4,5,19,20], [[],[],[],[0,1],[0,1],[],[],[0,1]], [], []), (6, [0,2,4,5,19,20], [], [], []), (7, [0,2,5,37,38,39], [], [], []), (8, [0,2,5,37,38,39,40], [], [], []), (9, [0,2,5,8,37,38,39], [], [], []), (10, [0,2,5,9,10,37,38,39], [], [], []), (11, [0,2,5,9,10,12,37,38,39], [], [], []), (12, [0,2,5,9,10,12,37,38,39,52], [], [], []), (13, [2,3], [], [], []), (14, [0,2,5,37,38,39], [[],[],[],[0,1],[],[],[0,1,2,3],[0,1],[],[],[],[],[],[],[],[0,1,2,3,4,5,6,7,8,9,10,11],[0,1,8,9,10,11]], [], []), (15, [0,2,5,37,38,39], [], [], []), (16, [2,5,84], [], [], []), (17, [2,3], [], [], []), (18, [2,3], [], [], [])]
def r_impl_ParseMachine : List RV := [.c 2 2 true, .t 3]
abbrev n_impl_ParseMachine : Nat := 14
theorem k_impl_ParseMachine : Known Pr mu n_impl_ParseMachine m_impl_ParseMachine r_impl_ParseMachine Go.Proofs.Tryd.f14.ntmps := .of h_impl_ParseMachine hm Go.Proofs.Tryd.func14
def c15_1 : XC := fun _ => .region [] [xo 2 (.mv (xi 0))] [0]
def c15_2 : XC := fun _ => .region [] [xo 6 (.mv (xt 0)),
 xo 7 (.call 30 [(xt 6)]),
 xo 5 (.mv (xt 7)),
 xo 8 (.ext (xt 5) 0),
 xo 9 (.ext (xt 5) 1),
 xo 3 (.mv (xt 8)),
 xo 4 (.mv (xt 9))] [3,4]
def c15_3 : XC := fun _ => .region [] [xo 10 (.mv (xt 4)),
 xo 11 (.not (xt 10))] [3,11]
def c15_4 : XC := fun _ => .region [] [xo 2 (.mv (xi (-1)))] [2]
def c15_5 : XC := fun _ => .seq c15_4 (fun _ => .ret)
def c15_6 : XC := fun _ => .cond (xt 11) c15_5 (fun _ => .skip)
def c15_7 : XC := fun _ => .seq c15_3 c15_6
def c15_8 : XC := fun _ => .region [] [xo 12 (.mv (xt 3)),
 xo 2 (.mv (xt 12))] [2]
def c15_9 : XC := fun _ => .seq c15_8 (fun _ => .ret)
def c15_10 : XC := fun _ => .seq c15_7 c15_9
def c15_11 : XC := fun _ => .seq c15_2 c15_10
def c15_12 : XC := fun _ => .seq c15_1 c15_11
def m_impl_number : MCode := c15_12 ()
def h_impl_number : Hints := [(0, [0], [], [], []), (1, [3,4], [], [], []), (2, [3,11], [], [], []), (3, [2], [], [], []), (4, [2], [], [], [])]
def r_impl_number : List RV := [.t 2]
abbrev n_impl_number : Nat := 15
theorem k_impl_number : Known Pr mu n_impl_number m_impl_number r_impl_number Go.Proofs.Tryd.f15.ntmps := .of h_impl_number hm Go.Proofs.Tryd.func15
def c16_1 : XC := fun _ => .region [] [xo 1 (.box (xt 0)),
 xo 2 (.mv (.const (.string ⟨#[]⟩)))] [1]
def c16_2 : XC := fun _ => .region [] [xo 3 (.fa (xt 1) 0),
 xo 4 (.ld (xt 3) 1 false),
 xo 5 (.call 31 [(xt 4), (xi 0), (xi 16)]),
 xo 6 (.not (xt 5)),
 xo 7 (.mv (xt 6)),
 ⟨(some 8), .fa (xt 1) 1, (some (7, false)), []⟩,
 ⟨(some 9), .ld (xt 8) 1 false, (some (7, false)), []⟩,
 ⟨(some 10), .call 31 [(xt 9), (xi 0), (xi 9972)], (some (7, false)), []⟩,
 ⟨(some 11), .not (xt 10), (some (7, false)), []⟩,
 xo 12 (.pick (xt 7) (xb true) (xt 11)),
 xo 13 (.mv (xt 12)),
 ⟨(some 14), .fa (xt 1) 2, (some (13, false)), []⟩,
 ⟨(some 15), .ld (xt 14) 2 true, (some (13, false)), []⟩,
 ⟨(some 16), .call 32 [(xt 15)], (some (13, false)), []⟩,
 ⟨(some 17), .not (xt 16), (some (13, false)), []⟩,
 xo 18 (.pick (xt 13) (xb true) (xt 17))] [1,18]
def c16_3 : XC := fun _ => .region [] [xo 2 (.mv (.const (.string ⟨#[]⟩)))] [2]
def c16_4 : XC := fun _ => .seq c16_3 (fun _ => .ret)
def c16_5 : XC := fun _ => .cond (xt 18) c16_4 (fun _ => .skip)
def c16_6 : XC := fun _ => .seq c16_2 c16_5
def c16_7 : XC := fun _ => .region [] [xo 19 (.fa (xt 1) 0),
 xo 20 (.ld (xt 19) 1 false),
 xo 21 (.call 33 [(xt 20)]),
 xo 22 (.bin .add (xt 21) (.const (.string ⟨#[44]⟩))),
 ⟨(some 23), .fa (xt 1) 1, none, [0, 1, 2, 3]⟩,
 ⟨(some 24), .ld (xt 23) 1 false, none, [0, 1, 2, 3]⟩,
 ⟨(some 25), .call 33 [(xt 24)], none, [3]⟩,
 xo 26 (.bin .add (xt 22) (xt 25)),
 xo 27 (.bin .add (xt 26) (.const (.string ⟨#[44]⟩))),
 ⟨(some 28), .fa (xt 1) 2, none, [0, 1, 2, 3, 4, 5, 6, 7, 8]⟩,
 ⟨(some 29), .ld (xt 28) 2 true, none, [0, 1, 2, 3, 4, 5, 6, 7, 8]⟩,
 ⟨(some 30), .call 29 [(xt 29)], none, [3, 7, 8]⟩,
 xo 31 (.bin .add (xt 27) (xt 30)),
 xo 2 (.mv (xt 31))] [2]
def c16_8 : XC := fun _ => .seq c16_7 (fun _ => .ret)
def c16_9 : XC := fun _ => .seq c16_6 c16_8
def c16_10 : XC := fun _ => .seq c16_1 c16_9
def m_impl_SnapshotText : MCode := c16_10 ()
def h_impl_SnapshotText : Hints := [(0, [1], [], [], []), (1, [1,18], [], [], []), (2, [2], [], [], []), (3, [2], [[],[],[],[],[0,1,2,3],[0,1,2,3],[3],[],[],[0,1,2,3,4,5,6,7,8],[0,1,2,3,4,5,6,7,8],[3,7,8]], [], [])]
def r_impl_SnapshotText : List RV := [.t 2]
abbrev n_impl_SnapshotText : Nat := 16
theorem k_impl_SnapshotText : Known Pr mu n_impl_SnapshotText m_impl_SnapshotText r_impl_SnapshotText Go.Proofs.Tryd.f16.ntmps := .of h_impl_SnapshotText hm Go.Proofs.Tryd.func16
def c17_1 : XC := fun _ => .region [] [xo 2 (.box (xt 0)),
 xo 3 (.box (xt 1)),
 xo 4 (.mv (xb false))] [2,3]
def c17_2 : XC := fun _ => .region [] [xo 5 (.fa (xt 2) 0),
 xo 6 (.ld (xt 5) 1 false),
 xo 7 (.fa (xt 3) 0),
 xo 8 (.ld (xt 7) 1 false),
 xo 9 (.call 34 [(xt 6), (xt 8)]),
 xo 10 (.not (xt 9))] [2,3,10]
def c17_3 : XC := fun _ => .region [] [xo 4 (.mv (xb false))] [4]
def c17_4 : XC := fun _ => .seq c17_3 (fun _ => .ret)
def c17_5 : XC := fun _ => .cond (xt 10) c17_4 (fun _ => .skip)
def c17_6 : XC := fun _ => .seq c17_2 c17_5
def c17_7 : XC := fun _ => .region [] [xo 11 (.fa (xt 2) 1),
 xo 12 (.ld (xt 11) 1 false),
 xo 13 (.fa (xt 3) 1),
 xo 14 (.ld (xt 13) 1 false),
 xo 15 (.call 35 [(xt 12), (xt 14)]),
 xo 16 (.not (xt 15))] [16]
def c17_8 : XC := fun _ => .region [] [xo 4 (.mv (xb false))] [4]
def c17_9 : XC := fun _ => .seq c17_8 (fun _ => .ret)
def c17_10 : XC := fun _ => .cond (xt 16) c17_9 (fun _ => .skip)
def c17_11 : XC := fun _ => .seq c17_7 c17_10
def c17_12 : XC := fun _ => .region [] [xo 4 (.mv (xb true))] [4]
def c17_13 : XC := fun _ => .seq c17_12 (fun _ => .ret)
def c17_14 : XC := fun _ => .seq c17_11 c17_13
def c17_15 : XC := fun _ => .seq c17_6 c17_14
def c17_16 : XC := fun _ => .seq c17_1 c17_15
def m_laws_eqMachine : MCode := c17_16 ()
def h_laws_eqMachine : Hints := [(0, [2,3], [], [], []), (1, [2,3,10], [], [], []), (2, [4], [], [], []), (3, [16], [], [], []), (4, [4], [], [], []), (5, [4], [], [], [])]
def r_laws_eqMachine : List RV := [.t 4]
abbrev n_laws_eqMachine : Nat := 17
theorem k_laws_eqMachine : Known Pr mu n_laws_eqMachine m_laws_eqMachine r_laws_eqMachine Go.Proofs.Tryd.f17.ntmps := .of h_laws_eqMachine hm Go.Proofs.Tryd.func17
def c18_1 : XC := fun _ => .region [] [xo 2 (.box (xt 0)),
 xo 4 (.mv (xi 0))] [1,2]
def c18_2 : XC := fun _ => .region [] [xo 5 (.fa (xt 2) 0),
 xo 6 (.ld (xt 5) 1 false),
 xo 7 (.mv (xt 1)),
 xo 8 (.callm 36 [(xt 6), (xt 7)]),
 xo 1 (.mv (xt 8))] [1,2]
def c18_3 : XC := fun _ => .region [] [xo 9 (.fa (xt 2) 1),
 xo 10 (.ld (xt 9) 1 false),
 xo 11 (.mv (xt 1)),
 xo 12 (.callm 37 [(xt 10), (xt 11)]),
 xo 1 (.mv (xt 12))] [1]
def c18_4 : XC := fun _ => .region [] [xo 13 (.mv (xt 1)),
 xo 4 (.mv (xt 13))] [4]
def c18_5 : XC := fun _ => .seq c18_4 (fun _ => .ret)
def c18_6 : XC := fun _ => .seq c18_3 c18_5
def c18_7 : XC := fun _ => .seq c18_2 c18_6
def c18_8 : XC := fun _ => .seq c18_1 c18_7
def m_laws_markMachine : MCode := c18_8 ()
def h_laws_markMachine : Hints := [(0, [1,2], [], [], []), (1, [1,2], [], [], []), (2, [1], [], [], []), (3, [4], [], [], [])]
def r_laws_markMachine : List RV := [.t 4]
abbrev n_laws_markMachine : Nat := 18
theorem k_laws_markMachine : Known Pr mu n_laws_markMachine m_laws_markMachine r_laws_markMachine Go.Proofs.Tryd.f18.ntmps := .of h_laws_markMachine hm Go.Proofs.Tryd.func18
def c19_1 : XC := fun _ => .region [] [xo 2 (.box (xt 0)),
 xo 4 (.mv (xi 0))] [1,2]
def c19_2 : XC := fun _ => .region [] [xo 5 (.fa (xt 2) 0),
 xo 6 (.ld (xt 5) 1 false),
 xo 7 (.mv (xt 1)),
 xo 8 (.call 38 [(xt 6), (xt 7)]),
 xo 1 (.mv (xt 8))] [1,2]
def c19_3 : XC := fun _ => .region [] [xo 9 (.mv (xt 1)),
 xo 10 (.bin .lss (xt 9) (xi 0))] [1,2,10]
def c19_4 : XC := fun _ => .region [] [xo 4 (.mv (xi (-1)))] [4]
def c19_5 : XC := fun _ => .seq c19_4 (fun _ => .ret)
def c19_6 : XC := fun _ => .cond (xt 10) c19_5 (fun _ => .skip)
def c19_7 : XC := fun _ => .seq c19_3 c19_6
def c19_8 : XC := fun _ => .region [] [xo 11 (.fa (xt 2) 1),
 xo 12 (.ld (xt 11) 1 false),
 xo 13 (.mv (xt 1)),
 xo 14 (.call 39 [(xt 12), (xt 13)]),
 xo 1 (.mv (xt 14))] [1]
def c19_9 : XC := fun _ => .region [] [xo 15 (.mv (xt 1)),
 xo 16 (.bin .lss (xt 15) (xi 0))] [1,16]
def c19_10 : XC := fun _ => .region [] [xo 4 (.mv (xi (-1)))] [4]
def c19_11 : XC := fun _ => .seq c19_10 (fun _ => .ret)
def c19_12 : XC := fun _ => .cond (xt 16) c19_11 (fun _ => .skip)
def c19_13 : XC := fun _ => .seq c19_9 c19_12
def c19_14 : XC := fun _ => .region [] [xo 17 (.mv (xt 1)),
 xo 4 (.mv (xt 17))] [4]
def c19_15 : XC := fun _ => .seq c19_14 (fun _ => .ret)
def c19_16 : XC := fun _ => .seq c19_13 c19_15
def c19_17 : XC := fun _ => .seq c19_8 c19_16
def c19_18 : XC := fun _ => .seq c19_7 c19_17
def c19_19 : XC := fun _ => .seq c19_2 c19_18
def c19_20 : XC := fun _ => .seq c19_1 c19_19
def m_laws_heldMachine : MCode := c19_20 ()
def h_laws_heldMachine : Hints := [(0, [1,2], [], [], []), (1, [1,2], [], [], []), (2, [1,2,10], [], [], []), (3, [4], [], [], []), (4, [1], [], [], []), (5, [1,16], [], [], []), (6, [4], [], [], []), (7, [4], [], [], [])]
def r_laws_heldMachine : List RV := [.t 4]
abbrev n_laws_heldMachine : Nat := 19
theorem k_laws_heldMachine : Known Pr mu n_laws_heldMachine m_laws_heldMachine r_laws_heldMachine Go.Proofs.Tryd.f19.ntmps := .of h_laws_heldMachine hm Go.Proofs.Tryd.func19
def c20_1 : XC := fun _ => .region [] [xo 2 (.alloc [.int .i64 0, .int .i64 0, .bool false, .int .i64 0])] [0,2]
def c20_2 : XC := fun _ => .region [] [xo 5 (.bld [.int .i64 0, .int .i64 0, .bool false, .int .i64 0] [(0, 1, (xi (-1)))]),
 xo 3 (.alloc [.int .i64 0, .int .i64 0, .bool false, .int .i64 0]),
 xn (.sto (xt 3) (xt 5) 4)] [0,2,3]
def c20_3 : XC := fun _ => .region [] [xo 6 (.mv (xt 0)),
 xo 7 (.len true (xt 6)),
 xo 4 (.mv (xt 7))] [0,2,3,4]
def c20_4 : XC := fun _ => .region [] [xo 8 (.mv (xt 4)),
 xo 9 (.bin .lss (xt 8) (xi 5)),
 xo 10 (.mv (xt 9)),
 ⟨(some 11), .mv (xt 0), (some (10, false)), []⟩,
 ⟨(some 12), .sidx (xt 11) (xi 1), (some (10, false)), []⟩,
 ⟨(some 13), .bin .neq (xt 12) (.const (.int .u8 46)), (some (10, false)), []⟩,
 xo 14 (.pick (xt 10) (xb true) (xt 13))] [0,2,3,4,14]
def c20_5 : XC := fun _ => .region [] [xo 15 (.ld (xt 3) 4 true),
 xn (.sto (xt 2) (xt 15) 4)] [2]
def c20_6 : XC := fun _ => .seq c20_5 (fun _ => .ret)
def c20_7 : XC := fun _ => .cond (xt 14) c20_6 (fun _ => .skip)
def c20_8 : XC := fun _ => .seq c20_4 c20_7
def c20_9 : XC := fun _ => .region [] [xo 16 (.mv (xt 0)),
 xo 17 (.sidx (xt 16) (xi 0)),
 xo 18 (.conv .i64 (xt 17)),
 xo 19 (.bin .sub (xt 18) (xi 48)),
 xo 20 (.fa (xt 3) 0),
 xn (.sto (xt 20) (xt 19) 1)] [0,2,3,4]
def c20_10 : XC := fun _ => .region [] [xo 21 (.mv (xt 0)),
 xo 22 (.mv (xt 4)),
 xo 23 (.bin .sub (xt 22) (xi 2)),
 xo 24 (.slc true (xt 21) (some (xi 2)) (some (xt 23)) none 0),
 xo 25 (.call 11 [(xt 24)]),
 xo 26 (.fa (xt 3) 1),
 xn (.sto (xt 26) (xt 25) 1)] [0,2,3,4]
def c20_11 : XC := fun _ => .region [] [xo 27 (.mv (xt 0)),
 xo 28 (.mv (xt 4)),
 xo 29 (.bin .sub (xt 28) (xi 2)),
 xo 30 (.sidx (xt 27) (xt 29)),
 xo 31 (.bin .eql (xt 30) (.const (.int .u8 43))),
 xo 32 (.mv (xt 0)),
 xo 33 (.mv (xt 4)),
 xo 34 (.bin .sub (xt 33) (xi 1)),
 xo 35 (.sidx (xt 32) (xt 34)),
 ⟨(some 36), .conv .i64 (xt 35), none, [0, 1, 2, 3, 4]⟩,
 xo 37 (.bin .sub (xt 36) (xi 48)),
 xo 38 (.bld [.bool false, .int .i64 0] [(0, 1, (xt 31)), (1, 1, (xt 37))]),
 xo 39 (.fa (xt 3) 2),
 xn (.sto (xt 39) (xt 38) 2)] [2,3]
def c20_12 : XC := fun _ => .region [] [xo 40 (.ld (xt 3) 4 true),
 xn (.sto (xt 2) (xt 40) 4)] [2]
def c20_13 : XC := fun _ => .seq c20_12 (fun _ => .ret)
def c20_14 : XC := fun _ => .seq c20_11 c20_13
def c20_15 : XC := fun _ => .seq c20_10 c20_14
def c20_16 : XC := fun _ => .seq c20_9 c20_15
def c20_17 : XC := fun _ => .seq c20_8 c20_16
def c20_18 : XC := fun _ => .seq c20_3 c20_17
def c20_19 : XC := fun _ => .seq c20_2 c20_18
def c20_20 : XC := fun _ => .seq c20_1 c20_19
def m_spec_l4Session : MCode := c20_20 ()
def h_spec_l4Session : Hints := [(0, [0,2], [], [], []), (1, [0,2,3], [], [], []), (2, [0,2,3,4], [], [], []), (3, [0,2,3,4,14], [], [], []), (4, [2], [], [], []), (5, [0,2,3,4], [], [], []), (6, [0,2,3,4], [], [], []), (7, [2,3], [[],[],[],[],[],[],[],[],[],[0,1,2,3,4]], [], []), (8, [2], [], [], [])]
def r_spec_l4Session : List RV := [.c 2 4 true]
abbrev n_spec_l4Session : Nat := 20
theorem k_spec_l4Session : Known Pr mu n_spec_l4Session m_spec_l4Session r_spec_l4Session Go.Proofs.Tryd.f20.ntmps := .of h_spec_l4Session hm Go.Proofs.Tryd.func20
def c21_1 : XC := fun _ => .region [] [xo 1 (.box (xt 0)),
 xo 2 (.mv (.const (.string ⟨#[]⟩)))] [1]
def c21_2 : XC := fun _ => .region [] [xo 8 (.ld (xt 1) 2 true),
 xo 9 (.call 40 [(xt 8)]),
 xo 10 (.not (xt 9))] [1,10]
def c21_3 : XC := fun _ => .region [] [xo 2 (.mv (.const (.string ⟨#[]⟩)))] [2]
def c21_4 : XC := fun _ => .seq c21_3 (fun _ => .ret)
def c21_5 : XC := fun _ => .cond (xt 10) c21_4 (fun _ => .skip)
def c21_6 : XC := fun _ => .seq c21_2 c21_5
def c21_7 : XC := fun _ => .region [] [xo 3 (.mv (.const (.string ⟨#[]⟩)))] [1,3]
def c21_8 : XC := fun _ => .region [] [xo 4 (.mv (xi 0))] [1,3,4]
def c21_9 : XC := fun _ => .region [] [xo 11 (.mv (xt 4)),
 xo 12 (.fa (xt 1) 0),
 xo 13 (.ld (xt 12) 1 false),
 xo 14 (.len false (xt 13)),
 xo 15 (.bin .lss (xt 11) (xt 14))] [1,3,4,15]
def c21_10 : XC := fun _ => .cond (xt 15) (fun _ => .skip) (fun _ => .exit 0)
def c21_11 : XC := fun _ => .seq c21_9 c21_10
def c21_12 : XC := fun _ => .region [] [xo 18 (.mv (xt 3)),
 xo 19 (.fa (xt 1) 0),
 xo 20 (.ld (xt 19) 1 false),
 xo 21 (.mv (xt 4)),
 xo 22 (.ia (xt 20) (xt 21) 1),
 xo 23 (.ld (xt 22) 1 false),
 xo 24 (.call 24 [(xt 23)]),
 xo 25 (.bin .add (xt 18) (xt 24)),
 xo 3 (.mv (xt 25))] [1,3,4]
def c21_13 : XC := fun _ => .block 1 c21_12
def c21_14 : XC := fun _ => .region [] [xo 16 (.mv (xt 4)),
 xo 17 (.bin .add (xt 16) (xi 1)),
 xo 4 (.mv (xt 17))] [1,3,4]
def c21_15 : XC := fun _ => .seq c21_13 c21_14
def c21_16 : XC := fun _ => .seq c21_11 c21_15
def c21_17 : XC := fun _ => .loop c21_16
def c21_18 : XC := fun _ => .block 0 c21_17
def c21_19 : XC := fun _ => .seq c21_8 c21_18
def c21_20 : XC := fun _ => .region [] [xo 5 (.mv (xi 0))] [1,3,5]
def c21_21 : XC := fun _ => .region [] [xo 26 (.mv (xt 5)),
 xo 27 (.fa (xt 1) 1),
 xo 28 (.ld (xt 27) 1 false),
 xo 29 (.len false (xt 28)),
 xo 30 (.bin .lss (xt 26) (xt 29))] [1,3,5,30]
def c21_22 : XC := fun _ => .cond (xt 30) (fun _ => .skip) (fun _ => .exit 2)
def c21_23 : XC := fun _ => .seq c21_21 c21_22
def c21_24 : XC := fun _ => .region [] [xo 33 (.fa (xt 1) 1),
 xo 34 (.ld (xt 33) 1 false),
 xo 35 (.mv (xt 5)),
 xo 36 (.ia (xt 34) (xt 35) 4),
 xo 37 (.ld (xt 36) 4 true),
 xo 6 (.alloc [.int .i64 0, .int .i64 0, .bool false, .int .i64 0]),
 xn (.sto (xt 6) (xt 37) 4)] [1,3,5,6]
def c21_25 : XC := fun _ => .region [] [xo 7 (.mv (.const (.string ⟨#[45]⟩)))] [1,3,5,6,7]
def c21_26 : XC := fun _ => .region [] [xo 38 (.fa (xt 6) 2),
 xo 39 (.fa (xt 38) 0),
 xo 40 (.ld (xt 39) 1 false)] [1,3,5,6,7,40]
def c21_27 : XC := fun _ => .region [] [xo 7 (.mv (.const (.string ⟨#[43]⟩)))] [1,3,5,6,7]
def c21_28 : XC := fun _ => .cond (xt 40) c21_27 (fun _ => .skip)
def c21_29 : XC := fun _ => .seq c21_26 c21_28
def c21_30 : XC := fun _ => .region [] [xo 41 (.mv (xt 3)),
 xo 42 (.bin .add (xt 41) (.const (.string ⟨#[32]⟩))),
 ⟨(some 43), .fa (xt 6) 0, none, [0, 1]⟩,
 ⟨(some 44), .ld (xt 43) 1 false, none, [0, 1]⟩,
 ⟨(some 45), .call 24 [(xt 44)], none, [0, 1]⟩,
 xo 46 (.bin .add (xt 42) (xt 45)),
 xo 47 (.bin .add (xt 46) (.const (.string ⟨#[46]⟩))),
 ⟨(some 48), .fa (xt 6) 1, none, [0, 1, 2, 3, 4, 5, 6]⟩,
 ⟨(some 49), .ld (xt 48) 1 false, none, [0, 1, 2, 3, 4, 5, 6]⟩,
 ⟨(some 50), .call 24 [(xt 49)], none, [0, 1, 5, 6]⟩,
 xo 51 (.bin .add (xt 47) (xt 50)),
 xo 52 (.mv (xt 7)),
 xo 53 (.bin .add (xt 51) (xt 52)),
 ⟨(some 54), .fa (xt 6) 2, none, [0, 1, 2, 3, 4, 5, 6, 7, 8, 9, 10, 11, 12]⟩,
 ⟨(some 55), .fa (xt 54) 1, none, [0, 1, 2, 3, 4, 5, 6, 7, 8, 9, 10, 11, 12]⟩,
 ⟨(some 56), .ld (xt 55) 1 false, none, [0, 1, 2, 3, 4, 5, 6, 7, 8, 9, 10, 11, 12]⟩,
 ⟨(some 57), .call 24 [(xt 56)], none, [0, 1, 5, 6, 10, 11, 12]⟩,
 xo 58 (.bin .add (xt 53) (xt 57)),
 xo 3 (.mv (xt 58))] [1,3,5]
def c21_31 : XC := fun _ => .seq c21_29 c21_30
def c21_32 : XC := fun _ => .seq c21_25 c21_31
def c21_33 : XC := fun _ => .seq c21_24 c21_32
def c21_34 : XC := fun _ => .block 3 c21_33
def c21_35 : XC := fun _ => .region [] [xo 31 (.mv (xt 5)),
 xo 32 (.bin .add (xt 31) (xi 1)),
 xo 5 (.mv (xt 32))] [1,3,5]
def c21_36 : XC := fun _ => .seq c21_34 c21_35
def c21_37 : XC := fun _ => .seq c21_23 c21_36
def c21_38 : XC := fun _ => .loop c21_37
def c21_39 : XC := fun _ => .block 2 c21_38
def c21_40 : XC := fun _ => .seq c21_20 c21_39
def c21_41 : XC := fun _ => .region [] [xo 59 (.mv (xt 3)),
 xo 2 (.mv (xt 59))] [2]
def c21_42 : XC := fun _ => .seq c21_41 (fun _ => .ret)
def c21_43 : XC := fun _ => .seq c21_40 c21_42
def c21_44 : XC := fun _ => .seq c21_19 c21_43
def c21_45 : XC := fun _ => .seq c21_7 c21_44
def c21_46 : XC := fun _ => .seq c21_6 c21_45
def c21_47 : XC := fun _ => .seq c21_1 c21_46
def m_spec_FormatMachine : MCode := c21_47 ()
def h_spec_FormatMachine : Hints := [(0, [1], [], [], []), (1, [1,10], [], [], []), (2, [2], [], [], []), (3, [1,3], [], [], []), (4, [1,3,4], [], [], []), (5, [1,3,4,15], [], [], []), (7, [1,3,4], [], [], []), (6, [1,3,4], [], [], []), (8, [1,3,5], [], [], []), (9, [1,3,5,30], [], [], []), (11, [1,3,5,6], [], [], []), (12, [1,3,5,6,7], [], [], []), (13, [1,3,5,6,7,40], [], [], []), (14, [1,3,5,6,7], [], [], []), (15, [1,3,5], [[],[],[0,1],[0,1],[0,1],[],[],[0,1,2,3,4,5,6],[0,1,2,3,4,5,6],[0,1,5,6],[],[],[],[0,1,2,3,4,5,6,7,8,9,10,11,12],[0,1,2,3,4,5,6,7,8,9,10,11,12],[0,1,2,3,4,5,6,7,8,9,10,11,12],[0,1,5,6,10,11,12]], [], []), (10, [1,3,5], [], [], []), (16, [2], [], [], [])]
def r_spec_FormatMachine : List RV := [.t 2]
abbrev n_spec_FormatMachine : Nat := 21
theorem k_spec_FormatMachine : Known Pr mu n_spec_FormatMachine m_spec_FormatMachine r_spec_FormatMachine Go.Proofs.Tryd.f21.ntmps := .of h_spec_FormatMachine hm Go.Proofs.Tryd.func21
def c22_1 : XC := fun _ => .region [] [xo 2 (.mv (xi 0)),
 xo 3 (.mv (xb false))] [0]
def c22_2 : XC := fun _ => .region [] [xo 4 (.mv (xi 0))] [0,4]
def c22_3 : XC := fun _ => .region [] [xo 5 (.mv (xi 0))] [0,4,5]
def c22_4 : XC := fun _ => .region [] [xo 6 (.mv (xi 0))] [0,4,5,6]
def c22_5 : XC := fun _ => .region [] [xo 7 (.mv (xt 6)),
 xo 8 (.mv (xt 0)),
 xo 9 (.len true (xt 8)),
 xo 10 (.bin .lss (xt 7) (xt 9)),
 xo 11 (.mv (xt 10)),
 ⟨(some 12), .mv (xt 6), (some (11, true)), []⟩,
 ⟨(some 13), .bin .lss (xt 12) (xi 11), (some (11, true)), []⟩,
 xo 14 (.pick (xt 11) (xt 13) (xb false))] [0,4,5,6,14]
def c22_6 : XC := fun _ => .cond (xt 14) (fun _ => .skip) (fun _ => .exit 0)
def c22_7 : XC := fun _ => .seq c22_5 c22_6
def c22_8 : XC := fun _ => .region [] [xo 17 (.mv (xt 0)),
 xo 18 (.mv (xt 6)),
 xo 19 (.sidx (xt 17) (xt 18)),
 xo 20 (.bin .geq (xt 19) (.const (.int .u8 48))),
 xo 21 (.mv (xt 20)),
 ⟨(some 22), .mv (xt 0), (some (21, true)), []⟩,
 ⟨(some 23), .mv (xt 6), (some (21, true)), []⟩,
 ⟨(some 24), .sidx (xt 22) (xt 23), (some (21, true)), []⟩,
 ⟨(some 25), .bin .leq (xt 24) (.const (.int .u8 57)), (some (21, true)), []⟩,
 xo 26 (.pick (xt 21) (xt 25) (xb false))] [0,4,5,6,26]
def c22_9 : XC := fun _ => .region [] [xo 27 (.mv (xt 4)),
 xo 28 (.bin .mul (xt 27) (xi 10)),
 xo 29 (.mv (xt 0)),
 xo 30 (.mv (xt 6)),
 xo 31 (.sidx (xt 29) (xt 30)),
 xo 32 (.bin .sub (xt 31) (.const (.int .u8 48))),
 xo 33 (.conv .i64 (xt 32)),
 xo 34 (.bin .add (xt 28) (xt 33)),
 xo 4 (.mv (xt 34))] [0,4,5,6]
def c22_10 : XC := fun _ => .region [] [xo 35 (.mv (xt 5)),
 xo 36 (.bin .add (xt 35) (xi 1)),
 xo 5 (.mv (xt 36))] [0,4,5,6]
def c22_11 : XC := fun _ => .seq c22_9 c22_10
def c22_12 : XC := fun _ => .cond (xt 26) c22_11 (fun _ => .skip)
def c22_13 : XC := fun _ => .seq c22_8 c22_12
def c22_14 : XC := fun _ => .block 1 c22_13
def c22_15 : XC := fun _ => .region [] [xo 15 (.mv (xt 6)),
 xo 16 (.bin .add (xt 15) (xi 1)),
 xo 6 (.mv (xt 16))] [0,4,5,6]
def c22_16 : XC := fun _ => .seq c22_14 c22_15
def c22_17 : XC := fun _ => .seq c22_7 c22_16
def c22_18 : XC := fun _ => .loop c22_17
def c22_19 : XC := fun _ => .block 0 c22_18
def c22_20 : XC := fun _ => .seq c22_4 c22_19
def c22_21 : XC := fun _ => .region [] [xo 37 (.mv (xt 0)),
 xo 38 (.len true (xt 37)),
 xo 39 (.bin .gtr (xt 38) (xi 0)),
 xo 40 (.mv (xt 39)),
 ⟨(some 41), .mv (xt 0), (some (40, true)), []⟩,
 ⟨(some 42), .sidx (xt 41) (xi 0), (some (40, true)), []⟩,
 ⟨(some 43), .bin .eql (xt 42) (.const (.int .u8 45)), (some (40, true)), []⟩,
 xo 44 (.pick (xt 40) (xt 43) (xb false))] [0,4,5,44]
def c22_22 : XC := fun _ => .region [] [xo 45 (.mv (xt 4)),
 xo 46 (.neg (xt 45)),
 xo 4 (.mv (xt 46))] [0,4,5]
def c22_23 : XC := fun _ => .cond (xt 44) c22_22 (fun _ => .skip)
def c22_24 : XC := fun _ => .seq c22_21 c22_23
def c22_25 : XC := fun _ => .region [] [xo 47 (.mv (xt 5)),
 xo 48 (.bin .gtr (xt 47) (xi 9)),
 xo 49 (.mv (xt 48)),
 ⟨(some 50), .mv (xt 0), (some (49, false)), []⟩,
 ⟨(some 51), .len true (xt 50), (some (49, false)), []⟩,
 ⟨(some 52), .bin .gtr (xt 51) (xi 10), (some (49, false)), []⟩,
 xo 53 (.pick (xt 49) (xb true) (xt 52)),
 xo 54 (.mv (xt 53)),
 ⟨(some 55), .mv (xt 4), (some (54, false)), []⟩,
 ⟨(some 56), .call 24 [(xt 55)], (some (54, false)), []⟩,
 ⟨(some 57), .mv (xt 0), (some (54, false)), []⟩,
 ⟨(some 58), .bin .neq (xt 56) (xt 57), (some (54, false)), []⟩,
 xo 59 (.pick (xt 54) (xb true) (xt 58))] [4,59]
def c22_26 : XC := fun _ => .region [] [xo 2 (.mv (xi 0)),
 xo 3 (.mv (xb false))] [2,3]
def c22_27 : XC := fun _ => .seq c22_26 (fun _ => .ret)
def c22_28 : XC := fun _ => .cond (xt 59) c22_27 (fun _ => .skip)
def c22_29 : XC := fun _ => .seq c22_25 c22_28
def c22_30 : XC := fun _ => .region [] [xo 60 (.mv (xt 4)),
 xo 2 (.mv (xt 60)),
 xo 3 (.mv (xb true))] [2,3]
def c22_31 : XC := fun _ => .seq c22_30 (fun _ => .ret)
def c22_32 : XC := fun _ => .seq c22_29 c22_31
def c22_33 : XC := fun _ => .seq c22_24 c22_32
def c22_34 : XC := fun _ => .seq c22_20 c22_33
def c22_35 : XC := fun _ => .seq c22_3 c22_34
def c22_36 : XC := fun _ => .seq c22_2 c22_35
def c22_37 : XC := fun _ => .seq c22_1 c22_36
def m_spec_ParseInt : MCode := c22_37 ()
def h_spec_ParseInt : Hints := [(0, [0], [], [], []), (1, [0,4], [], [], []), (2, [0,4,5], [], [], []), (3, [0,4,5,6], [], [], []), (4, [0,4,5,6,14], [], [], []), (6, [0,4,5,6,26], [], [], []), (7, [0,4,5,6], [], [], []), (8, [0,4,5,6], [], [], []), (5, [0,4,5,6], [], [], []), (9, [0,4,5,44], [], [], []), (10, [0,4,5], [], [], []), (11, [4,59], [], [], []), (12, [2,3], [], [], []), (13, [2,3], [], [], [])]
def r_spec_ParseInt : List RV := [.t 2, .t 3]
abbrev n_spec_ParseInt : Nat := 22
theorem k_spec_ParseInt : Known Pr mu n_spec_ParseInt m_spec_ParseInt r_spec_ParseInt Go.Proofs.Tryd.f22.ntmps := .of h_spec_ParseInt hm Go.Proofs.Tryd.func22
def c23_1 : XC := fun _ => .region [] [xo 1 (.box (xt 0)),
 xo 2 (.mv (xb false))] [1]
def c23_2 : XC := fun _ => .region [] [xo 3 (.fa (xt 1) 0),
 xo 4 (.ld (xt 3) 1 false),
 xo 5 (.call 41 [(xt 4), (xi 0), (xi 16)]),
 xo 6 (.mv (xt 5)),
 ⟨(some 7), .fa (xt 1) 1, (some (6, true)), []⟩,
 ⟨(some 8), .ld (xt 7) 1 false, (some (6, true)), []⟩,
 ⟨(some 9), .call 41 [(xt 8), (xi 0), (xi 9972)], (some (6, true)), []⟩,
 xo 10 (.pick (xt 6) (xt 9) (xb false)),
 xo 11 (.mv (xt 10)),
 ⟨(some 12), .fa (xt 1) 2, (some (11, true)), []⟩,
 ⟨(some 13), .ld (xt 12) 2 true, (some (11, true)), []⟩,
 ⟨(some 14), .call 40 [(xt 13)], (some (11, true)), []⟩,
 xo 15 (.pick (xt 11) (xt 14) (xb false)),
 xo 2 (.mv (xt 15))] [2]
def c23_3 : XC := fun _ => .seq c23_2 (fun _ => .ret)
def c23_4 : XC := fun _ => .seq c23_1 c23_3
def m_spec_l7Good : MCode := c23_4 ()
def h_spec_l7Good : Hints := [(0, [1], [], [], []), (1, [2], [], [], [])]
def r_spec_l7Good : List RV := [.t 2]
abbrev n_spec_l7Good : Nat := 23
theorem k_spec_l7Good : Known Pr mu n_spec_l7Good m_spec_l7Good r_spec_l7Good Go.Proofs.Tryd.f23.ntmps := .of h_spec_l7Good hm Go.Proofs.Tryd.func23
def c24_1 : XC := fun _ => .region [] [xo 2 (.mv (.const (.string ⟨#[]⟩)))] [0]
def c24_2 : XC := fun _ => .region [] [xo 6 (.mv (xt 0)),
 xo 7 (.bin .eql (xt 6) (xi 0))] [0,7]
def c24_3 : XC := fun _ => .region [] [xo 2 (.mv (.const (.string ⟨#[48]⟩)))] [2]
def c24_4 : XC := fun _ => .seq c24_3 (fun _ => .ret)
def c24_5 : XC := fun _ => .cond (xt 7) c24_4 (fun _ => .skip)
def c24_6 : XC := fun _ => .seq c24_2 c24_5
def c24_7 : XC := fun _ => .region [] [xo 3 (.mv (.const (.string ⟨#[]⟩)))] [0,3]
def c24_8 : XC := fun _ => .region [] [xo 8 (.mv (xt 0)),
 xo 9 (.bin .lss (xt 8) (xi 0)),
 xo 4 (.mv (xt 9))] [0,3,4]
def c24_9 : XC := fun _ => .region [] [xo 10 (.mv (xt 0)),
 xo 11 (.bin .neq (xt 10) (xi 0))] [0,3,4,11]
def c24_10 : XC := fun _ => .cond (xt 11) (fun _ => .skip) (fun _ => .exit 0)
def c24_11 : XC := fun _ => .seq c24_9 c24_10
def c24_12 : XC := fun _ => .region [] [xo 12 (.mv (xt 0)),
 xo 13 (.bin .rem (xt 12) (xi 10)),
 xo 5 (.mv (xt 13))] [0,3,4,5]
def c24_13 : XC := fun _ => .region [] [xo 14 (.mv (xt 5)),
 xo 15 (.bin .lss (xt 14) (xi 0))] [0,3,4,5,15]
def c24_14 : XC := fun _ => .region [] [xo 16 (.mv (xt 5)),
 xo 17 (.neg (xt 16)),
 xo 5 (.mv (xt 17))] [0,3,4,5]
def c24_15 : XC := fun _ => .cond (xt 15) c24_14 (fun _ => .skip)
def c24_16 : XC := fun _ => .seq c24_13 c24_15
def c24_17 : XC := fun _ => .region [] [xo 18 (.mv (xt 5)),
 xo 19 (.bin .add (xi 48) (xt 18)),
 xo 20 (.conv .u8 (xt 19)),
 xo 21 (.bsl 1 1 [.int .u8 0] [(0, (xt 20))]),
 xo 22 (.cst (xt 21)),
 xo 23 (.mv (xt 3)),
 xo 24 (.bin .add (xt 22) (xt 23)),
 xo 3 (.mv (xt 24))] [0,3,4]
def c24_18 : XC := fun _ => .region [] [xo 25 (.mv (xt 0)),
 xo 26 (.bin .quo (xt 25) (xi 10)),
 xo 0 (.mv (xt 26))] [0,3,4]
def c24_19 : XC := fun _ => .seq c24_17 c24_18
def c24_20 : XC := fun _ => .seq c24_16 c24_19
def c24_21 : XC := fun _ => .seq c24_12 c24_20
def c24_22 : XC := fun _ => .block 1 c24_21
def c24_23 : XC := fun _ => .seq c24_11 c24_22
def c24_24 : XC := fun _ => .loop c24_23
def c24_25 : XC := fun _ => .block 0 c24_24
def c24_26 : XC := fun _ => .region [] [xo 27 (.mv (xt 4))] [3,27]
def c24_27 : XC := fun _ => .region [] [xo 28 (.mv (xt 3)),
 xo 29 (.bin .add (.const (.string ⟨#[45]⟩)) (xt 28)),
 xo 2 (.mv (xt 29))] [2]
def c24_28 : XC := fun _ => .seq c24_27 (fun _ => .ret)
def c24_29 : XC := fun _ => .cond (xt 27) c24_28 (fun _ => .skip)
def c24_30 : XC := fun _ => .seq c24_26 c24_29
def c24_31 : XC := fun _ => .region [] [xo 30 (.mv (xt 3)),
 xo 2 (.mv (xt 30))] [2]
def c24_32 : XC := fun _ => .seq c24_31 (fun _ => .ret)
def c24_33 : XC := fun _ => .seq c24_30 c24_32
def c24_34 : XC := fun _ => .seq c24_25 c24_33
def c24_35 : XC := fun _ => .seq c24_8 c24_34
def c24_36 : XC := fun _ => .seq c24_7 c24_35
def c24_37 : XC := fun _ => .seq c24_6 c24_36
def c24_38 : XC := fun _ => .seq c24_1 c24_37
def m_spec_FormatInt : MCode := c24_38 ()
def h_spec_FormatInt : Hints := [(0, [0], [], [], []), (1, [0,7], [], [], []), (2, [2], [], [], []), (3, [0,3], [], [], []), (4, [0,3,4], [], [], []), (5, [0,3,4,11], [], [], []), (6, [0,3,4,5], [], [], []), (7, [0,3,4,5,15], [], [], []), (8, [0,3,4,5], [], [], []), (9, [0,3,4], [], [], []), (10, [0,3,4], [], [], []), (11, [3,27], [], [], []), (12, [2], [], [], []), (13, [2], [], [], [])]
def r_spec_FormatInt : List RV := [.t 2]
abbrev n_spec_FormatInt : Nat := 24
theorem k_spec_FormatInt : Known Pr mu n_spec_FormatInt m_spec_FormatInt r_spec_FormatInt Go.Proofs.Tryd.f24.ntmps := .of h_spec_FormatInt hm Go.Proofs.Tryd.func24
def c26_1 : XC := fun _ => .region [] [xo 4 (.mv (.const (.slice none 0 0)))] [0,1]
def c26_2 : XC := fun _ => .region [] [xo 5 (.mv (xt 0)),
 xo 6 (.mv (xt 1)),
 xo 7 (.call 25 [(xt 5), (xt 6), (xi 0), (xi (-1))]),
 xo 4 (.mv (xt 7))] [4]
def c26_3 : XC := fun _ => .seq c26_2 (fun _ => .ret)
def c26_4 : XC := fun _ => .seq c26_1 c26_3
def m_strings_Split : MCode := c26_4 ()
def h_strings_Split : Hints := [(0, [0,1], [], [], []), (1, [4], [], [], [])]
def r_strings_Split : List RV := [.t 4]
abbrev n_strings_Split : Nat := 26
theorem k_strings_Split : Known Pr mu n_strings_Split m_strings_Split r_strings_Split Go.Proofs.Tryd.f26.ntmps := .of h_strings_Split hm Go.Proofs.Tryd.func26
def c27_1 : XC := fun _ => .region [] [xo 4 (.mv (.const (.string ⟨#[]⟩))),
 xo 5 (.mv (.const (.string ⟨#[]⟩))),
 xo 6 (.mv (xb false))] [0,1]
def c27_2 : XC := fun _ => .region [] [xo 7 (.mv (xt 0)),
 xo 8 (.mv (xt 1)),
 xo 9 (.call 45 [(xt 7), (xt 8)]),
 xo 10 (.ext (xt 9) 0),
 xo 11 (.ext (xt 9) 1),
 xo 12 (.ext (xt 9) 2),
 xo 4 (.mv (xt 10)),
 xo 5 (.mv (xt 11)),
 xo 6 (.mv (xt 12))] [4,5,6]
def c27_3 : XC := fun _ => .seq c27_2 (fun _ => .ret)
def c27_4 : XC := fun _ => .seq c27_1 c27_3
def m_strings_Cut : MCode := c27_4 ()
def h_strings_Cut : Hints := [(0, [0,1], [], [], []), (1, [4,5,6], [], [], [])]
def r_strings_Cut : List RV := [.t 4, .t 5, .t 6]
abbrev n_strings_Cut : Nat := 27
theorem k_strings_Cut : Known Pr mu n_strings_Cut m_strings_Cut r_strings_Cut Go.Proofs.Tryd.f27.ntmps := .of h_strings_Cut hm Go.Proofs.Tryd.func27
def c28_1 : XC := fun _ => .region [] [xo 4 (.mv (xi 0))] [0,1]
def c28_2 : XC := fun _ => .region [] [xo 11 (.mv (xt 1)),
 xo 12 (.bin .eql (xt 11) (.const (.string ⟨#[]⟩)))] [0,1,12]
def c28_3 : XC := fun _ => .region [] [xo 4 (.mv (xi (-1)))] [4]
def c28_4 : XC := fun _ => .seq c28_3 (fun _ => .ret)
def c28_5 : XC := fun _ => .cond (xt 12) c28_4 (fun _ => .skip)
def c28_6 : XC := fun _ => .seq c28_2 c28_5
def c28_7 : XC := fun _ => .region [] [xo 13 (.mv (xt 1)),
 xo 14 (.len true (xt 13)),
 xo 15 (.bin .eql (xt 14) (xi 1))] [0,1,15]
def c28_8 : XC := fun _ => .region [] [xo 16 (.mv (xt 1)),
 xo 17 (.sidx (xt 16) (xi 0)),
 xo 18 (.conv .i32 (xt 17)),
 xo 5 (.mv (xt 18))] [0,5]
def c28_9 : XC := fun _ => .region [] [xo 19 (.mv (xt 5)),
 xo 20 (.bin .geq (xt 19) (.const (.int .i32 128)))] [0,5,20]
def c28_10 : XC := fun _ => .region [] [xo 5 (.mv (.const (.int .i32 65533)))] [0,5]
def c28_11 : XC := fun _ => .cond (xt 20) c28_10 (fun _ => .skip)
def c28_12 : XC := fun _ => .seq c28_9 c28_11
def c28_13 : XC := fun _ => .region [] [xo 21 (.mv (xt 0)),
 xo 22 (.mv (xt 5)),
 xo 23 (.call 46 [(xt 21), (xt 22)]),
 xo 4 (.mv (xt 23))] [4]
def c28_14 : XC := fun _ => .seq c28_13 (fun _ => .ret)
def c28_15 : XC := fun _ => .seq c28_12 c28_14
def c28_16 : XC := fun _ => .seq c28_8 c28_15
def c28_17 : XC := fun _ => .cond (xt 15) c28_16 (fun _ => .skip)
def c28_18 : XC := fun _ => .seq c28_7 c28_17
def c28_19 : XC := fun _ => .region [] [xo 24 (.mv (xt 0)),
 xo 25 (.len true (xt 24)),
 xo 26 (.call 47 [(xt 25)])] [0,1,26]
def c28_20 : XC := fun _ => .region [] [xo 28 (.mv (xt 1)),
 xo 29 (.call 48 [(xt 28)]),
 xo 27 (.mv (xt 29)),
 xo 30 (.ext (xt 27) 0),
 xo 31 (.ext (xt 27) 1),
 xo 6 (.alloc [.bool false, .bool false, .bool false, .bool false, .bool false, .bool false, .bool false, .bool false, .bool false, .bool false, .bool false, .bool false, .bool false, .bool false, .bool false, .bool false, .bool false, .bool false, .bool false, .bool false, .bool false, .bool false, .bool false, .bool false, .bool false, .bool false, .bool false, .bool false, .bool false, .bool false, .bool false, .bool false, .bool false, .bool false, .bool false, .bool false, .bool false, .bool false, .bool false, .bool false, .bool false, .bool false, .bool false, .bool false, .bool false, .bool false, .bool false, .bool false, .bool false, .bool false, .bool false, .bool false, .bool false, .bool false, .bool false, .bool false, .bool false, .bool false, .bool false, .bool false, .bool false, .bool false, .bool false, .bool false, .bool false, .bool false, .bool false, .bool false, .bool false, .bool false, .bool false, .bool false, .bool false, .bool false, .bool false, .bool false, .bool false, .bool false, .bool false, .bool false, .bool false, .bool false, .bool false, .bool false, .bool false, .bool false, .bool false, .bool false, .bool false, .bool false, .bool false, .bool false, .bool false, .bool false, .bool false, .bool false, .bool false, .bool false, .bool false, .bool false, .bool false, .bool false, .bool false, .bool false, .bool false, .bool false, .bool false, .bool false, .bool false, .bool false, .bool false, .bool false, .bool false, .bool false, .bool false, .bool false, .bool false, .bool false, .bool false, .bool false, .bool false, .bool false, .bool false, .bool false, .bool false, .bool false, .bool false, .bool false, .bool false, .bool false, .bool false, .bool false, .bool false, .bool false, .bool false, .bool false, .bool false, .bool false, .bool false, .bool false, .bool false, .bool false, .bool false, .bool false, .bool false, .bool false, .bool false, .bool false, .bool false, .bool false, .bool false, .bool false, .bool false, .bool false, .bool false, .bool false, .bool false, .bool false, .bool false, .bool false, .bool false, .bool false, .bool false, .bool false, .bool false, .bool false, .bool false, .bool false, .bool false, .bool false, .bool false, .bool false, .bool false, .bool false, .bool false, .bool false, .bool false, .bool false, .bool false, .bool false, .bool false, .bool false, .bool false, .bool false, .bool false, .bool false, .bool false, .bool false, .bool false, .bool false, .bool false, .bool false, .bool false, .bool false, .bool false, .bool false, .bool false, .bool false, .bool false, .bool false, .bool false, .bool false, .bool false, .bool false, .bool false, .bool false, .bool false, .bool false, .bool false, .bool false, .bool false, .bool false, .bool false, .bool false, .bool false, .bool false, .bool false, .bool false, .bool false, .bool false, .bool false, .bool false, .bool false, .bool false, .bool false, .bool false, .bool false, .bool false, .bool false, .bool false, .bool false, .bool false, .bool false, .bool false, .bool false, .bool false, .bool false, .bool false, .bool false, .bool false, .bool false, .bool false, .bool false, .bool false, .bool false, .bool false, .bool false, .bool false, .bool false, .bool false, .bool false, .bool false, .bool false, .bool false, .bool false, .bool false]),
 xn (.sto (xt 6) (xt 30) 256),
 xo 7 (.mv (xt 31))] [0,1,6,7]
def c28_21 : XC := fun _ => .region [] [xo 32 (.mv (xt 7))] [0,1,6,32]
def c28_22 : XC := fun _ => .region [] [xo 8 (.mv (xi 0))] [0,6,8]
def c28_23 : XC := fun _ => .region [] [xo 33 (.mv (xt 8)),
 xo 34 (.mv (xt 0)),
 xo 35 (.len true (xt 34)),
 xo 36 (.bin .lss (xt 33) (xt 35))] [0,6,8,36]
def c28_24 : XC := fun _ => .cond (xt 36) (fun _ => .skip) (fun _ => .exit 0)
def c28_25 : XC := fun _ => .seq c28_23 c28_24
def c28_26 : XC := fun _ => .region [] [xo 39 (.mv (xt 0)),
 xo 40 (.mv (xt 8)),
 xo 41 (.sidx (xt 39) (xt 40)),
 xo 42 (.call 49 [(xt 6), (xt 41)])] [0,6,8,42]
def c28_27 : XC := fun _ => .region [] [xo 43 (.mv (xt 8)),
 xo 4 (.mv (xt 43))] [4]
def c28_28 : XC := fun _ => .seq c28_27 (fun _ => .ret)
def c28_29 : XC := fun _ => .cond (xt 42) c28_28 (fun _ => .skip)
def c28_30 : XC := fun _ => .seq c28_26 c28_29
def c28_31 : XC := fun _ => .block 1 c28_30
def c28_32 : XC := fun _ => .region [] [xo 37 (.mv (xt 8)),
 xo 38 (.bin .add (xt 37) (xi 1)),
 xo 8 (.mv (xt 38))] [0,6,8]
def c28_33 : XC := fun _ => .seq c28_31 c28_32
def c28_34 : XC := fun _ => .seq c28_25 c28_33
def c28_35 : XC := fun _ => .loop c28_34
def c28_36 : XC := fun _ => .block 0 c28_35
def c28_37 : XC := fun _ => .seq c28_22 c28_36
def c28_38 : XC := fun _ => .region [] [xo 4 (.mv (xi (-1)))] [4]
def c28_39 : XC := fun _ => .seq c28_38 (fun _ => .ret)
def c28_40 : XC := fun _ => .seq c28_37 c28_39
def c28_41 : XC := fun _ => .cond (xt 32) c28_40 (fun _ => .skip)
def c28_42 : XC := fun _ => .seq c28_21 c28_41
def c28_43 : XC := fun _ => .seq c28_20 c28_42
def c28_44 : XC := fun _ => .cond (xt 26) c28_43 (fun _ => .skip)
def c28_45 : XC := fun _ => .seq c28_19 c28_44
def c28_46 : XC := fun _ => .region [] [xo 44 (.mv (xt 0)),
 xo 45 (.no)] [1,45]
def c28_47 : XC := fun _ => .region [] [xo 46 (.no),
 xo 47 (.ext (xt 46) 0)] [1,45,46,47]
def c28_48 : XC := fun _ => .cond (xt 47) (fun _ => .skip) (fun _ => .exit 2)
def c28_49 : XC := fun _ => .region [] [xo 48 (.ext (xt 46) 1),
 xo 49 (.ext (xt 46) 2),
 xo 9 (.mv (xt 48)),
 xo 10 (.mv (xt 49))] [1,9,10,45]
def c28_50 : XC := fun _ => .region [] [xo 50 (.mv (xt 1)),
 xo 51 (.mv (xt 10)),
 xo 52 (.call 46 [(xt 50), (xt 51)]),
 xo 53 (.bin .geq (xt 52) (xi 0))] [1,9,45,53]
def c28_51 : XC := fun _ => .region [] [xo 54 (.mv (xt 9)),
 xo 4 (.mv (xt 54))] [4]
def c28_52 : XC := fun _ => .seq c28_51 (fun _ => .ret)
def c28_53 : XC := fun _ => .cond (xt 53) c28_52 (fun _ => .skip)
def c28_54 : XC := fun _ => .seq c28_50 c28_53
def c28_55 : XC := fun _ => .seq c28_49 c28_54
def c28_56 : XC := fun _ => .block 3 c28_55
def c28_57 : XC := fun _ => .seq c28_48 c28_56
def c28_58 : XC := fun _ => .seq c28_47 c28_57
def c28_59 : XC := fun _ => .loop c28_58
def c28_60 : XC := fun _ => .block 2 c28_59
def c28_61 : XC := fun _ => .seq c28_46 c28_60
def c28_62 : XC := fun _ => .region [] [xo 4 (.mv (xi (-1)))] [4]
def c28_63 : XC := fun _ => .seq c28_62 (fun _ => .ret)
def c28_64 : XC := fun _ => .seq c28_61 c28_63
def c28_65 : XC := fun _ => .seq c28_45 c28_64
def c28_66 : XC := fun _ => .seq c28_18 c28_65
def c28_67 : XC := fun _ => .seq c28_6 c28_66
def c28_68 : XC := fun _ => .seq c28_1 c28_67
def m_strings_IndexAny : MCode := c28_68 ()
def h_strings_IndexAny : Hints := [(0, [0,1], [], [], []), (1, [0,1,12], [], [], []), (2, [4], [], [], []), (3, [0,1,15], [], [], []), (4, [0,5], [], [], []), (5, [0,5,20], [], [], []), (6, [0,5], [], [], []), (7, [4], [], [], []), (8, [0,1,26], [], [], []), (9, [0,1,6,7], [], [], []), (10, [0,1,6,32], [], [], []), (11, [0,6,8], [], [], []), (12, [0,6,8,36], [], [], []), (14, [0,6,8,42], [], [], []), (15, [4], [], [], []), (13, [0,6,8], [], [], []), (16, [4], [], [], []), (17, [1,45], [], [], []), (18, [1,45,46,47], [], [], []), (19, [1,9,10,45], [], [], []), (20, [1,9,45,53], [], [], []), (21, [4], [], [], []), (22, [4], [], [], [])]
def r_strings_IndexAny : List RV := [.t 4]
abbrev n_strings_IndexAny : Nat := 28
theorem k_strings_IndexAny : Known Pr mu n_strings_IndexAny m_strings_IndexAny r_strings_IndexAny Go.Proofs.Tryd.f28.ntmps := .of h_strings_IndexAny hm Go.Proofs.Tryd.func28
def c29_1 : XC := fun _ => .region [] [xo 1 (.box (xt 0)),
 xo 2 (.mv (.const (.string ⟨#[]⟩)))] [1]
def c29_2 : XC := fun _ => .region [] [xo 9 (.ld (xt 1) 2 true),
 xo 10 (.call 32 [(xt 9)]),
 xo 11 (.not (xt 10))] [1,11]
def c29_3 : XC := fun _ => .region [] [xo 2 (.mv (.const (.string ⟨#[]⟩)))] [2]
def c29_4 : XC := fun _ => .seq c29_3 (fun _ => .ret)
def c29_5 : XC := fun _ => .cond (xt 11) c29_4 (fun _ => .skip)
def c29_6 : XC := fun _ => .seq c29_2 c29_5
def c29_7 : XC := fun _ => .region [] [xo 3 (.mv (.const (.string ⟨#[]⟩)))] [1,3]
def c29_8 : XC := fun _ => .region [] [xo 12 (.fa (xt 1) 0),
 xo 13 (.ld (xt 12) 1 false),
 xo 14 (.len false (xt 13)),
 xo 15 (.mv (xi 0))] [1,3,13,14,15]
def c29_9 : XC := fun _ => .region [] [xo 16 (.bin .lss (xt 15) (xt 14))] [1,3,13,14,15,16]
def c29_10 : XC := fun _ => .cond (xt 16) (fun _ => .skip) (fun _ => .exit 0)
def c29_11 : XC := fun _ => .region [] [xo 17 (.ia (xt 13) (xt 15) 1),
 xo 18 (.ld (xt 17) 1 false),
 xo 5 (.mv (xt 18))] [1,3,5,13,14,15]
def c29_12 : XC := fun _ => .region [] [xo 19 (.mv (xt 3)),
 xo 20 (.mv (xt 5)),
 xo 21 (.call 33 [(xt 20)]),
 xo 22 (.bin .add (xt 19) (xt 21)),
 xo 3 (.mv (xt 22))] [1,3,13,14,15]
def c29_13 : XC := fun _ => .seq c29_11 c29_12
def c29_14 : XC := fun _ => .block 1 c29_13
def c29_15 : XC := fun _ => .region [] [xo 23 (.bin .add (xt 15) (xi 1)),
 xo 15 (.mv (xt 23))] [1,3,13,14,15]
def c29_16 : XC := fun _ => .seq c29_14 c29_15
def c29_17 : XC := fun _ => .seq c29_10 c29_16
def c29_18 : XC := fun _ => .seq c29_9 c29_17
def c29_19 : XC := fun _ => .loop c29_18
def c29_20 : XC := fun _ => .block 0 c29_19
def c29_21 : XC := fun _ => .seq c29_8 c29_20
def c29_22 : XC := fun _ => .region [] [xo 24 (.fa (xt 1) 1),
 xo 25 (.ld (xt 24) 1 false),
 xo 26 (.len false (xt 25)),
 xo 27 (.mv (xi 0))] [3,25,26,27]
def c29_23 : XC := fun _ => .region [] [xo 28 (.bin .lss (xt 27) (xt 26))] [3,25,26,27,28]
def c29_24 : XC := fun _ => .cond (xt 28) (fun _ => .skip) (fun _ => .exit 2)
def c29_25 : XC := fun _ => .region [] [xo 29 (.ia (xt 25) (xt 27) 4),
 xo 30 (.ld (xt 29) 4 true),
 xo 7 (.alloc [.int .i64 0, .int .i64 0, .bool false, .int .i64 0]),
 xn (.sto (xt 7) (xt 30) 4)] [3,7,25,26,27]
def c29_26 : XC := fun _ => .region [] [xo 8 (.mv (.const (.string ⟨#[45]⟩)))] [3,7,8,25,26,27]
def c29_27 : XC := fun _ => .region [] [xo 31 (.fa (xt 7) 2),
 xo 32 (.fa (xt 31) 0),
 xo 33 (.ld (xt 32) 1 false)] [3,7,8,25,26,27,33]
def c29_28 : XC := fun _ => .region [] [xo 8 (.mv (.const (.string ⟨#[43]⟩)))] [3,7,8,25,26,27]
def c29_29 : XC := fun _ => .cond (xt 33) c29_28 (fun _ => .skip)
def c29_30 : XC := fun _ => .seq c29_27 c29_29
def c29_31 : XC := fun _ => .region [] [xo 34 (.mv (xt 3)),
 ⟨(some 35), .fa (xt 7) 0, none, [0]⟩,
 ⟨(some 36), .ld (xt 35) 1 false, none, [0]⟩,
 ⟨(some 37), .call 33 [(xt 36)], none, [0]⟩,
 xo 38 (.bin .add (.const (.string ⟨#[32]⟩)) (xt 37)),
 xo 39 (.bin .add (xt 38) (.const (.string ⟨#[46]⟩))),
 ⟨(some 40), .fa (xt 7) 1, none, [0, 1, 2, 3, 4, 5]⟩,
 ⟨(some 41), .ld (xt 40) 1 false, none, [0, 1, 2, 3, 4, 5]⟩,
 ⟨(some 42), .call 33 [(xt 41)], none, [0, 4, 5]⟩,
 xo 43 (.bin .add (xt 39) (xt 42)),
 xo 44 (.mv (xt 8)),
 xo 45 (.bin .add (xt 43) (xt 44)),
 ⟨(some 46), .fa (xt 7) 2, none, [0, 1, 2, 3, 4, 5, 6, 7, 8, 9, 10, 11]⟩,
 ⟨(some 47), .fa (xt 46) 1, none, [0, 1, 2, 3, 4, 5, 6, 7, 8, 9, 10, 11]⟩,
 ⟨(some 48), .ld (xt 47) 1 false, none, [0, 1, 2, 3, 4, 5, 6, 7, 8, 9, 10, 11]⟩,
 ⟨(some 49), .call 33 [(xt 48)], none, [0, 4, 5, 9, 10, 11]⟩,
 xo 50 (.bin .add (xt 45) (xt 49)),
 xo 51 (.bin .add (xt 34) (xt 50)),
 xo 3 (.mv (xt 51))] [3,25,26,27]
def c29_32 : XC := fun _ => .seq c29_30 c29_31
def c29_33 : XC := fun _ => .seq c29_26 c29_32
def c29_34 : XC := fun _ => .seq c29_25 c29_33
def c29_35 : XC := fun _ => .block 3 c29_34
def c29_36 : XC := fun _ => .region [] [xo 52 (.bin .add (xt 27) (xi 1)),
 xo 27 (.mv (xt 52))] [3,25,26,27]
def c29_37 : XC := fun _ => .seq c29_35 c29_36
def c29_38 : XC := fun _ => .seq c29_24 c29_37
def c29_39 : XC := fun _ => .seq c29_23 c29_38
def c29_40 : XC := fun _ => .loop c29_39
def c29_41 : XC := fun _ => .block 2 c29_40
def c29_42 : XC := fun _ => .seq c29_22 c29_41
def c29_43 : XC := fun _ => .region [] [xo 53 (.mv (xt 3)),
 xo 2 (.mv (xt 53))] [2]
def c29_44 : XC := fun _ => .seq c29_43 (fun _ => .ret)
def c29_45 : XC := fun _ => .seq c29_42 c29_44
def c29_46 : XC := fun _ => .seq c29_21 c29_45
def c29_47 : XC := fun _ => .seq c29_7 c29_46
def c29_48 : XC := fun _ => .seq c29_6 c29_47
def c29_49 : XC := fun _ => .seq c29_1 c29_48
def m_impl_FormatMachine : MCode := c29_49 ()
def h_impl_FormatMachine : Hints := [(0, [1], [], [], []), (1, [1,11], [], [], []), (2, [2], [], [], []), (3, [1,3], [], [], []), (4, [1,3,13,14,15], [], [], []), (5, [1,3,13,14,15,16], [], [], []), (6, [1,3,5,13,14,15], [], [], []), (7, [1,3,13,14,15], [], [], []), (8, [1,3,13,14,15], [], [], []), (9, [3,25,26,27], [], [], []), (10, [3,25,26,27,28], [], [], []), (11, [3,7,25,26,27], [], [], []), (12, [3,7,8,25,26,27], [], [], []), (13, [3,7,8,25,26,27,33], [], [], []), (14, [3,7,8,25,26,27], [], [], []), (15, [3,25,26,27], [[],[0],[0],[0],[],[],[0,1,2,3,4,5],[0,1,2,3,4,5],[0,4,5],[],[],[],[0,1,2,3,4,5,6,7,8,9,10,11],[0,1,2,3,4,5,6,7,8,9,10,11],[0,1,2,3,4,5,6,7,8,9,10,11],[0,4,5,9,10,11]], [], []), (16, [3,25,26,27], [], [], []), (17, [2], [], [], [])]
def r_impl_FormatMachine : List RV := [.t 2]
abbrev n_impl_FormatMachine : Nat := 29
theorem k_impl_FormatMachine : Known Pr mu n_impl_FormatMachine m_impl_FormatMachine r_impl_FormatMachine Go.Proofs.Tryd.f29.ntmps := .of h_impl_FormatMachine hm Go.Proofs.Tryd.func29
def c30_1 : XC := fun _ => .region [] [xo 2 (.mv (xi 0)),
 xo 3 (.mv (xb false))] [0]
def c30_2 : XC := fun _ => .region [] [xo 8 (.mv (xt 0)),
 xo 4 (.mv (xt 8)),
 xo 5 (.mv (xi 1))] [0,4,5]
def c30_3 : XC := fun _ => .region [] [xo 9 (.mv (xt 0)),
 xo 10 (.len true (xt 9)),
 xo 11 (.bin .gtr (xt 10) (xi 0)),
 xo 12 (.mv (xt 11)),
 ⟨(some 13), .mv (xt 0), (some (12, true)), []⟩,
 ⟨(some 14), .sidx (xt 13) (xi 0), (some (12, true)), []⟩,
 ⟨(some 15), .bin .eql (xt 14) (.const (.int .u8 45)), (some (12, true)), []⟩,
 xo 16 (.pick (xt 12) (xt 15) (xb false))] [0,4,5,16]
def c30_4 : XC := fun _ => .region [] [xo 17 (.mv (xt 0)),
 xo 18 (.slc true (xt 17) (some (xi 1)) none none 0),
 xo 4 (.mv (xt 18)),
 xo 5 (.mv (xi (-1)))] [0,4,5]
def c30_5 : XC := fun _ => .cond (xt 16) c30_4 (fun _ => .skip)
def c30_6 : XC := fun _ => .seq c30_3 c30_5
def c30_7 : XC := fun _ => .region [] [xo 19 (.mv (xt 4)),
 xo 20 (.len true (xt 19)),
 xo 21 (.call 31 [(xt 20), (xi 1), (xi 9)]),
 xo 22 (.not (xt 21))] [0,4,5,22]
def c30_8 : XC := fun _ => .region [] [xo 2 (.mv (xi 0)),
 xo 3 (.mv (xb false))] [2,3]
def c30_9 : XC := fun _ => .seq c30_8 (fun _ => .ret)
def c30_10 : XC := fun _ => .cond (xt 22) c30_9 (fun _ => .skip)
def c30_11 : XC := fun _ => .seq c30_7 c30_10
def c30_12 : XC := fun _ => .region [] [xo 6 (.mv (xi 0))] [0,4,5,6]
def c30_13 : XC := fun _ => .region [] [xo 23 (.mv (xt 4)),
 xo 24 (.len true (xt 23)),
 xo 25 (.mv (xi 0))] [0,4,5,6,24,25]
def c30_14 : XC := fun _ => .region [] [xo 26 (.bin .lss (xt 25) (xt 24))] [0,4,5,6,24,25,26]
def c30_15 : XC := fun _ => .cond (xt 26) (fun _ => .skip) (fun _ => .exit 0)
def c30_16 : XC := fun _ => .region [] [xo 27 (.mv (xt 25)),
 xo 7 (.mv (xt 27))] [0,4,5,6,7,24,25]
def c30_17 : XC := fun _ => .region [] [xo 28 (.mv (xt 4)),
 xo 29 (.mv (xt 7)),
 xo 30 (.sidx (xt 28) (xt 29)),
 xo 31 (.bin .lss (xt 30) (.const (.int .u8 48))),
 xo 32 (.mv (xt 31)),
 ⟨(some 33), .mv (xt 4), (some (32, false)), []⟩,
 ⟨(some 34), .mv (xt 7), (some (32, false)), []⟩,
 ⟨(some 35), .sidx (xt 33) (xt 34), (some (32, false)), []⟩,
 ⟨(some 36), .bin .gtr (xt 35) (.const (.int .u8 57)), (some (32, false)), []⟩,
 xo 37 (.pick (xt 32) (xb true) (xt 36))] [0,4,5,6,7,24,25,37]
def c30_18 : XC := fun _ => .region [] [xo 2 (.mv (xi 0)),
 xo 3 (.mv (xb false))] [2,3]
def c30_19 : XC := fun _ => .seq c30_18 (fun _ => .ret)
def c30_20 : XC := fun _ => .cond (xt 37) c30_19 (fun _ => .skip)
def c30_21 : XC := fun _ => .seq c30_17 c30_20
def c30_22 : XC := fun _ => .region [] [xo 38 (.mv (xt 6)),
 xo 39 (.bin .mul (xi 10) (xt 38)),
 xo 40 (.mv (xt 4)),
 xo 41 (.mv (xt 7)),
 xo 42 (.sidx (xt 40) (xt 41)),
 xo 43 (.bin .sub (xt 42) (.const (.int .u8 48))),
 xo 44 (.conv .i64 (xt 43)),
 xo 45 (.bin .add (xt 39) (xt 44)),
 xo 6 (.mv (xt 45))] [0,4,5,6,24,25]
def c30_23 : XC := fun _ => .seq c30_21 c30_22
def c30_24 : XC := fun _ => .seq c30_16 c30_23
def c30_25 : XC := fun _ => .block 1 c30_24
def c30_26 : XC := fun _ => .region [] [xo 46 (.bin .add (xt 25) (xi 1)),
 xo 25 (.mv (xt 46))] [0,4,5,6,24,25]
def c30_27 : XC := fun _ => .seq c30_25 c30_26
def c30_28 : XC := fun _ => .seq c30_15 c30_27
def c30_29 : XC := fun _ => .seq c30_14 c30_28
def c30_30 : XC := fun _ => .loop c30_29
def c30_31 : XC := fun _ => .block 0 c30_30
def c30_32 : XC := fun _ => .seq c30_13 c30_31
def c30_33 : XC := fun _ => .region [] [xo 47 (.mv (xt 5)),
 xo 48 (.mv (xt 6)),
 xo 49 (.bin .mul (xt 47) (xt 48)),
 xo 50 (.call 33 [(xt 49)]),
 xo 51 (.mv (xt 0)),
 xo 52 (.bin .neq (xt 50) (xt 51))] [5,6,52]
def c30_34 : XC := fun _ => .region [] [xo 2 (.mv (xi 0)),
 xo 3 (.mv (xb false))] [2,3]
def c30_35 : XC := fun _ => .seq c30_34 (fun _ => .ret)
def c30_36 : XC := fun _ => .cond (xt 52) c30_35 (fun _ => .skip)
def c30_37 : XC := fun _ => .seq c30_33 c30_36
def c30_38 : XC := fun _ => .region [] [xo 53 (.mv (xt 5)),
 xo 54 (.mv (xt 6)),
 xo 55 (.bin .mul (xt 53) (xt 54)),
 xo 2 (.mv (xt 55)),
 xo 3 (.mv (xb true))] [2,3]
def c30_39 : XC := fun _ => .seq c30_38 (fun _ => .ret)
def c30_40 : XC := fun _ => .seq c30_37 c30_39
def c30_41 : XC := fun _ => .seq c30_32 c30_40
def c30_42 : XC := fun _ => .seq c30_12 c30_41
def c30_43 : XC := fun _ => .seq c30_11 c30_42
def c30_44 : XC := fun _ => .seq c30_6 c30_43
def c30_45 : XC := fun _ => .seq c30_2 c30_44
def c30_46 : XC := fun _ => .seq c30_1 c30_45
def m_impl_ParseInt : MCode := c30_46 ()
def h_impl_ParseInt : Hints := [(0, [0], [], [], []), (1, [0,4,5], [], [], []), (2, [0,4,5,16], [], [], []), (3, [0,4,5], [], [], []), (4, [0,4,5,22], [], [], []), (5, [2,3], [], [], []), (6, [0,4,5,6], [], [], []), (7, [0,4,5,6,24,25], [], [], []), (8, [0,4,5,6,24,25,26], [], [], []), (9, [0,4,5,6,7,24,25], [], [], []), (10, [0,4,5,6,7,24,25,37], [], [], []), (11, [2,3], [], [], []), (12, [0,4,5,6,24,25], [], [], []), (13, [0,4,5,6,24,25], [], [], []), (14, [5,6,52], [], [], []), (15, [2,3], [], [], []), (16, [2,3], [], [], [])]
def r_impl_ParseInt : List RV := [.t 2, .t 3]
abbrev n_impl_ParseInt : Nat := 30
theorem k_impl_ParseInt : Known Pr mu n_impl_ParseInt m_impl_ParseInt r_impl_ParseInt Go.Proofs.Tryd.f30.ntmps := .of h_impl_ParseInt hm Go.Proofs.Tryd.func30
def c31_1 : XC := fun _ => .region [] [xo 6 (.mv (xb false))] [0,1,2]
def c31_2 : XC := fun _ => .region [] [xo 7 (.mv (xt 1)),
 xo 8 (.mv (xt 0)),
 xo 9 (.bin .leq (xt 7) (xt 8)),
 xo 10 (.mv (xt 9)),
 ⟨(some 11), .mv (xt 0), (some (10, true)), []⟩,
 ⟨(some 12), .mv (xt 2), (some (10, true)), []⟩,
 ⟨(some 13), .bin .leq (xt 11) (xt 12), (some (10, true)), []⟩,
 xo 14 (.pick (xt 10) (xt 13) (xb false)),
 xo 6 (.mv (xt 14))] [6]
def c31_3 : XC := fun _ => .seq c31_2 (fun _ => .ret)
def c31_4 : XC := fun _ => .seq c31_1 c31_3
def m_impl_within : MCode := c31_4 ()
def h_impl_within : Hints := [(0, [0,1,2], [], [], []), (1, [6], [], [], [])]
def r_impl_within : List RV := [.t 6]
abbrev n_impl_within : Nat := 31
theorem k_impl_within : Known Pr mu n_impl_within m_impl_within r_impl_within Go.Proofs.Tryd.f31.ntmps := .of h_impl_within hm Go.Proofs.Tryd.func31
def c32_1 : XC := fun _ => .region [] [xo 1 (.box (xt 0)),
 xo 2 (.mv (xb false))] [1]
def c32_2 : XC := fun _ => .region [] [xo 5 (.fa (xt 1) 0),
 xo 6 (.ld (xt 5) 1 false),
 xo 7 (.len false (xt 6)),
 xo 8 (.bin .neq (xt 7) (xi 3)),
 xo 9 (.mv (xt 8)),
 ⟨(some 10), .fa (xt 1) 0, (some (9, false)), []⟩,
 ⟨(some 11), .ld (xt 10) 1 false, (some (9, false)), []⟩,
 ⟨(some 12), .call 50 [(xt 11), (.func 51)], (some (9, false)), []⟩,
 xo 13 (.pick (xt 9) (xb true) (xt 12))] [1,13]
def c32_3 : XC := fun _ => .region [] [xo 2 (.mv (xb false))] [2]
def c32_4 : XC := fun _ => .seq c32_3 (fun _ => .ret)
def c32_5 : XC := fun _ => .cond (xt 13) c32_4 (fun _ => .skip)
def c32_6 : XC := fun _ => .seq c32_2 c32_5
def c32_7 : XC := fun _ => .region [] [xo 14 (.fa (xt 1) 1),
 xo 15 (.ld (xt 14) 1 false),
 xo 16 (.len false (xt 15)),
 xo 17 (.mv (xi 0))] [1,15,16,17]
def c32_8 : XC := fun _ => .region [] [xo 18 (.bin .lss (xt 17) (xt 16))] [1,15,16,17,18]
def c32_9 : XC := fun _ => .cond (xt 18) (fun _ => .skip) (fun _ => .exit 0)
def c32_10 : XC := fun _ => .region [] [xo 19 (.mv (xt 17)),
 xo 20 (.ia (xt 15) (xt 17) 4),
 xo 21 (.ld (xt 20) 4 true),
 xo 4 (.alloc [.int .i64 0, .int .i64 0, .bool false, .int .i64 0]),
 xo 3 (.mv (xt 19)),
 xn (.sto (xt 4) (xt 21) 4)] [1,3,4,15,16,17]
def c32_11 : XC := fun _ => .region [] [xo 22 (.fa (xt 4) 0),
 xo 23 (.ld (xt 22) 1 false),
 xo 24 (.call 31 [(xt 23), (xi 0), (xi 2)]),
 xo 25 (.not (xt 24)),
 xo 26 (.mv (xt 25)),
 ⟨(some 27), .mv (xt 3), (some (26, false)), []⟩,
 ⟨(some 28), .bin .gtr (xt 27) (xi 0), (some (26, false)), []⟩,
 ⟨(some 29), .mv (xt 28), (some (26, false)), []⟩,
 ⟨(some 30), .fa (xt 4) 0, (some (29, true)), []⟩,
 ⟨(some 31), .ld (xt 30) 1 false, (some (29, true)), []⟩,
 ⟨(some 32), .fa (xt 1) 1, (some (29, true)), [8, 9]⟩,
 ⟨(some 33), .ld (xt 32) 1 false, (some (29, true)), [8, 9]⟩,
 ⟨(some 34), .mv (xt 3), (some (29, true)), []⟩,
 ⟨(some 35), .bin .sub (xt 34) (xi 1), (some (29, true)), []⟩,
 ⟨(some 36), .ia (xt 33) (xt 35) 4, (some (29, true)), [8, 9]⟩,
 ⟨(some 37), .fa (xt 36) 0, (some (29, true)), [8, 9]⟩,
 ⟨(some 38), .ld (xt 37) 1 false, (some (29, true)), [8, 9]⟩,
 ⟨(some 39), .bin .leq (xt 31) (xt 38), (some (29, true)), []⟩,
 ⟨(some 40), .pick (xt 29) (xt 39) (xb false), (some (26, false)), []⟩,
 xo 41 (.pick (xt 26) (xb true) (xt 40)),
 xo 42 (.mv (xt 41)),
 ⟨(some 43), .fa (xt 4) 1, (some (42, false)), []⟩,
 ⟨(some 44), .ld (xt 43) 1 false, (some (42, false)), []⟩,
 ⟨(some 45), .call 31 [(xt 44), (xi 1), (xi 99)], (some (42, false)), []⟩,
 ⟨(some 46), .not (xt 45), (some (42, false)), []⟩,
 xo 47 (.pick (xt 42) (xb true) (xt 46)),
 xo 48 (.mv (xt 47)),
 ⟨(some 49), .fa (xt 4) 2, (some (48, false)), []⟩,
 ⟨(some 50), .fa (xt 49) 1, (some (48, false)), []⟩,
 ⟨(some 51), .ld (xt 50) 1 false, (some (48, false)), []⟩,
 ⟨(some 52), .call 31 [(xt 51), (xi 0), (xi 9)], (some (48, false)), []⟩,
 ⟨(some 53), .not (xt 52), (some (48, false)), []⟩,
 xo 54 (.pick (xt 48) (xb true) (xt 53))] [1,15,16,17,54]
def c32_12 : XC := fun _ => .region [] [xo 2 (.mv (xb false))] [2]
def c32_13 : XC := fun _ => .seq c32_12 (fun _ => .ret)
def c32_14 : XC := fun _ => .cond (xt 54) c32_13 (fun _ => .skip)
def c32_15 : XC := fun _ => .seq c32_11 c32_14
def c32_16 : XC := fun _ => .seq c32_10 c32_15
def c32_17 : XC := fun _ => .block 1 c32_16
def c32_18 : XC := fun _ => .region [] [xo 55 (.bin .add (xt 17) (xi 1)),
 xo 17 (.mv (xt 55))] [1,15,16,17]
def c32_19 : XC := fun _ => .seq c32_17 c32_18
def c32_20 : XC := fun _ => .seq c32_9 c32_19
def c32_21 : XC := fun _ => .seq c32_8 c32_20
def c32_22 : XC := fun _ => .loop c32_21
def c32_23 : XC := fun _ => .block 0 c32_22
def c32_24 : XC := fun _ => .seq c32_7 c32_23
def c32_25 : XC := fun _ => .region [] [xo 2 (.mv (xb true))] [2]
def c32_26 : XC := fun _ => .seq c32_25 (fun _ => .ret)
def c32_27 : XC := fun _ => .seq c32_24 c32_26
def c32_28 : XC := fun _ => .seq c32_6 c32_27
def c32_29 : XC := fun _ => .seq c32_1 c32_28
def m_impl_IsValidMachine : MCode := c32_29 ()
def h_impl_IsValidMachine : Hints := [(0, [1], [], [], []), (1, [1,13], [], [], []), (2, [2], [], [], []), (3, [1,15,16,17], [], [], []), (4, [1,15,16,17,18], [], [], []), (5, [1,3,4,15,16,17], [], [], []), (6, [1,15,16,17,54], [[],[],[],[],[],[],[],[],[],[],[8,9],[8,9],[],[],[8,9],[8,9],[8,9]], [], []), (7, [2], [], [], []), (8, [1,15,16,17], [], [], []), (9, [2], [], [], [])]
def r_impl_IsValidMachine : List RV := [.t 2]
abbrev n_impl_IsValidMachine : Nat := 32
theorem k_impl_IsValidMachine : Known Pr mu n_impl_IsValidMachine m_impl_IsValidMachine r_impl_IsValidMachine Go.Proofs.Tryd.f32.ntmps := .of h_impl_IsValidMachine hm Go.Proofs.Tryd.func32
def c33_1 : XC := fun _ => .region [] [xo 2 (.mv (.const (.string ⟨#[]⟩)))] [0]
def c33_2 : XC := fun _ => .region [] [xo 3 (.mv (xt 0)),
 xo 4 (.call 52 [(xt 3)]),
 xo 2 (.mv (xt 4))] [2]
def c33_3 : XC := fun _ => .seq c33_2 (fun _ => .ret)
def c33_4 : XC := fun _ => .seq c33_1 c33_3
def m_impl_FormatInt : MCode := c33_4 ()
def h_impl_FormatInt : Hints := [(0, [0], [], [], []), (1, [2], [], [], [])]
def r_impl_FormatInt : List RV := [.t 2]
abbrev n_impl_FormatInt : Nat := 33
theorem k_impl_FormatInt : Known Pr mu n_impl_FormatInt m_impl_FormatInt r_impl_FormatInt Go.Proofs.Tryd.f33.ntmps := .of h_impl_FormatInt hm Go.Proofs.Tryd.func33
def c34_1 : XC := fun _ => .region [] [xo 4 (.mv (xb false))] [0,1]
def c34_2 : XC := fun _ => .region [] [xo 6 (.mv (xt 0)),
 xo 7 (.len false (xt 6)),
 xo 8 (.mv (xt 1)),
 xo 9 (.len false (xt 8)),
 xo 10 (.bin .neq (xt 7) (xt 9))] [0,1,10]
def c34_3 : XC := fun _ => .region [] [xo 4 (.mv (xb false))] [4]
def c34_4 : XC := fun _ => .seq c34_3 (fun _ => .ret)
def c34_5 : XC := fun _ => .cond (xt 10) c34_4 (fun _ => .skip)
def c34_6 : XC := fun _ => .seq c34_2 c34_5
def c34_7 : XC := fun _ => .region [] [xo 5 (.mv (xi 0))] [0,1,5]
def c34_8 : XC := fun _ => .region [] [xo 11 (.mv (xt 5)),
 xo 12 (.mv (xt 0)),
 xo 13 (.len false (xt 12)),
 xo 14 (.bin .lss (xt 11) (xt 13))] [0,1,5,14]
def c34_9 : XC := fun _ => .cond (xt 14) (fun _ => .skip) (fun _ => .exit 0)
def c34_10 : XC := fun _ => .seq c34_8 c34_9
def c34_11 : XC := fun _ => .region [] [xo 17 (.mv (xt 0)),
 xo 18 (.mv (xt 5)),
 xo 19 (.ia (xt 17) (xt 18) 1),
 xo 20 (.ld (xt 19) 1 false),
 xo 21 (.mv (xt 1)),
 xo 22 (.mv (xt 5)),
 ⟨(some 23), .ia (xt 21) (xt 22) 1, none, [0, 1, 2, 3]⟩,
 ⟨(some 24), .ld (xt 23) 1 false, none, [0, 1, 2, 3]⟩,
 xo 25 (.bin .neq (xt 20) (xt 24))] [0,1,5,25]
def c34_12 : XC := fun _ => .region [] [xo 4 (.mv (xb false))] [4]
def c34_13 : XC := fun _ => .seq c34_12 (fun _ => .ret)
def c34_14 : XC := fun _ => .cond (xt 25) c34_13 (fun _ => .skip)
def c34_15 : XC := fun _ => .seq c34_11 c34_14
def c34_16 : XC := fun _ => .block 1 c34_15
def c34_17 : XC := fun _ => .region [] [xo 15 (.mv (xt 5)),
 xo 16 (.bin .add (xt 15) (xi 1)),
 xo 5 (.mv (xt 16))] [0,1,5]
def c34_18 : XC := fun _ => .seq c34_16 c34_17
def c34_19 : XC := fun _ => .seq c34_10 c34_18
def c34_20 : XC := fun _ => .loop c34_19
def c34_21 : XC := fun _ => .block 0 c34_20
def c34_22 : XC := fun _ => .seq c34_7 c34_21
def c34_23 : XC := fun _ => .region [] [xo 4 (.mv (xb true))] [4]
def c34_24 : XC := fun _ => .seq c34_23 (fun _ => .ret)
def c34_25 : XC := fun _ => .seq c34_22 c34_24
def c34_26 : XC := fun _ => .seq c34_6 c34_25
def c34_27 : XC := fun _ => .seq c34_1 c34_26
def m_laws_eqIntS : MCode := c34_27 ()
def h_laws_eqIntS : Hints := [(0, [0,1], [], [], []), (1, [0,1,10], [], [], []), (2, [4], [], [], []), (3, [0,1,5], [], [], []), (4, [0,1,5,14], [], [], []), (6, [0,1,5,25], [[],[],[],[],[],[],[0,1,2,3],[0,1,2,3]], [], []), (7, [4], [], [], []), (5, [0,1,5], [], [], []), (8, [4], [], [], [])]
def r_laws_eqIntS : List RV := [.t 4]
abbrev n_laws_eqIntS : Nat := 34
theorem k_laws_eqIntS : Known Pr mu n_laws_eqIntS m_laws_eqIntS r_laws_eqIntS Go.Proofs.Tryd.f34.ntmps := .of h_laws_eqIntS hm Go.Proofs.Tryd.func34
def c35_1 : XC := fun _ => .region [] [xo 4 (.mv (xb false))] [0,1]
def c35_2 : XC := fun _ => .region [] [xo 6 (.mv (xt 0)),
 xo 7 (.len false (xt 6)),
 xo 8 (.mv (xt 1)),
 xo 9 (.len false (xt 8)),
 xo 10 (.bin .neq (xt 7) (xt 9))] [0,1,10]
def c35_3 : XC := fun _ => .region [] [xo 4 (.mv (xb false))] [4]
def c35_4 : XC := fun _ => .seq c35_3 (fun _ => .ret)
def c35_5 : XC := fun _ => .cond (xt 10) c35_4 (fun _ => .skip)
def c35_6 : XC := fun _ => .seq c35_2 c35_5
def c35_7 : XC := fun _ => .region [] [xo 5 (.mv (xi 0))] [0,1,5]
def c35_8 : XC := fun _ => .region [] [xo 11 (.mv (xt 5)),
 xo 12 (.mv (xt 0)),
 xo 13 (.len false (xt 12)),
 xo 14 (.bin .lss (xt 11) (xt 13))] [0,1,5,14]
def c35_9 : XC := fun _ => .cond (xt 14) (fun _ => .skip) (fun _ => .exit 0)
def c35_10 : XC := fun _ => .seq c35_8 c35_9
def c35_11 : XC := fun _ => .region [] [xo 17 (.mv (xt 0)),
 xo 18 (.mv (xt 5)),
 xo 19 (.ia (xt 17) (xt 18) 4),
 xo 20 (.ld (xt 19) 4 true),
 xo 21 (.mv (xt 1)),
 xo 22 (.mv (xt 5)),
 ⟨(some 23), .ia (xt 21) (xt 22) 4, none, [0, 1, 2, 3]⟩,
 ⟨(some 24), .ld (xt 23) 4 true, none, [0, 1, 2, 3]⟩,
 xo 25 (.call 53 [(xt 20), (xt 24)]),
 xo 26 (.not (xt 25))] [0,1,5,26]
def c35_12 : XC := fun _ => .region [] [xo 4 (.mv (xb false))] [4]
def c35_13 : XC := fun _ => .seq c35_12 (fun _ => .ret)
def c35_14 : XC := fun _ => .cond (xt 26) c35_13 (fun _ => .skip)
def c35_15 : XC := fun _ => .seq c35_11 c35_14
def c35_16 : XC := fun _ => .block 1 c35_15
def c35_17 : XC := fun _ => .region [] [xo 15 (.mv (xt 5)),
 xo 16 (.bin .add (xt 15) (xi 1)),
 xo 5 (.mv (xt 16))] [0,1,5]
def c35_18 : XC := fun _ => .seq c35_16 c35_17
def c35_19 : XC := fun _ => .seq c35_10 c35_18
def c35_20 : XC := fun _ => .loop c35_19
def c35_21 : XC := fun _ => .block 0 c35_20
def c35_22 : XC := fun _ => .seq c35_7 c35_21
def c35_23 : XC := fun _ => .region [] [xo 4 (.mv (xb true))] [4]
def c35_24 : XC := fun _ => .seq c35_23 (fun _ => .ret)
def c35_25 : XC := fun _ => .seq c35_22 c35_24
def c35_26 : XC := fun _ => .seq c35_6 c35_25
def c35_27 : XC := fun _ => .seq c35_1 c35_26
def m_laws_eqSessionS : MCode := c35_27 ()
def h_laws_eqSessionS : Hints := [(0, [0,1], [], [], []), (1, [0,1,10], [], [], []), (2, [4], [], [], []), (3, [0,1,5], [], [], []), (4, [0,1,5,14], [], [], []), (6, [0,1,5,26], [[],[],[],[],[],[],[0,1,2,3],[0,1,2,3]], [], []), (7, [4], [], [], []), (5, [0,1,5], [], [], []), (8, [4], [], [], [])]
def r_laws_eqSessionS : List RV := [.t 4]
abbrev n_laws_eqSessionS : Nat := 35
theorem k_laws_eqSessionS : Known Pr mu n_laws_eqSessionS m_laws_eqSessionS r_laws_eqSessionS Go.Proofs.Tryd.f35.ntmps := .of h_laws_eqSessionS hm Go.Proofs.Tryd.func35
def c36_1 : XC := fun _ => .region [] [xo 4 (.mv (xi 0))] [0,1]
def c36_2 : XC := fun _ => .region [] [xo 5 (.mv (xi 0))] [0,1,5]
def c36_3 : XC := fun _ => .region [] [xo 6 (.mv (xt 5)),
 xo 7 (.mv (xt 0)),
 xo 8 (.len false (xt 7)),
 xo 9 (.bin .lss (xt 6) (xt 8))] [0,1,5,9]
def c36_4 : XC := fun _ => .cond (xt 9) (fun _ => .skip) (fun _ => .exit 0)
def c36_5 : XC := fun _ => .seq c36_3 c36_4
def c36_6 : XC := fun _ => .region [] [xo 12 (.mv (xt 0)),
 xo 13 (.mv (xt 5)),
 xo 14 (.mv (xt 1)),
 xo 15 (.ia (xt 12) (xt 13) 1),
 xn (.sto (xt 15) (xt 14) 1)] [0,1,5]
def c36_7 : XC := fun _ => .region [] [xo 16 (.mv (xt 1)),
 xo 17 (.bin .add (xt 16) (xi 1)),
 xo 1 (.mv (xt 17))] [0,1,5]
def c36_8 : XC := fun _ => .seq c36_6 c36_7
def c36_9 : XC := fun _ => .block 1 c36_8
def c36_10 : XC := fun _ => .region [] [xo 10 (.mv (xt 5)),
 xo 11 (.bin .add (xt 10) (xi 1)),
 xo 5 (.mv (xt 11))] [0,1,5]
def c36_11 : XC := fun _ => .seq c36_9 c36_10
def c36_12 : XC := fun _ => .seq c36_5 c36_11
def c36_13 : XC := fun _ => .loop c36_12
def c36_14 : XC := fun _ => .block 0 c36_13
def c36_15 : XC := fun _ => .seq c36_2 c36_14
def c36_16 : XC := fun _ => .region [] [xo 18 (.mv (xt 1)),
 xo 4 (.mv (xt 18))] [4]
def c36_17 : XC := fun _ => .seq c36_16 (fun _ => .ret)
def c36_18 : XC := fun _ => .seq c36_15 c36_17
def c36_19 : XC := fun _ => .seq c36_1 c36_18
def m_laws_markIntS : MCode := c36_19 ()
def h_laws_markIntS : Hints := [(0, [0,1], [], [], []), (1, [0,1,5], [], [], []), (2, [0,1,5,9], [], [], []), (4, [0,1,5], [], [], []), (5, [0,1,5], [], [], []), (3, [0,1,5], [], [], []), (6, [4], [], [], [])]
def r_laws_markIntS : List RV := [.t 4]
abbrev n_laws_markIntS : Nat := 36
theorem k_laws_markIntS : Known Pr mu n_laws_markIntS m_laws_markIntS r_laws_markIntS Go.Proofs.Tryd.f36.ntmps := .of h_laws_markIntS hm Go.Proofs.Tryd.func36
def c37_1 : XC := fun _ => .region [] [xo 4 (.mv (xi 0))] [0,1]
def c37_2 : XC := fun _ => .region [] [xo 5 (.mv (xi 0))] [0,1,5]
def c37_3 : XC := fun _ => .region [] [xo 6 (.mv (xt 5)),
 xo 7 (.mv (xt 0)),
 xo 8 (.len false (xt 7)),
 xo 9 (.bin .lss (xt 6) (xt 8))] [0,1,5,9]
def c37_4 : XC := fun _ => .cond (xt 9) (fun _ => .skip) (fun _ => .exit 0)
def c37_5 : XC := fun _ => .seq c37_3 c37_4
def c37_6 : XC := fun _ => .region [] [xo 12 (.mv (xt 0)),
 xo 13 (.mv (xt 5)),
 xo 14 (.mv (xt 1)),
 xo 15 (.ia (xt 12) (xt 13) 4),
 xo 16 (.fa (xt 15) 0),
 xn (.sto (xt 16) (xt 14) 1)] [0,1,5]
def c37_7 : XC := fun _ => .region [] [xo 17 (.mv (xt 1)),
 xo 18 (.bin .add (xt 17) (xi 1)),
 xo 1 (.mv (xt 18))] [0,1,5]
def c37_8 : XC := fun _ => .region [] [xo 19 (.mv (xt 0)),
 xo 20 (.mv (xt 5)),
 xo 21 (.mv (xt 1)),
 xo 22 (.ia (xt 19) (xt 20) 4),
 xo 23 (.fa (xt 22) 1),
 xn (.sto (xt 23) (xt 21) 1)] [0,1,5]
def c37_9 : XC := fun _ => .region [] [xo 24 (.mv (xt 1)),
 xo 25 (.bin .add (xt 24) (xi 1)),
 xo 1 (.mv (xt 25))] [0,1,5]
def c37_10 : XC := fun _ => .region [] [xo 26 (.mv (xt 0)),
 xo 27 (.mv (xt 5)),
 xo 28 (.mv (xt 1)),
 xo 29 (.bin .rem (xt 28) (xi 3)),
 xo 30 (.bin .eql (xt 29) (xi 0)),
 xo 31 (.ia (xt 26) (xt 27) 4),
 xo 32 (.fa (xt 31) 2),
 xo 33 (.fa (xt 32) 0),
 xn (.sto (xt 33) (xt 30) 1)] [0,1,5]
def c37_11 : XC := fun _ => .region [] [xo 34 (.mv (xt 1)),
 xo 35 (.bin .add (xt 34) (xi 1)),
 xo 1 (.mv (xt 35))] [0,1,5]
def c37_12 : XC := fun _ => .region [] [xo 36 (.mv (xt 0)),
 xo 37 (.mv (xt 5)),
 xo 38 (.mv (xt 1)),
 xo 39 (.ia (xt 36) (xt 37) 4),
 xo 40 (.fa (xt 39) 2),
 xo 41 (.fa (xt 40) 1),
 xn (.sto (xt 41) (xt 38) 1)] [0,1,5]
def c37_13 : XC := fun _ => .region [] [xo 42 (.mv (xt 1)),
 xo 43 (.bin .add (xt 42) (xi 1)),
 xo 1 (.mv (xt 43))] [0,1,5]
def c37_14 : XC := fun _ => .seq c37_12 c37_13
def c37_15 : XC := fun _ => .seq c37_11 c37_14
def c37_16 : XC := fun _ => .seq c37_10 c37_15
def c37_17 : XC := fun _ => .seq c37_9 c37_16
def c37_18 : XC := fun _ => .seq c37_8 c37_17
def c37_19 : XC := fun _ => .seq c37_7 c37_18
def c37_20 : XC := fun _ => .seq c37_6 c37_19
def c37_21 : XC := fun _ => .block 1 c37_20
def c37_22 : XC := fun _ => .region [] [xo 10 (.mv (xt 5)),
 xo 11 (.bin .add (xt 10) (xi 1)),
 xo 5 (.mv (xt 11))] [0,1,5]
def c37_23 : XC := fun _ => .seq c37_21 c37_22
def c37_24 : XC := fun _ => .seq c37_5 c37_23
def c37_25 : XC := fun _ => .loop c37_24
def c37_26 : XC := fun _ => .block 0 c37_25
def c37_27 : XC := fun _ => .seq c37_2 c37_26
def c37_28 : XC := fun _ => .region [] [xo 44 (.mv (xt 1)),
 xo 4 (.mv (xt 44))] [4]
def c37_29 : XC := fun _ => .seq c37_28 (fun _ => .ret)
def c37_30 : XC := fun _ => .seq c37_27 c37_29
def c37_31 : XC := fun _ => .seq c37_1 c37_30
def m_laws_markSessionS : MCode := c37_31 ()
def h_laws_markSessionS : Hints := [(0, [0,1], [], [], []), (1, [0,1,5], [], [], []), (2, [0,1,5,9], [], [], []), (4, [0,1,5], [], [], []), (5, [0,1,5], [], [], []), (6, [0,1,5], [], [], []), (7, [0,1,5], [], [], []), (8, [0,1,5], [], [], []), (9, [0,1,5], [], [], []), (10, [0,1,5], [], [], []), (11, [0,1,5], [], [], []), (3, [0,1,5], [], [], []), (12, [4], [], [], [])]
def r_laws_markSessionS : List RV := [.t 4]
abbrev n_laws_markSessionS : Nat := 37
theorem k_laws_markSessionS : Known Pr mu n_laws_markSessionS m_laws_markSessionS r_laws_markSessionS Go.Proofs.Tryd.f37.ntmps := .of h_laws_markSessionS hm Go.Proofs.Tryd.func37
def c38_1 : XC := fun _ => .region [] [xo 4 (.mv (xi 0))] [0,1]
def c38_2 : XC := fun _ => .region [] [xo 5 (.mv (xi 0))] [0,1,5]
def c38_3 : XC := fun _ => .region [] [xo 6 (.mv (xt 5)),
 xo 7 (.mv (xt 0)),
 xo 8 (.len false (xt 7)),
 xo 9 (.bin .lss (xt 6) (xt 8))] [0,1,5,9]
def c38_4 : XC := fun _ => .cond (xt 9) (fun _ => .skip) (fun _ => .exit 0)
def c38_5 : XC := fun _ => .seq c38_3 c38_4
def c38_6 : XC := fun _ => .region [] [xo 12 (.mv (xt 0)),
 xo 13 (.mv (xt 5)),
 xo 14 (.ia (xt 12) (xt 13) 1),
 xo 15 (.ld (xt 14) 1 false),
 xo 16 (.mv (xt 1)),
 xo 17 (.bin .neq (xt 15) (xt 16))] [0,1,5,17]
def c38_7 : XC := fun _ => .region [] [xo 4 (.mv (xi (-1)))] [4]
def c38_8 : XC := fun _ => .seq c38_7 (fun _ => .ret)
def c38_9 : XC := fun _ => .cond (xt 17) c38_8 (fun _ => .skip)
def c38_10 : XC := fun _ => .seq c38_6 c38_9
def c38_11 : XC := fun _ => .region [] [xo 18 (.mv (xt 1)),
 xo 19 (.bin .add (xt 18) (xi 1)),
 xo 1 (.mv (xt 19))] [0,1,5]
def c38_12 : XC := fun _ => .seq c38_10 c38_11
def c38_13 : XC := fun _ => .block 1 c38_12
def c38_14 : XC := fun _ => .region [] [xo 10 (.mv (xt 5)),
 xo 11 (.bin .add (xt 10) (xi 1)),
 xo 5 (.mv (xt 11))] [0,1,5]
def c38_15 : XC := fun _ => .seq c38_13 c38_14
def c38_16 : XC := fun _ => .seq c38_5 c38_15
def c38_17 : XC := fun _ => .loop c38_16
def c38_18 : XC := fun _ => .block 0 c38_17
def c38_19 : XC := fun _ => .seq c38_2 c38_18
def c38_20 : XC := fun _ => .region [] [xo 20 (.mv (xt 1)),
 xo 4 (.mv (xt 20))] [4]
def c38_21 : XC := fun _ => .seq c38_20 (fun _ => .ret)
def c38_22 : XC := fun _ => .seq c38_19 c38_21
def c38_23 : XC := fun _ => .seq c38_1 c38_22
def m_laws_heldIntS : MCode := c38_23 ()
def h_laws_heldIntS : Hints := [(0, [0,1], [], [], []), (1, [0,1,5], [], [], []), (2, [0,1,5,9], [], [], []), (4, [0,1,5,17], [], [], []), (5, [4], [], [], []), (6, [0,1,5], [], [], []), (3, [0,1,5], [], [], []), (7, [4], [], [], [])]
def r_laws_heldIntS : List RV := [.t 4]
abbrev n_laws_heldIntS : Nat := 38
theorem k_laws_heldIntS : Known Pr mu n_laws_heldIntS m_laws_heldIntS r_laws_heldIntS Go.Proofs.Tryd.f38.ntmps := .of h_laws_heldIntS hm Go.Proofs.Tryd.func38
def c39_1 : XC := fun _ => .region [] [xo 4 (.mv (xi 0))] [0,1]
def c39_2 : XC := fun _ => .region [] [xo 5 (.mv (xi 0))] [0,1,5]
def c39_3 : XC := fun _ => .region [] [xo 6 (.mv (xt 5)),
 xo 7 (.mv (xt 0)),
 xo 8 (.len false (xt 7)),
 xo 9 (.bin .lss (xt 6) (xt 8))] [0,1,5,9]
def c39_4 : XC := fun _ => .cond (xt 9) (fun _ => .skip) (fun _ => .exit 0)
def c39_5 : XC := fun _ => .seq c39_3 c39_4
def c39_6 : XC := fun _ => .region [] [xo 12 (.mv (xt 0)),
 xo 13 (.mv (xt 5)),
 xo 14 (.ia (xt 12) (xt 13) 4),
 xo 15 (.fa (xt 14) 0),
 xo 16 (.ld (xt 15) 1 false),
 xo 17 (.mv (xt 1)),
 xo 18 (.bin .neq (xt 16) (xt 17))] [0,1,5,18]
def c39_7 : XC := fun _ => .region [] [xo 4 (.mv (xi (-1)))] [4]
def c39_8 : XC := fun _ => .seq c39_7 (fun _ => .ret)
def c39_9 : XC := fun _ => .cond (xt 18) c39_8 (fun _ => .skip)
def c39_10 : XC := fun _ => .seq c39_6 c39_9
def c39_11 : XC := fun _ => .region [] [xo 19 (.mv (xt 1)),
 xo 20 (.bin .add (xt 19) (xi 1)),
 xo 1 (.mv (xt 20))] [0,1,5]
def c39_12 : XC := fun _ => .region [] [xo 21 (.mv (xt 0)),
 xo 22 (.mv (xt 5)),
 xo 23 (.ia (xt 21) (xt 22) 4),
 xo 24 (.fa (xt 23) 1),
 xo 25 (.ld (xt 24) 1 false),
 xo 26 (.mv (xt 1)),
 xo 27 (.bin .neq (xt 25) (xt 26))] [0,1,5,27]
def c39_13 : XC := fun _ => .region [] [xo 4 (.mv (xi (-1)))] [4]
def c39_14 : XC := fun _ => .seq c39_13 (fun _ => .ret)
def c39_15 : XC := fun _ => .cond (xt 27) c39_14 (fun _ => .skip)
def c39_16 : XC := fun _ => .seq c39_12 c39_15
def c39_17 : XC := fun _ => .region [] [xo 28 (.mv (xt 1)),
 xo 29 (.bin .add (xt 28) (xi 1)),
 xo 1 (.mv (xt 29))] [0,1,5]
def c39_18 : XC := fun _ => .region [] [xo 30 (.mv (xt 0)),
 xo 31 (.mv (xt 5)),
 xo 32 (.ia (xt 30) (xt 31) 4),
 xo 33 (.fa (xt 32) 2),
 xo 34 (.fa (xt 33) 0),
 xo 35 (.ld (xt 34) 1 false),
 xo 36 (.mv (xt 1)),
 xo 37 (.bin .rem (xt 36) (xi 3)),
 xo 38 (.bin .eql (xt 37) (xi 0)),
 xo 39 (.bbin .neq (xt 35) (xt 38))] [0,1,5,39]
def c39_19 : XC := fun _ => .region [] [xo 4 (.mv (xi (-1)))] [4]
def c39_20 : XC := fun _ => .seq c39_19 (fun _ => .ret)
def c39_21 : XC := fun _ => .cond (xt 39) c39_20 (fun _ => .skip)
def c39_22 : XC := fun _ => .seq c39_18 c39_21
def c39_23 : XC := fun _ => .region [] [xo 40 (.mv (xt 1)),
 xo 41 (.bin .add (xt 40) (xi 1)),
 xo 1 (.mv (xt 41))] [0,1,5]
def c39_24 : XC := fun _ => .region [] [xo 42 (.mv (xt 0)),
 xo 43 (.mv (xt 5)),
 xo 44 (.ia (xt 42) (xt 43) 4),
 xo 45 (.fa (xt 44) 2),
 xo 46 (.fa (xt 45) 1),
 xo 47 (.ld (xt 46) 1 false),
 xo 48 (.mv (xt 1)),
 xo 49 (.bin .neq (xt 47) (xt 48))] [0,1,5,49]
def c39_25 : XC := fun _ => .region [] [xo 4 (.mv (xi (-1)))] [4]
def c39_26 : XC := fun _ => .seq c39_25 (fun _ => .ret)
def c39_27 : XC := fun _ => .cond (xt 49) c39_26 (fun _ => .skip)
def c39_28 : XC := fun _ => .seq c39_24 c39_27
def c39_29 : XC := fun _ => .region [] [xo 50 (.mv (xt 1)),
 xo 51 (.bin .add (xt 50) (xi 1)),
 xo 1 (.mv (xt 51))] [0,1,5]
def c39_30 : XC := fun _ => .seq c39_28 c39_29
def c39_31 : XC := fun _ => .seq c39_23 c39_30
def c39_32 : XC := fun _ => .seq c39_22 c39_31
def c39_33 : XC := fun _ => .seq c39_17 c39_32
def c39_34 : XC := fun _ => .seq c39_16 c39_33
def c39_35 : XC := fun _ => .seq c39_11 c39_34
def c39_36 : XC := fun _ => .seq c39_10 c39_35
def c39_37 : XC := fun _ => .block 1 c39_36
def c39_38 : XC := fun _ => .region [] [xo 10 (.mv (xt 5)),
 xo 11 (.bin .add (xt 10) (xi 1)),
 xo 5 (.mv (xt 11))] [0,1,5]
def c39_39 : XC := fun _ => .seq c39_37 c39_38
def c39_40 : XC := fun _ => .seq c39_5 c39_39
def c39_41 : XC := fun _ => .loop c39_40
def c39_42 : XC := fun _ => .block 0 c39_41
def c39_43 : XC := fun _ => .seq c39_2 c39_42
def c39_44 : XC := fun _ => .region [] [xo 52 (.mv (xt 1)),
 xo 4 (.mv (xt 52))] [4]
def c39_45 : XC := fun _ => .seq c39_44 (fun _ => .ret)
def c39_46 : XC := fun _ => .seq c39_43 c39_45
def c39_47 : XC := fun _ => .seq c39_1 c39_46
def m_laws_heldSessionS : MCode := c39_47 ()
def h_laws_heldSessionS : Hints := [(0, [0,1], [], [], []), (1, [0,1,5], [], [], []), (2, [0,1,5,9], [], [], []), (4, [0,1,5,18], [], [], []), (5, [4], [], [], []), (6, [0,1,5], [], [], []), (7, [0,1,5,27], [], [], []), (8, [4], [], [], []), (9, [0,1,5], [], [], []), (10, [0,1,5,39], [], [], []), (11, [4], [], [], []), (12, [0,1,5], [], [], []), (13, [0,1,5,49], [], [], []), (14, [4], [], [], []), (15, [0,1,5], [], [], []), (3, [0,1,5], [], [], []), (16, [4], [], [], [])]
def r_laws_heldSessionS : List RV := [.t 4]
abbrev n_laws_heldSessionS : Nat := 39
theorem k_laws_heldSessionS : Known Pr mu n_laws_heldSessionS m_laws_heldSessionS r_laws_heldSessionS Go.Proofs.Tryd.f39.ntmps := .of h_laws_heldSessionS hm Go.Proofs.Tryd.func39
def c40_1 : XC := fun _ => .region [] [xo 1 (.box (xt 0)),
 xo 2 (.mv (xb false))] [1]
def c40_2 : XC := fun _ => .region [] [xo 3 (.mv (xi 0))] [1,3]
def c40_3 : XC := fun _ => .region [] [xo 6 (.mv (xt 3)),
 xo 7 (.fa (xt 1) 0),
 xo 8 (.ld (xt 7) 1 false),
 xo 9 (.len false (xt 8)),
 xo 10 (.bin .lss (xt 6) (xt 9))] [1,3,10]
def c40_4 : XC := fun _ => .cond (xt 10) (fun _ => .skip) (fun _ => .exit 0)
def c40_5 : XC := fun _ => .seq c40_3 c40_4
def c40_6 : XC := fun _ => .region [] [xo 13 (.fa (xt 1) 0),
 xo 14 (.ld (xt 13) 1 false),
 xo 15 (.mv (xt 3)),
 xo 16 (.ia (xt 14) (xt 15) 1),
 xo 17 (.ld (xt 16) 1 false),
 xo 18 (.call 41 [(xt 17), (xi 0), (xi 9)]),
 xo 19 (.not (xt 18))] [1,3,19]
def c40_7 : XC := fun _ => .region [] [xo 2 (.mv (xb false))] [2]
def c40_8 : XC := fun _ => .seq c40_7 (fun _ => .ret)
def c40_9 : XC := fun _ => .cond (xt 19) c40_8 (fun _ => .skip)
def c40_10 : XC := fun _ => .seq c40_6 c40_9
def c40_11 : XC := fun _ => .block 1 c40_10
def c40_12 : XC := fun _ => .region [] [xo 11 (.mv (xt 3)),
 xo 12 (.bin .add (xt 11) (xi 1)),
 xo 3 (.mv (xt 12))] [1,3]
def c40_13 : XC := fun _ => .seq c40_11 c40_12
def c40_14 : XC := fun _ => .seq c40_5 c40_13
def c40_15 : XC := fun _ => .loop c40_14
def c40_16 : XC := fun _ => .block 0 c40_15
def c40_17 : XC := fun _ => .seq c40_2 c40_16
def c40_18 : XC := fun _ => .region [] [xo 4 (.mv (xi 0))] [1,4]
def c40_19 : XC := fun _ => .region [] [xo 20 (.mv (xt 4)),
 xo 21 (.fa (xt 1) 1),
 xo 22 (.ld (xt 21) 1 false),
 xo 23 (.len false (xt 22)),
 xo 24 (.bin .lss (xt 20) (xt 23))] [1,4,24]
def c40_20 : XC := fun _ => .cond (xt 24) (fun _ => .skip) (fun _ => .exit 2)
def c40_21 : XC := fun _ => .seq c40_19 c40_20
def c40_22 : XC := fun _ => .region [] [xo 27 (.fa (xt 1) 1),
 xo 28 (.ld (xt 27) 1 false),
 xo 29 (.mv (xt 4)),
 xo 30 (.ia (xt 28) (xt 29) 4),
 xo 31 (.ld (xt 30) 4 true),
 xo 5 (.alloc [.int .i64 0, .int .i64 0, .bool false, .int .i64 0]),
 xn (.sto (xt 5) (xt 31) 4)] [1,4,5]
def c40_23 : XC := fun _ => .region [] [xo 32 (.fa (xt 5) 0),
 xo 33 (.ld (xt 32) 1 false),
 xo 34 (.call 41 [(xt 33), (xi 0), (xi 2)]),
 xo 35 (.not (xt 34)),
 xo 36 (.mv (xt 35)),
 ⟨(some 37), .fa (xt 5) 1, (some (36, false)), []⟩,
 ⟨(some 38), .ld (xt 37) 1 false, (some (36, false)), []⟩,
 ⟨(some 39), .call 41 [(xt 38), (xi 1), (xi 99)], (some (36, false)), []⟩,
 ⟨(some 40), .not (xt 39), (some (36, false)), []⟩,
 xo 41 (.pick (xt 36) (xb true) (xt 40)),
 xo 42 (.mv (xt 41)),
 ⟨(some 43), .fa (xt 5) 2, (some (42, false)), []⟩,
 ⟨(some 44), .fa (xt 43) 1, (some (42, false)), []⟩,
 ⟨(some 45), .ld (xt 44) 1 false, (some (42, false)), []⟩,
 ⟨(some 46), .call 41 [(xt 45), (xi 0), (xi 9)], (some (42, false)), []⟩,
 ⟨(some 47), .not (xt 46), (some (42, false)), []⟩,
 xo 48 (.pick (xt 42) (xb true) (xt 47)),
 xo 49 (.mv (xt 48)),
 ⟨(some 50), .mv (xt 4), (some (49, false)), []⟩,
 ⟨(some 51), .bin .gtr (xt 50) (xi 0), (some (49, false)), []⟩,
 ⟨(some 52), .mv (xt 51), (some (49, false)), []⟩,
 ⟨(some 53), .fa (xt 1) 1, (some (52, true)), []⟩,
 ⟨(some 54), .ld (xt 53) 1 false, (some (52, true)), []⟩,
 ⟨(some 55), .mv (xt 4), (some (52, true)), []⟩,
 ⟨(some 56), .bin .sub (xt 55) (xi 1), (some (52, true)), []⟩,
 ⟨(some 57), .ia (xt 54) (xt 56) 4, (some (52, true)), []⟩,
 ⟨(some 58), .fa (xt 57) 0, (some (52, true)), []⟩,
 ⟨(some 59), .ld (xt 58) 1 false, (some (52, true)), []⟩,
 ⟨(some 60), .fa (xt 5) 0, (some (52, true)), [21, 22, 23, 24, 25, 26, 27]⟩,
 ⟨(some 61), .ld (xt 60) 1 false, (some (52, true)), [21, 22, 23, 24, 25, 26, 27]⟩,
 ⟨(some 62), .bin .geq (xt 59) (xt 61), (some (52, true)), []⟩,
 ⟨(some 63), .pick (xt 52) (xt 62) (xb false), (some (49, false)), []⟩,
 xo 64 (.pick (xt 49) (xb true) (xt 63))] [1,4,64]
def c40_24 : XC := fun _ => .region [] [xo 2 (.mv (xb false))] [2]
def c40_25 : XC := fun _ => .seq c40_24 (fun _ => .ret)
def c40_26 : XC := fun _ => .cond (xt 64) c40_25 (fun _ => .skip)
def c40_27 : XC := fun _ => .seq c40_23 c40_26
def c40_28 : XC := fun _ => .seq c40_22 c40_27
def c40_29 : XC := fun _ => .block 3 c40_28
def c40_30 : XC := fun _ => .region [] [xo 25 (.mv (xt 4)),
 xo 26 (.bin .add (xt 25) (xi 1)),
 xo 4 (.mv (xt 26))] [1,4]
def c40_31 : XC := fun _ => .seq c40_29 c40_30
def c40_32 : XC := fun _ => .seq c40_21 c40_31
def c40_33 : XC := fun _ => .loop c40_32
def c40_34 : XC := fun _ => .block 2 c40_33
def c40_35 : XC := fun _ => .seq c40_18 c40_34
def c40_36 : XC := fun _ => .region [] [xo 65 (.fa (xt 1) 0),
 xo 66 (.ld (xt 65) 1 false),
 xo 67 (.len false (xt 66)),
 xo 68 (.bin .eql (xt 67) (xi 3)),
 xo 2 (.mv (xt 68))] [2]
def c40_37 : XC := fun _ => .seq c40_36 (fun _ => .ret)
def c40_38 : XC := fun _ => .seq c40_35 c40_37
def c40_39 : XC := fun _ => .seq c40_17 c40_38
def c40_40 : XC := fun _ => .seq c40_1 c40_39
def m_spec_IsValidMachine : MCode := c40_40 ()
def h_spec_IsValidMachine : Hints := [(0, [1], [], [], []), (1, [1,3], [], [], []), (2, [1,3,10], [], [], []), (4, [1,3,19], [], [], []), (5, [2], [], [], []), (3, [1,3], [], [], []), (6, [1,4], [], [], []), (7, [1,4,24], [], [], []), (9, [1,4,5], [], [], []), (10, [1,4,64], [[],[],[],[],[],[],[],[],[],[],[],[],[],[],[],[],[],[],[],[],[],[],[],[],[],[],[],[],[21,22,23,24,25,26,27],[21,22,23,24,25,26,27]], [], []), (11, [2], [], [], []), (8, [1,4], [], [], []), (12, [2], [], [], [])]
def r_spec_IsValidMachine : List RV := [.t 2]
abbrev n_spec_IsValidMachine : Nat := 40
theorem k_spec_IsValidMachine : Known Pr mu n_spec_IsValidMachine m_spec_IsValidMachine r_spec_IsValidMachine Go.Proofs.Tryd.f40.ntmps := .of h_spec_IsValidMachine hm Go.Proofs.Tryd.func40
def c41_1 : XC := fun _ => .region [] [xo 6 (.mv (xb false))] [0,1,2]
def c41_2 : XC := fun _ => .region [] [xo 7 (.mv (xt 0)),
 xo 8 (.mv (xt 1)),
 xo 9 (.bin .geq (xt 7) (xt 8)),
 xo 10 (.mv (xt 9)),
 ⟨(some 11), .mv (xt 0), (some (10, true)), []⟩,
 ⟨(some 12), .mv (xt 2), (some (10, true)), []⟩,
 ⟨(some 13), .bin .leq (xt 11) (xt 12), (some (10, true)), []⟩,
 xo 14 (.pick (xt 10) (xt 13) (xb false)),
 xo 6 (.mv (xt 14))] [6]
def c41_3 : XC := fun _ => .seq c41_2 (fun _ => .ret)
def c41_4 : XC := fun _ => .seq c41_1 c41_3
def m_spec_l1In : MCode := c41_4 ()
def h_spec_l1In : Hints := [(0, [0,1,2], [], [], []), (1, [6], [], [], [])]
def r_spec_l1In : List RV := [.t 6]
abbrev n_spec_l1In : Nat := 41
theorem k_spec_l1In : Known Pr mu n_spec_l1In m_spec_l1In r_spec_l1In Go.Proofs.Tryd.f41.ntmps := .of h_spec_l1In hm Go.Proofs.Tryd.func41
def c50_1 : XC := fun _ => .region [] [xo 4 (.mv (xb false))] [0,1]
def c50_2 : XC := fun _ => .region [] [xo 5 (.mv (xt 0)),
 xo 6 (.mv (xt 1)),
 xo 7 (.call 62 [(xt 5), (xt 6)]),
 xo 8 (.bin .geq (xt 7) (xi 0)),
 xo 4 (.mv (xt 8))] [4]
def c50_3 : XC := fun _ => .seq c50_2 (fun _ => .ret)
def c50_4 : XC := fun _ => .seq c50_1 c50_3
def m_slices_ContainsFunc_intint : MCode := c50_4 ()
def h_slices_ContainsFunc_intint : Hints := [(0, [0,1], [], [], []), (1, [4], [], [], [])]
def r_slices_ContainsFunc_intint : List RV := [.t 4]
abbrev n_slices_ContainsFunc_intint : Nat := 50
theorem k_slices_ContainsFunc_intint : Known Pr mu n_slices_ContainsFunc_intint m_slices_ContainsFunc_intint r_slices_ContainsFunc_intint Go.Proofs.Tryd.f50.ntmps := .of h_slices_ContainsFunc_intint hm Go.Proofs.Tryd.func50
def c51_1 : XC := fun _ => .region [] [xo 2 (.mv (xb false))] [0]
def c51_2 : XC := fun _ => .region [] [xo 3 (.mv (xt 0)),
 xo 4 (.call 31 [(xt 3), (xi 0), (xi 9)]),
 xo 5 (.not (xt 4)),
 xo 2 (.mv (xt 5))] [2]
def c51_3 : XC := fun _ => .seq c51_2 (fun _ => .ret)
def c51_4 : XC := fun _ => .seq c51_1 c51_3
def m_impl_IsValidMachine_c1 : MCode := c51_4 ()
def h_impl_IsValidMachine_c1 : Hints := [(0, [0], [], [], []), (1, [2], [], [], [])]
def r_impl_IsValidMachine_c1 : List RV := [.t 2]
abbrev n_impl_IsValidMachine_c1 : Nat := 51
theorem k_impl_IsValidMachine_c1 : Known Pr mu n_impl_IsValidMachine_c1 m_impl_IsValidMachine_c1 r_impl_IsValidMachine_c1 Go.Proofs.Tryd.f51.ntmps := .of h_impl_IsValidMachine_c1 hm Go.Proofs.Tryd.func51
def c52_1 : XC := fun _ => .region [] [xo 2 (.mv (.const (.string ⟨#[]⟩)))] [0]
def c52_2 : XC := fun _ => .region [] [xo 3 (.mv (xt 0)),
 xo 4 (.call 63 [(xt 3)]),
 xo 2 (.mv (xt 4))] [2]
def c52_3 : XC := fun _ => .seq c52_2 (fun _ => .ret)
def c52_4 : XC := fun _ => .seq c52_1 c52_3
def m_strconv_Itoa : MCode := c52_4 ()
def h_strconv_Itoa : Hints := [(0, [0], [], [], []), (1, [2], [], [], [])]
def r_strconv_Itoa : List RV := [.t 2]
abbrev n_strconv_Itoa : Nat := 52
theorem k_strconv_Itoa : Known Pr mu n_strconv_Itoa m_strconv_Itoa r_strconv_Itoa Go.Proofs.Tryd.f52.ntmps := .of h_strconv_Itoa hm Go.Proofs.Tryd.func52
def c53_1 : XC := fun _ => .region [] [xo 2 (.box (xt 0)),
 xo 3 (.box (xt 1)),
 xo 4 (.mv (xb false))] [2,3]
def c53_2 : XC := fun _ => .region [] [xo 5 (.fa (xt 2) 0),
 xo 6 (.ld (xt 5) 1 false),
 xo 7 (.fa (xt 3) 0),
 xo 8 (.ld (xt 7) 1 false),
 xo 9 (.bin .neq (xt 6) (xt 8))] [2,3,9]
def c53_3 : XC := fun _ => .region [] [xo 4 (.mv (xb false))] [4]
def c53_4 : XC := fun _ => .seq c53_3 (fun _ => .ret)
def c53_5 : XC := fun _ => .cond (xt 9) c53_4 (fun _ => .skip)
def c53_6 : XC := fun _ => .seq c53_2 c53_5
def c53_7 : XC := fun _ => .region [] [xo 10 (.fa (xt 2) 1),
 xo 11 (.ld (xt 10) 1 false),
 xo 12 (.fa (xt 3) 1),
 xo 13 (.ld (xt 12) 1 false),
 xo 14 (.bin .neq (xt 11) (xt 13))] [2,3,14]
def c53_8 : XC := fun _ => .region [] [xo 4 (.mv (xb false))] [4]
def c53_9 : XC := fun _ => .seq c53_8 (fun _ => .ret)
def c53_10 : XC := fun _ => .cond (xt 14) c53_9 (fun _ => .skip)
def c53_11 : XC := fun _ => .seq c53_7 c53_10
def c53_12 : XC := fun _ => .region [] [xo 15 (.fa (xt 2) 2),
 xo 16 (.ld (xt 15) 2 true),
 xo 17 (.fa (xt 3) 2),
 xo 18 (.ld (xt 17) 2 true),
 xo 19 (.call 64 [(xt 16), (xt 18)]),
 xo 20 (.not (xt 19))] [20]
def c53_13 : XC := fun _ => .region [] [xo 4 (.mv (xb false))] [4]
def c53_14 : XC := fun _ => .seq c53_13 (fun _ => .ret)
def c53_15 : XC := fun _ => .cond (xt 20) c53_14 (fun _ => .skip)
def c53_16 : XC := fun _ => .seq c53_12 c53_15
def c53_17 : XC := fun _ => .region [] [xo 4 (.mv (xb true))] [4]
def c53_18 : XC := fun _ => .seq c53_17 (fun _ => .ret)
def c53_19 : XC := fun _ => .seq c53_16 c53_18
def c53_20 : XC := fun _ => .seq c53_11 c53_19
def c53_21 : XC := fun _ => .seq c53_6 c53_20
def c53_22 : XC := fun _ => .seq c53_1 c53_21
def m_laws_eqSession : MCode := c53_22 ()
def h_laws_eqSession : Hints := [(0, [2,3], [], [], []), (1, [2,3,9], [], [], []), (2, [4], [], [], []), (3, [2,3,14], [], [], []), (4, [4], [], [], []), (5, [20], [], [], []), (6, [4], [], [], []), (7, [4], [], [], [])]
def r_laws_eqSession : List RV := [.t 4]
abbrev n_laws_eqSession : Nat := 53
theorem k_laws_eqSession : Known Pr mu n_laws_eqSession m_laws_eqSession r_laws_eqSession Go.Proofs.Tryd.f53.ntmps := .of h_laws_eqSession hm Go.Proofs.Tryd.func53
def c62_1 : XC := fun _ => .region [] [xo 4 (.mv (xi 0))] [0,1]
def c62_2 : XC := fun _ => .region [] [xo 6 (.mv (xt 0)),
 xo 7 (.len false (xt 6)),
 xo 8 (.mv (xi 0))] [0,1,7,8]
def c62_3 : XC := fun _ => .region [] [xo 9 (.bin .lss (xt 8) (xt 7))] [0,1,7,8,9]
def c62_4 : XC := fun _ => .cond (xt 9) (fun _ => .skip) (fun _ => .exit 0)
def c62_5 : XC := fun _ => .region [] [xo 10 (.mv (xt 8)),
 xo 5 (.mv (xt 10))] [0,1,5,7,8]
def c62_6 : XC := fun _ => .region [] [xo 11 (.mv (xt 1)),
 xo 12 (.mv (xt 0)),
 xo 13 (.mv (xt 5)),
 xo 14 (.ia (xt 12) (xt 13) 1),
 xo 15 (.ld (xt 14) 1 false),
 xo 16 (.callv (xt 11) [(xt 15)])] [0,1,5,7,8,16]
def c62_7 : XC := fun _ => .region [] [xo 17 (.mv (xt 5)),
 xo 4 (.mv (xt 17))] [4]
def c62_8 : XC := fun _ => .seq c62_7 (fun _ => .ret)
def c62_9 : XC := fun _ => .cond (xt 16) c62_8 (fun _ => .skip)
def c62_10 : XC := fun _ => .seq c62_6 c62_9
def c62_11 : XC := fun _ => .seq c62_5 c62_10
def c62_12 : XC := fun _ => .block 1 c62_11
def c62_13 : XC := fun _ => .region [] [xo 18 (.bin .add (xt 8) (xi 1)),
 xo 8 (.mv (xt 18))] [0,1,7,8]
def c62_14 : XC := fun _ => .seq c62_12 c62_13
def c62_15 : XC := fun _ => .seq c62_4 c62_14
def c62_16 : XC := fun _ => .seq c62_3 c62_15
def c62_17 : XC := fun _ => .loop c62_16
def c62_18 : XC := fun _ => .block 0 c62_17
def c62_19 : XC := fun _ => .seq c62_2 c62_18
def c62_20 : XC := fun _ => .region [] [xo 4 (.mv (xi (-1)))] [4]
def c62_21 : XC := fun _ => .seq c62_20 (fun _ => .ret)
def c62_22 : XC := fun _ => .seq c62_19 c62_21
def c62_23 : XC := fun _ => .seq c62_1 c62_22
def m_slices_IndexFunc_intint : MCode := c62_23 ()
def h_slices_IndexFunc_intint : Hints := [(0, [0,1], [], [], []), (1, [0,1,7,8], [], [], []), (2, [0,1,7,8,9], [], [], []), (3, [0,1,5,7,8], [], [], []), (4, [0,1,5,7,8,16], [], [], []), (5, [4], [], [], []), (6, [0,1,7,8], [], [], []), (7, [4], [], [], [])]
def r_slices_IndexFunc_intint : List RV := [.t 4]
abbrev n_slices_IndexFunc_intint : Nat := 62
theorem k_slices_IndexFunc_intint : Known Pr mu n_slices_IndexFunc_intint m_slices_IndexFunc_intint r_slices_IndexFunc_intint Go.Proofs.Tryd.f62.ntmps := .of h_slices_IndexFunc_intint hm Go.Proofs.Tryd.func62
def c64_1 : XC := fun _ => .region [] [xo 2 (.box (xt 0)),
 xo 3 (.box (xt 1)),
 xo 4 (.mv (xb false))] [2,3]
def c64_2 : XC := fun _ => .region [] [xo 5 (.fa (xt 2) 0),
 xo 6 (.ld (xt 5) 1 false),
 xo 7 (.fa (xt 3) 0),
 xo 8 (.ld (xt 7) 1 false),
 xo 9 (.bbin .neq (xt 6) (xt 8))] [2,3,9]
def c64_3 : XC := fun _ => .region [] [xo 4 (.mv (xb false))] [4]
def c64_4 : XC := fun _ => .seq c64_3 (fun _ => .ret)
def c64_5 : XC := fun _ => .cond (xt 9) c64_4 (fun _ => .skip)
def c64_6 : XC := fun _ => .seq c64_2 c64_5
def c64_7 : XC := fun _ => .region [] [xo 10 (.fa (xt 2) 1),
 xo 11 (.ld (xt 10) 1 false),
 xo 12 (.fa (xt 3) 1),
 xo 13 (.ld (xt 12) 1 false),
 xo 14 (.bin .neq (xt 11) (xt 13))] [14]
def c64_8 : XC := fun _ => .region [] [xo 4 (.mv (xb false))] [4]
def c64_9 : XC := fun _ => .seq c64_8 (fun _ => .ret)
def c64_10 : XC := fun _ => .cond (xt 14) c64_9 (fun _ => .skip)
def c64_11 : XC := fun _ => .seq c64_7 c64_10
def c64_12 : XC := fun _ => .region [] [xo 4 (.mv (xb true))] [4]
def c64_13 : XC := fun _ => .seq c64_12 (fun _ => .ret)
def c64_14 : XC := fun _ => .seq c64_11 c64_13
def c64_15 : XC := fun _ => .seq c64_6 c64_14
def c64_16 : XC := fun _ => .seq c64_1 c64_15
def m_laws_eqResult : MCode := c64_16 ()
def h_laws_eqResult : Hints := [(0, [2,3], [], [], []), (1, [2,3,9], [], [], []), (2, [4], [], [], []), (3, [14], [], [], []), (4, [4], [], [], []), (5, [4], [], [], [])]
def r_laws_eqResult : List RV := [.t 4]
abbrev n_laws_eqResult : Nat := 64
theorem k_laws_eqResult : Known Pr mu n_laws_eqResult m_laws_eqResult r_laws_eqResult Go.Proofs.Tryd.f64.ntmps := .of h_laws_eqResult hm Go.Proofs.Tryd.func64
end Go.V.T
