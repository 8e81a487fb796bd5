/- The short code of the functions that FnExactJoinTail reaches, held against the program. Conditions: none. -/
import Derived.Test.YtiamffhoiajgnaaV5
import Derived.Test.YtiamffhoiajgnaaProg
namespace Go.V.T
open Go Go.V
noncomputable abbrev Pr := Go.Proofs.Try.prog
def mu : Nat → Bool := fun n => Nat.beq n 32 || Nat.beq n 51 || Nat.beq n 59 || Nat.beq n 82 || Nat.beq n 98
theorem hm : Pr.follows .mixedOrders = true := by kernel_rfl
def m_laws_FnExactJoinTail_1 : Unit → MCode := fun _ => .region [] [⟨(some 6), .mv (.const (.bool false)), none, []⟩] [0, 1, 2]
def m_laws_FnExactJoinTail_2 : Unit → MCode := fun _ => .region [] [⟨(some 7), .mv (.const (.int .i64 1048576)), none, []⟩] [0, 1, 2, 7]
def m_laws_FnExactJoinTail_3 : Unit → MCode := fun _ => .region [] [⟨(some 19), .mv (.tmp 0), none, []⟩,
    ⟨(some 20), .mv (.tmp 7), none, []⟩,
    ⟨(some 21), .call 34 [(.tmp 19), (.tmp 20)], none, []⟩,
    ⟨(some 7), .mv (.tmp 21), none, []⟩] [0, 1, 2, 7]
def m_laws_FnExactJoinTail_4 : Unit → MCode := fun _ => .region [] [⟨(some 22), .mv (.tmp 7), none, []⟩,
    ⟨(some 23), .bin .lss (.tmp 22) (.const (.int .i64 0)), none, []⟩] [0, 1, 2, 7, 23]
def m_laws_FnExactJoinTail_5 : Unit → MCode := fun _ => .region [] [⟨(some 6), .mv (.const (.bool true)), none, []⟩] [6]
def m_laws_FnExactJoinTail_6 : Unit → MCode := fun _ => .seq m_laws_FnExactJoinTail_5 (fun _ => .ret)
def m_laws_FnExactJoinTail_7 : Unit → MCode := fun _ => .cond (.tmp 23) m_laws_FnExactJoinTail_6 (fun _ => .skip)
def m_laws_FnExactJoinTail_8 : Unit → MCode := fun _ => .seq m_laws_FnExactJoinTail_4 m_laws_FnExactJoinTail_7
def m_laws_FnExactJoinTail_9 : Unit → MCode := fun _ => .region [] [⟨(some 24), .mv (.tmp 2), none, []⟩,
    ⟨(some 25), .mv (.tmp 7), none, []⟩,
    ⟨(some 26), .call 34 [(.tmp 24), (.tmp 25)], none, []⟩,
    ⟨(some 7), .mv (.tmp 26), none, []⟩] [0, 1, 2, 7]
def m_laws_FnExactJoinTail_10 : Unit → MCode := fun _ => .region [] [⟨(some 27), .mv (.tmp 7), none, []⟩,
    ⟨(some 28), .bin .lss (.tmp 27) (.const (.int .i64 0)), none, []⟩] [0, 1, 2, 28]
def m_laws_FnExactJoinTail_11 : Unit → MCode := fun _ => .region [] [⟨(some 6), .mv (.const (.bool true)), none, []⟩] [6]
def m_laws_FnExactJoinTail_12 : Unit → MCode := fun _ => .seq m_laws_FnExactJoinTail_11 (fun _ => .ret)
def m_laws_FnExactJoinTail_13 : Unit → MCode := fun _ => .cond (.tmp 28) m_laws_FnExactJoinTail_12 (fun _ => .skip)
def m_laws_FnExactJoinTail_14 : Unit → MCode := fun _ => .seq m_laws_FnExactJoinTail_10 m_laws_FnExactJoinTail_13
def m_laws_FnExactJoinTail_15 : Unit → MCode := fun _ => .region [] [⟨(some 30), .mv (.tmp 0), none, []⟩,
    ⟨(some 31), .call 36 [(.tmp 30)], none, []⟩,
    ⟨(some 32), .mv (.tmp 1), none, []⟩,
    ⟨(some 33), .mv (.tmp 2), none, []⟩,
    ⟨(some 34), .call 36 [(.tmp 33)], none, []⟩,
    ⟨(some 35), .call 61 [(.tmp 31), (.tmp 32), (.tmp 34)], none, []⟩,
    ⟨(some 29), .mv (.tmp 35), none, []⟩,
    ⟨(some 36), .ext (.tmp 29) 0, none, []⟩,
    ⟨(some 37), .ext (.tmp 29) 1, none, []⟩,
    ⟨(some 8), .mv (.tmp 36), none, []⟩,
    ⟨(some 9), .mv (.tmp 37), none, []⟩] [0, 1, 2, 8, 9]
def m_laws_FnExactJoinTail_16 : Unit → MCode := fun _ => .region [] [⟨(some 38), .mv (.tmp 0), none, []⟩,
    ⟨(some 39), .call 36 [(.tmp 38)], none, []⟩,
    ⟨(some 10), .mv (.tmp 39), none, []⟩] [0, 1, 2, 8, 9, 10]
def m_laws_FnExactJoinTail_17 : Unit → MCode := fun _ => .region [] [⟨(some 40), .mv (.tmp 2), none, []⟩,
    ⟨(some 41), .call 36 [(.tmp 40)], none, []⟩,
    ⟨(some 11), .mv (.tmp 41), none, []⟩] [0, 1, 2, 8, 9, 10, 11]
def m_laws_FnExactJoinTail_18 : Unit → MCode := fun _ => .region [] [⟨(some 43), .mv (.tmp 10), none, []⟩,
    ⟨(some 44), .mv (.tmp 1), none, []⟩,
    ⟨(some 45), .mv (.tmp 11), none, []⟩,
    ⟨(some 46), .call 62 [(.tmp 43), (.tmp 44), (.tmp 45)], none, []⟩,
    ⟨(some 42), .mv (.tmp 46), none, []⟩,
    ⟨(some 47), .ext (.tmp 42) 0, none, []⟩,
    ⟨(some 48), .ext (.tmp 42) 1, none, []⟩,
    ⟨(some 12), .mv (.tmp 47), none, []⟩,
    ⟨(some 13), .mv (.tmp 48), none, []⟩] [0, 1, 2, 8, 9, 10, 11, 12, 13]
def m_laws_FnExactJoinTail_19 : Unit → MCode := fun _ => .region [] [⟨(some 49), .mv (.tmp 12), none, []⟩,
    ⟨(some 50), .mv (.tmp 8), none, []⟩,
    ⟨(some 51), .call 38 [(.tmp 49), (.tmp 50)], none, []⟩,
    ⟨(some 52), .not (.tmp 51), none, []⟩,
    ⟨(some 53), .mv (.tmp 52), none, []⟩,
    ⟨(some 54), .mv (.tmp 13), (some (53, false)), []⟩,
    ⟨(some 55), .mv (.tmp 9), (some (53, false)), []⟩,
    ⟨(some 56), .bbin .neq (.tmp 54) (.tmp 55), (some (53, false)), []⟩,
    ⟨(some 57), .pick (.tmp 53) (.const (.bool true)) (.tmp 56), none, []⟩] [0, 1, 2, 8, 9, 10, 11, 12, 13, 57]
def m_laws_FnExactJoinTail_20 : Unit → MCode := fun _ => .region [] [⟨(some 6), .mv (.const (.bool false)), none, []⟩] [6]
def m_laws_FnExactJoinTail_21 : Unit → MCode := fun _ => .seq m_laws_FnExactJoinTail_20 (fun _ => .ret)
def m_laws_FnExactJoinTail_22 : Unit → MCode := fun _ => .cond (.tmp 57) m_laws_FnExactJoinTail_21 (fun _ => .skip)
def m_laws_FnExactJoinTail_23 : Unit → MCode := fun _ => .seq m_laws_FnExactJoinTail_19 m_laws_FnExactJoinTail_22
def m_laws_FnExactJoinTail_24 : Unit → MCode := fun _ => .region [] [⟨(some 58), .mv (.tmp 10), none, []⟩,
    ⟨(some 59), .mv (.tmp 0), none, []⟩,
    ⟨(some 60), .call 36 [(.tmp 59)], none, []⟩,
    ⟨(some 61), .call 38 [(.tmp 58), (.tmp 60)], none, []⟩,
    ⟨(some 62), .not (.tmp 61), none, []⟩] [0, 1, 2, 8, 9, 10, 11, 12, 13, 62]
def m_laws_FnExactJoinTail_25 : Unit → MCode := fun _ => .region [] [⟨(some 6), .mv (.const (.bool false)), none, []⟩] [6]
def m_laws_FnExactJoinTail_26 : Unit → MCode := fun _ => .seq m_laws_FnExactJoinTail_25 (fun _ => .ret)
def m_laws_FnExactJoinTail_27 : Unit → MCode := fun _ => .cond (.tmp 62) m_laws_FnExactJoinTail_26 (fun _ => .skip)
def m_laws_FnExactJoinTail_28 : Unit → MCode := fun _ => .seq m_laws_FnExactJoinTail_24 m_laws_FnExactJoinTail_27
def m_laws_FnExactJoinTail_29 : Unit → MCode := fun _ => .region [] [⟨(some 63), .mv (.tmp 11), none, []⟩,
    ⟨(some 64), .mv (.tmp 2), none, []⟩,
    ⟨(some 65), .call 36 [(.tmp 64)], none, []⟩,
    ⟨(some 66), .call 38 [(.tmp 63), (.tmp 65)], none, []⟩,
    ⟨(some 67), .not (.tmp 66), none, []⟩] [0, 1, 2, 8, 9, 10, 11, 12, 13, 67]
def m_laws_FnExactJoinTail_30 : Unit → MCode := fun _ => .region [] [⟨(some 6), .mv (.const (.bool false)), none, []⟩] [6]
def m_laws_FnExactJoinTail_31 : Unit → MCode := fun _ => .seq m_laws_FnExactJoinTail_30 (fun _ => .ret)
def m_laws_FnExactJoinTail_32 : Unit → MCode := fun _ => .cond (.tmp 67) m_laws_FnExactJoinTail_31 (fun _ => .skip)
def m_laws_FnExactJoinTail_33 : Unit → MCode := fun _ => .seq m_laws_FnExactJoinTail_29 m_laws_FnExactJoinTail_32
def m_laws_FnExactJoinTail_34 : Unit → MCode := fun _ => .region [] [⟨(some 14), .mv (.const (.int .i64 1)), none, []⟩] [0, 1, 2, 8, 9, 10, 11, 12, 13, 14]
def m_laws_FnExactJoinTail_35 : Unit → MCode := fun _ => .region [] [⟨(some 68), .mv (.tmp 10), none, []⟩,
    ⟨(some 69), .mv (.tmp 14), none, []⟩,
    ⟨(some 70), .callm 51 [(.tmp 68), (.tmp 69)], none, []⟩,
    ⟨(some 14), .mv (.tmp 70), none, []⟩] [0, 1, 2, 8, 9, 11, 12, 13, 14]
def m_laws_FnExactJoinTail_36 : Unit → MCode := fun _ => .region [] [⟨(some 71), .mv (.tmp 11), none, []⟩,
    ⟨(some 72), .mv (.tmp 14), none, []⟩,
    ⟨(some 73), .callm 51 [(.tmp 71), (.tmp 72)], none, []⟩,
    ⟨(some 14), .mv (.tmp 73), none, []⟩] [0, 1, 2, 8, 9, 12, 13, 14]
def m_laws_FnExactJoinTail_37 : Unit → MCode := fun _ => .region [] [⟨(some 74), .mv (.tmp 14), none, []⟩,
    ⟨(some 75), .bin .lss (.tmp 74) (.const (.int .i64 0)), none, []⟩,
    ⟨(some 76), .mv (.tmp 75), none, []⟩,
    ⟨(some 77), .mv (.tmp 12), (some (76, false)), []⟩,
    ⟨(some 78), .mv (.tmp 8), (some (76, false)), []⟩,
    ⟨(some 79), .call 38 [(.tmp 77), (.tmp 78)], (some (76, false)), []⟩,
    ⟨(some 80), .not (.tmp 79), (some (76, false)), []⟩,
    ⟨(some 81), .pick (.tmp 76) (.const (.bool true)) (.tmp 80), none, []⟩,
    ⟨(some 82), .mv (.tmp 81), none, []⟩,
    ⟨(some 83), .mv (.tmp 13), (some (82, false)), []⟩,
    ⟨(some 84), .mv (.tmp 9), (some (82, false)), []⟩,
    ⟨(some 85), .bbin .neq (.tmp 83) (.tmp 84), (some (82, false)), []⟩,
    ⟨(some 86), .pick (.tmp 82) (.const (.bool true)) (.tmp 85), none, []⟩] [0, 1, 2, 8, 9, 12, 86]
def m_laws_FnExactJoinTail_38 : Unit → MCode := fun _ => .region [] [⟨(some 6), .mv (.const (.bool false)), none, []⟩] [6]
def m_laws_FnExactJoinTail_39 : Unit → MCode := fun _ => .seq m_laws_FnExactJoinTail_38 (fun _ => .ret)
def m_laws_FnExactJoinTail_40 : Unit → MCode := fun _ => .cond (.tmp 86) m_laws_FnExactJoinTail_39 (fun _ => .skip)
def m_laws_FnExactJoinTail_41 : Unit → MCode := fun _ => .seq m_laws_FnExactJoinTail_37 m_laws_FnExactJoinTail_40
def m_laws_FnExactJoinTail_42 : Unit → MCode := fun _ => .region [] [⟨(some 15), .mv (.const (.int .i64 1)), none, []⟩] [0, 1, 2, 8, 9, 12, 15]
def m_laws_FnExactJoinTail_43 : Unit → MCode := fun _ => .region [] [⟨(some 87), .mv (.tmp 12), none, []⟩,
    ⟨(some 88), .mv (.tmp 15), none, []⟩,
    ⟨(some 89), .callm 51 [(.tmp 87), (.tmp 88)], none, []⟩,
    ⟨(some 15), .mv (.tmp 89), none, []⟩] [0, 1, 2, 8, 9, 12, 15]
def m_laws_FnExactJoinTail_44 : Unit → MCode := fun _ => .region [] [⟨(some 16), .mv (.const (.int .i64 1)), none, []⟩] [0, 1, 2, 8, 9, 12, 15, 16]
def m_laws_FnExactJoinTail_45 : Unit → MCode := fun _ => .region [] [⟨(some 90), .mv (.tmp 12), none, []⟩,
    ⟨(some 91), .mv (.tmp 16), none, []⟩,
    ⟨(some 92), .call 52 [(.tmp 90), (.tmp 91)], none, []⟩,
    ⟨(some 16), .mv (.tmp 92), none, []⟩] [0, 1, 2, 8, 9, 12, 15, 16]
def m_laws_FnExactJoinTail_46 : Unit → MCode := fun _ => .region [] [⟨(some 93), .mv (.tmp 16), none, []⟩,
    ⟨(some 94), .bin .lss (.tmp 93) (.const (.int .i64 0)), none, []⟩] [0, 1, 2, 8, 9, 12, 15, 16, 94]
def m_laws_FnExactJoinTail_47 : Unit → MCode := fun _ => .region [] [⟨(some 6), .mv (.const (.bool false)), none, []⟩] [6]
def m_laws_FnExactJoinTail_48 : Unit → MCode := fun _ => .seq m_laws_FnExactJoinTail_47 (fun _ => .ret)
def m_laws_FnExactJoinTail_49 : Unit → MCode := fun _ => .cond (.tmp 94) m_laws_FnExactJoinTail_48 (fun _ => .skip)
def m_laws_FnExactJoinTail_50 : Unit → MCode := fun _ => .seq m_laws_FnExactJoinTail_46 m_laws_FnExactJoinTail_49
def m_laws_FnExactJoinTail_51 : Unit → MCode := fun _ => .region [] [⟨(some 95), .mv (.tmp 16), none, []⟩,
    ⟨(some 96), .mv (.tmp 15), none, []⟩,
    ⟨(some 97), .bin .neq (.tmp 95) (.tmp 96), none, []⟩] [0, 1, 2, 8, 9, 12, 15, 97]
def m_laws_FnExactJoinTail_52 : Unit → MCode := fun _ => .region [] [⟨(some 6), .mv (.const (.bool false)), none, []⟩] [6]
def m_laws_FnExactJoinTail_53 : Unit → MCode := fun _ => .seq m_laws_FnExactJoinTail_52 (fun _ => .ret)
def m_laws_FnExactJoinTail_54 : Unit → MCode := fun _ => .cond (.tmp 97) m_laws_FnExactJoinTail_53 (fun _ => .skip)
def m_laws_FnExactJoinTail_55 : Unit → MCode := fun _ => .seq m_laws_FnExactJoinTail_51 m_laws_FnExactJoinTail_54
def m_laws_FnExactJoinTail_56 : Unit → MCode := fun _ => .region [] [⟨(some 99), .mv (.tmp 0), none, []⟩,
    ⟨(some 100), .call 36 [(.tmp 99)], none, []⟩,
    ⟨(some 101), .mv (.tmp 1), none, []⟩,
    ⟨(some 102), .mv (.tmp 2), none, []⟩,
    ⟨(some 103), .call 36 [(.tmp 102)], none, []⟩,
    ⟨(some 104), .call 62 [(.tmp 100), (.tmp 101), (.tmp 103)], none, []⟩,
    ⟨(some 98), .mv (.tmp 104), none, []⟩,
    ⟨(some 105), .ext (.tmp 98) 0, none, []⟩,
    ⟨(some 106), .ext (.tmp 98) 1, none, []⟩,
    ⟨(some 17), .mv (.tmp 105), none, []⟩,
    ⟨(some 18), .mv (.tmp 106), none, []⟩] [8, 9, 12, 15, 17, 18]
def m_laws_FnExactJoinTail_57 : Unit → MCode := fun _ => .region [] [⟨(some 107), .mv (.tmp 17), none, []⟩,
    ⟨(some 108), .mv (.tmp 8), none, []⟩,
    ⟨(some 109), .call 38 [(.tmp 107), (.tmp 108)], none, []⟩,
    ⟨(some 110), .not (.tmp 109), none, []⟩,
    ⟨(some 111), .mv (.tmp 110), none, []⟩,
    ⟨(some 112), .mv (.tmp 18), (some (111, false)), []⟩,
    ⟨(some 113), .mv (.tmp 9), (some (111, false)), []⟩,
    ⟨(some 114), .bbin .neq (.tmp 112) (.tmp 113), (some (111, false)), []⟩,
    ⟨(some 115), .pick (.tmp 111) (.const (.bool true)) (.tmp 114), none, []⟩] [12, 15, 115]
def m_laws_FnExactJoinTail_58 : Unit → MCode := fun _ => .region [] [⟨(some 6), .mv (.const (.bool false)), none, []⟩] [6]
def m_laws_FnExactJoinTail_59 : Unit → MCode := fun _ => .seq m_laws_FnExactJoinTail_58 (fun _ => .ret)
def m_laws_FnExactJoinTail_60 : Unit → MCode := fun _ => .cond (.tmp 115) m_laws_FnExactJoinTail_59 (fun _ => .skip)
def m_laws_FnExactJoinTail_61 : Unit → MCode := fun _ => .seq m_laws_FnExactJoinTail_57 m_laws_FnExactJoinTail_60
def m_laws_FnExactJoinTail_62 : Unit → MCode := fun _ => .region [] [⟨(some 16), .mv (.const (.int .i64 1)), none, []⟩] [12, 15, 16]
def m_laws_FnExactJoinTail_63 : Unit → MCode := fun _ => .region [] [⟨(some 116), .mv (.tmp 12), none, []⟩,
    ⟨(some 117), .mv (.tmp 16), none, []⟩,
    ⟨(some 118), .call 52 [(.tmp 116), (.tmp 117)], none, []⟩,
    ⟨(some 16), .mv (.tmp 118), none, []⟩] [15, 16]
def m_laws_FnExactJoinTail_64 : Unit → MCode := fun _ => .region [] [⟨(some 119), .mv (.tmp 16), none, []⟩,
    ⟨(some 120), .bin .lss (.tmp 119) (.const (.int .i64 0)), none, []⟩] [15, 16, 120]
def m_laws_FnExactJoinTail_65 : Unit → MCode := fun _ => .region [] [⟨(some 6), .mv (.const (.bool false)), none, []⟩] [6]
def m_laws_FnExactJoinTail_66 : Unit → MCode := fun _ => .seq m_laws_FnExactJoinTail_65 (fun _ => .ret)
def m_laws_FnExactJoinTail_67 : Unit → MCode := fun _ => .cond (.tmp 120) m_laws_FnExactJoinTail_66 (fun _ => .skip)
def m_laws_FnExactJoinTail_68 : Unit → MCode := fun _ => .seq m_laws_FnExactJoinTail_64 m_laws_FnExactJoinTail_67
def m_laws_FnExactJoinTail_69 : Unit → MCode := fun _ => .region [] [⟨(some 121), .mv (.tmp 16), none, []⟩,
    ⟨(some 122), .mv (.tmp 15), none, []⟩,
    ⟨(some 123), .bin .neq (.tmp 121) (.tmp 122), none, []⟩] [123]
def m_laws_FnExactJoinTail_70 : Unit → MCode := fun _ => .region [] [⟨(some 6), .mv (.const (.bool false)), none, []⟩] [6]
def m_laws_FnExactJoinTail_71 : Unit → MCode := fun _ => .seq m_laws_FnExactJoinTail_70 (fun _ => .ret)
def m_laws_FnExactJoinTail_72 : Unit → MCode := fun _ => .cond (.tmp 123) m_laws_FnExactJoinTail_71 (fun _ => .skip)
def m_laws_FnExactJoinTail_73 : Unit → MCode := fun _ => .seq m_laws_FnExactJoinTail_69 m_laws_FnExactJoinTail_72
def m_laws_FnExactJoinTail_74 : Unit → MCode := fun _ => .region [] [⟨(some 6), .mv (.const (.bool true)), none, []⟩] [6]
def m_laws_FnExactJoinTail_75 : Unit → MCode := fun _ => .seq m_laws_FnExactJoinTail_74 (fun _ => .ret)
def m_laws_FnExactJoinTail_76 : Unit → MCode := fun _ => .seq m_laws_FnExactJoinTail_73 m_laws_FnExactJoinTail_75
def m_laws_FnExactJoinTail_77 : Unit → MCode := fun _ => .seq m_laws_FnExactJoinTail_68 m_laws_FnExactJoinTail_76
def m_laws_FnExactJoinTail_78 : Unit → MCode := fun _ => .seq m_laws_FnExactJoinTail_63 m_laws_FnExactJoinTail_77
def m_laws_FnExactJoinTail_79 : Unit → MCode := fun _ => .seq m_laws_FnExactJoinTail_62 m_laws_FnExactJoinTail_78
def m_laws_FnExactJoinTail_80 : Unit → MCode := fun _ => .seq m_laws_FnExactJoinTail_61 m_laws_FnExactJoinTail_79
def m_laws_FnExactJoinTail_81 : Unit → MCode := fun _ => .seq m_laws_FnExactJoinTail_56 m_laws_FnExactJoinTail_80
def m_laws_FnExactJoinTail_82 : Unit → MCode := fun _ => .seq m_laws_FnExactJoinTail_55 m_laws_FnExactJoinTail_81
def m_laws_FnExactJoinTail_83 : Unit → MCode := fun _ => .seq m_laws_FnExactJoinTail_50 m_laws_FnExactJoinTail_82
def m_laws_FnExactJoinTail_84 : Unit → MCode := fun _ => .seq m_laws_FnExactJoinTail_45 m_laws_FnExactJoinTail_83
def m_laws_FnExactJoinTail_85 : Unit → MCode := fun _ => .seq m_laws_FnExactJoinTail_44 m_laws_FnExactJoinTail_84
def m_laws_FnExactJoinTail_86 : Unit → MCode := fun _ => .seq m_laws_FnExactJoinTail_43 m_laws_FnExactJoinTail_85
def m_laws_FnExactJoinTail_87 : Unit → MCode := fun _ => .seq m_laws_FnExactJoinTail_42 m_laws_FnExactJoinTail_86
def m_laws_FnExactJoinTail_88 : Unit → MCode := fun _ => .seq m_laws_FnExactJoinTail_41 m_laws_FnExactJoinTail_87
def m_laws_FnExactJoinTail_89 : Unit → MCode := fun _ => .seq m_laws_FnExactJoinTail_36 m_laws_FnExactJoinTail_88
def m_laws_FnExactJoinTail_90 : Unit → MCode := fun _ => .seq m_laws_FnExactJoinTail_35 m_laws_FnExactJoinTail_89
def m_laws_FnExactJoinTail_91 : Unit → MCode := fun _ => .seq m_laws_FnExactJoinTail_34 m_laws_FnExactJoinTail_90
def m_laws_FnExactJoinTail_92 : Unit → MCode := fun _ => .seq m_laws_FnExactJoinTail_33 m_laws_FnExactJoinTail_91
def m_laws_FnExactJoinTail_93 : Unit → MCode := fun _ => .seq m_laws_FnExactJoinTail_28 m_laws_FnExactJoinTail_92
def m_laws_FnExactJoinTail_94 : Unit → MCode := fun _ => .seq m_laws_FnExactJoinTail_23 m_laws_FnExactJoinTail_93
def m_laws_FnExactJoinTail_95 : Unit → MCode := fun _ => .seq m_laws_FnExactJoinTail_18 m_laws_FnExactJoinTail_94
def m_laws_FnExactJoinTail_96 : Unit → MCode := fun _ => .seq m_laws_FnExactJoinTail_17 m_laws_FnExactJoinTail_95
def m_laws_FnExactJoinTail_97 : Unit → MCode := fun _ => .seq m_laws_FnExactJoinTail_16 m_laws_FnExactJoinTail_96
def m_laws_FnExactJoinTail_98 : Unit → MCode := fun _ => .seq m_laws_FnExactJoinTail_15 m_laws_FnExactJoinTail_97
def m_laws_FnExactJoinTail_99 : Unit → MCode := fun _ => .seq m_laws_FnExactJoinTail_14 m_laws_FnExactJoinTail_98
def m_laws_FnExactJoinTail_100 : Unit → MCode := fun _ => .seq m_laws_FnExactJoinTail_9 m_laws_FnExactJoinTail_99
def m_laws_FnExactJoinTail_101 : Unit → MCode := fun _ => .seq m_laws_FnExactJoinTail_8 m_laws_FnExactJoinTail_100
def m_laws_FnExactJoinTail_102 : Unit → MCode := fun _ => .seq m_laws_FnExactJoinTail_3 m_laws_FnExactJoinTail_101
def m_laws_FnExactJoinTail_103 : Unit → MCode := fun _ => .seq m_laws_FnExactJoinTail_2 m_laws_FnExactJoinTail_102
def m_laws_FnExactJoinTail_104 : Unit → MCode := fun _ => .seq m_laws_FnExactJoinTail_1 m_laws_FnExactJoinTail_103
def m_laws_FnExactJoinTail : MCode := m_laws_FnExactJoinTail_104 ()
def h_laws_FnExactJoinTail : Hints := [(0, [0, 1, 2], [], [], []), (1, [0, 1, 2, 7], [], [], []), (2, [0, 1, 2, 7], [], [], []), (3, [0, 1, 2, 7, 23], [], [], []), (4, [6], [], [], []), (5, [0, 1, 2, 7], [], [], []), (6, [0, 1, 2, 28], [], [], []), (7, [6], [], [], []), (8, [0, 1, 2, 8, 9], [], [], []), (9, [0, 1, 2, 8, 9, 10], [], [], []), (10, [0, 1, 2, 8, 9, 10, 11], [], [], []), (11, [0, 1, 2, 8, 9, 10, 11, 12, 13], [], [], []), (12, [0, 1, 2, 8, 9, 10, 11, 12, 13, 57], [], [], []), (13, [6], [], [], []), (14, [0, 1, 2, 8, 9, 10, 11, 12, 13, 62], [], [], []), (15, [6], [], [], []), (16, [0, 1, 2, 8, 9, 10, 11, 12, 13, 67], [], [], []), (17, [6], [], [], []), (18, [0, 1, 2, 8, 9, 10, 11, 12, 13, 14], [], [], []), (19, [0, 1, 2, 8, 9, 11, 12, 13, 14], [], [], []), (20, [0, 1, 2, 8, 9, 12, 13, 14], [], [], []), (21, [0, 1, 2, 8, 9, 12, 86], [], [], []), (22, [6], [], [], []), (23, [0, 1, 2, 8, 9, 12, 15], [], [], []), (24, [0, 1, 2, 8, 9, 12, 15], [], [], []), (25, [0, 1, 2, 8, 9, 12, 15, 16], [], [], []), (26, [0, 1, 2, 8, 9, 12, 15, 16], [], [], []), (27, [0, 1, 2, 8, 9, 12, 15, 16, 94], [], [], []), (28, [6], [], [], []), (29, [0, 1, 2, 8, 9, 12, 15, 97], [], [], []), (30, [6], [], [], []), (31, [8, 9, 12, 15, 17, 18], [], [], []), (32, [12, 15, 115], [], [], []), (33, [6], [], [], []), (34, [12, 15, 16], [], [], []), (35, [15, 16], [], [], []), (36, [15, 16, 120], [], [], []), (37, [6], [], [], []), (38, [123], [], [], []), (39, [6], [], [], []), (40, [6], [], [], [])]
def r_laws_FnExactJoinTail : List RV := [.t 6]
abbrev n_laws_FnExactJoinTail : Nat := 13
theorem k_laws_FnExactJoinTail : Known Pr mu n_laws_FnExactJoinTail m_laws_FnExactJoinTail r_laws_FnExactJoinTail Go.Proofs.Try.f13.ntmps := .of h_laws_FnExactJoinTail hm Go.Proofs.Try.func13 (by kernel_rfl) (by kernel_rfl) (by kernel_rfl) (by kernel_rfl)
def m_laws_szEntryS_1 : Unit → MCode := fun _ => .region [] [⟨(some 4), .mv (.const (.int .i64 0)), none, []⟩] [0, 1]
def m_laws_szEntryS_2 : Unit → MCode := fun _ => .region [] [⟨(some 5), .mv (.tmp 1), none, []⟩,
    ⟨(some 6), .mv (.tmp 0), none, []⟩,
    ⟨(some 7), .len false (.tmp 6), none, []⟩,
    ⟨(some 8), .bin .sub (.tmp 5) (.tmp 7), none, []⟩,
    ⟨(some 1), .mv (.tmp 8), none, []⟩] [1]
def m_laws_szEntryS_3 : Unit → MCode := fun _ => .region [] [⟨(some 9), .mv (.tmp 1), none, []⟩,
    ⟨(some 10), .bin .lss (.tmp 9) (.const (.int .i64 0)), none, []⟩] [1, 10]
def m_laws_szEntryS_4 : Unit → MCode := fun _ => .region [] [⟨(some 4), .mv (.const (.int .i64 (-1))), none, []⟩] [4]
def m_laws_szEntryS_5 : Unit → MCode := fun _ => .seq m_laws_szEntryS_4 (fun _ => .ret)
def m_laws_szEntryS_6 : Unit → MCode := fun _ => .cond (.tmp 10) m_laws_szEntryS_5 (fun _ => .skip)
def m_laws_szEntryS_7 : Unit → MCode := fun _ => .seq m_laws_szEntryS_3 m_laws_szEntryS_6
def m_laws_szEntryS_8 : Unit → MCode := fun _ => .region [] [⟨(some 11), .mv (.tmp 1), none, []⟩,
    ⟨(some 4), .mv (.tmp 11), none, []⟩] [4]
def m_laws_szEntryS_9 : Unit → MCode := fun _ => .seq m_laws_szEntryS_8 (fun _ => .ret)
def m_laws_szEntryS_10 : Unit → MCode := fun _ => .seq m_laws_szEntryS_7 m_laws_szEntryS_9
def m_laws_szEntryS_11 : Unit → MCode := fun _ => .seq m_laws_szEntryS_2 m_laws_szEntryS_10
def m_laws_szEntryS_12 : Unit → MCode := fun _ => .seq m_laws_szEntryS_1 m_laws_szEntryS_11
def m_laws_szEntryS : MCode := m_laws_szEntryS_12 ()
def h_laws_szEntryS : Hints := [(0, [0, 1], [], [], []), (1, [1], [], [], []), (2, [1, 10], [], [], []), (3, [4], [], [], []), (4, [4], [], [], [])]
def r_laws_szEntryS : List RV := [.t 4]
abbrev n_laws_szEntryS : Nat := 34
theorem k_laws_szEntryS : Known Pr mu n_laws_szEntryS m_laws_szEntryS r_laws_szEntryS Go.Proofs.Try.f34.ntmps := .of h_laws_szEntryS hm Go.Proofs.Try.func34 (by kernel_rfl) (by kernel_rfl) (by kernel_rfl) (by kernel_rfl)
def m_laws_toEntryS_1 : Unit → MCode := fun _ => .region [] [⟨(some 2), .mv (.const (.slice none 0 0)), none, []⟩] [0]
def m_laws_toEntryS_2 : Unit → MCode := fun _ => .region [] [⟨(some 5), .mv (.tmp 0), none, []⟩,
    ⟨(some 6), .len false (.tmp 5), none, []⟩,
    ⟨(some 7), .mks 7 56 [.int .i64 0, .int .i64 0, .int .i64 0, .int .i64 0, .int .i64 0, .int .i64 0, .int .i64 0] (.tmp 6) (.tmp 6), none, []⟩,
    ⟨(some 3), .mv (.tmp 7), none, []⟩] [0, 3]
def m_laws_toEntryS_3 : Unit → MCode := fun _ => .region [] [⟨(some 4), .mv (.const (.int .i64 0)), none, []⟩] [0, 3, 4]
def m_laws_toEntryS_4 : Unit → MCode := fun _ => .region [] [⟨(some 8), .mv (.tmp 4), none, []⟩,
    ⟨(some 9), .mv (.tmp 0), none, []⟩,
    ⟨(some 10), .len false (.tmp 9), none, []⟩,
    ⟨(some 11), .bin .lss (.tmp 8) (.tmp 10), none, []⟩] [0, 3, 4, 11]
def m_laws_toEntryS_5 : Unit → MCode := fun _ => .cond (.tmp 11) (fun _ => .skip) (fun _ => .exit 0)
def m_laws_toEntryS_6 : Unit → MCode := fun _ => .seq m_laws_toEntryS_4 m_laws_toEntryS_5
def m_laws_toEntryS_7 : Unit → MCode := fun _ => .region [] [⟨(some 14), .mv (.tmp 3), none, []⟩,
    ⟨(some 15), .mv (.tmp 4), none, []⟩,
    ⟨(some 16), .mv (.tmp 0), none, []⟩,
    ⟨(some 17), .mv (.tmp 4), none, []⟩,
    ⟨(some 18), .ia (.tmp 16) (.tmp 17) 7, none, []⟩,
    ⟨(some 19), .ld (.tmp 18) 7 true, none, []⟩,
    ⟨(some 20), .call 54 [(.tmp 19)], none, []⟩,
    ⟨(some 21), .ia (.tmp 14) (.tmp 15) 7, none, []⟩,
    ⟨none, .sto (.tmp 21) (.tmp 20) 7, none, []⟩] [0, 3, 4]
def m_laws_toEntryS_8 : Unit → MCode := fun _ => .block 1 m_laws_toEntryS_7
def m_laws_toEntryS_9 : Unit → MCode := fun _ => .region [] [⟨(some 12), .mv (.tmp 4), none, []⟩,
    ⟨(some 13), .bin .add (.tmp 12) (.const (.int .i64 1)), none, []⟩,
    ⟨(some 4), .mv (.tmp 13), none, []⟩] [0, 3, 4]
def m_laws_toEntryS_10 : Unit → MCode := fun _ => .seq m_laws_toEntryS_8 m_laws_toEntryS_9
def m_laws_toEntryS_11 : Unit → MCode := fun _ => .seq m_laws_toEntryS_6 m_laws_toEntryS_10
def m_laws_toEntryS_12 : Unit → MCode := fun _ => .loop m_laws_toEntryS_11
def m_laws_toEntryS_13 : Unit → MCode := fun _ => .block 0 m_laws_toEntryS_12
def m_laws_toEntryS_14 : Unit → MCode := fun _ => .seq m_laws_toEntryS_3 m_laws_toEntryS_13
def m_laws_toEntryS_15 : Unit → MCode := fun _ => .region [] [⟨(some 22), .mv (.tmp 3), none, []⟩,
    ⟨(some 2), .mv (.tmp 22), none, []⟩] [2]
def m_laws_toEntryS_16 : Unit → MCode := fun _ => .seq m_laws_toEntryS_15 (fun _ => .ret)
def m_laws_toEntryS_17 : Unit → MCode := fun _ => .seq m_laws_toEntryS_14 m_laws_toEntryS_16
def m_laws_toEntryS_18 : Unit → MCode := fun _ => .seq m_laws_toEntryS_2 m_laws_toEntryS_17
def m_laws_toEntryS_19 : Unit → MCode := fun _ => .seq m_laws_toEntryS_1 m_laws_toEntryS_18
def m_laws_toEntryS : MCode := m_laws_toEntryS_19 ()
def h_laws_toEntryS : Hints := [(0, [0], [], [], []), (1, [0, 3], [], [], []), (2, [0, 3, 4], [], [], []), (3, [0, 3, 4, 11], [], [], []), (5, [0, 3, 4], [], [], []), (4, [0, 3, 4], [], [], []), (6, [2], [], [], [])]
def r_laws_toEntryS : List RV := [.t 2]
abbrev n_laws_toEntryS : Nat := 36
theorem k_laws_toEntryS : Known Pr mu n_laws_toEntryS m_laws_toEntryS r_laws_toEntryS Go.Proofs.Try.f36.ntmps := .of h_laws_toEntryS hm Go.Proofs.Try.func36 (by kernel_rfl) (by kernel_rfl) (by kernel_rfl) (by kernel_rfl)
def m_laws_eqEntryS_1 : Unit → MCode := fun _ => .region [] [⟨(some 4), .mv (.const (.bool false)), none, []⟩] [0, 1]
def m_laws_eqEntryS_2 : Unit → MCode := fun _ => .region [] [⟨(some 6), .mv (.tmp 0), none, []⟩,
    ⟨(some 7), .len false (.tmp 6), none, []⟩,
    ⟨(some 8), .mv (.tmp 1), none, []⟩,
    ⟨(some 9), .len false (.tmp 8), none, []⟩,
    ⟨(some 10), .bin .neq (.tmp 7) (.tmp 9), none, []⟩] [0, 1, 10]
def m_laws_eqEntryS_3 : Unit → MCode := fun _ => .region [] [⟨(some 4), .mv (.const (.bool false)), none, []⟩] [4]
def m_laws_eqEntryS_4 : Unit → MCode := fun _ => .seq m_laws_eqEntryS_3 (fun _ => .ret)
def m_laws_eqEntryS_5 : Unit → MCode := fun _ => .cond (.tmp 10) m_laws_eqEntryS_4 (fun _ => .skip)
def m_laws_eqEntryS_6 : Unit → MCode := fun _ => .seq m_laws_eqEntryS_2 m_laws_eqEntryS_5
def m_laws_eqEntryS_7 : Unit → MCode := fun _ => .region [] [⟨(some 5), .mv (.const (.int .i64 0)), none, []⟩] [0, 1, 5]
def m_laws_eqEntryS_8 : Unit → MCode := fun _ => .region [] [⟨(some 11), .mv (.tmp 5), none, []⟩,
    ⟨(some 12), .mv (.tmp 0), none, []⟩,
    ⟨(some 13), .len false (.tmp 12), none, []⟩,
    ⟨(some 14), .bin .lss (.tmp 11) (.tmp 13), none, []⟩] [0, 1, 5, 14]
def m_laws_eqEntryS_9 : Unit → MCode := fun _ => .cond (.tmp 14) (fun _ => .skip) (fun _ => .exit 0)
def m_laws_eqEntryS_10 : Unit → MCode := fun _ => .seq m_laws_eqEntryS_8 m_laws_eqEntryS_9
def m_laws_eqEntryS_11 : Unit → MCode := fun _ => .region [] [⟨(some 17), .mv (.tmp 0), none, []⟩,
    ⟨(some 18), .mv (.tmp 5), none, []⟩,
    ⟨(some 19), .ia (.tmp 17) (.tmp 18) 7, none, []⟩,
    ⟨(some 20), .ld (.tmp 19) 7 true, none, []⟩,
    ⟨(some 21), .mv (.tmp 1), none, []⟩,
    ⟨(some 22), .mv (.tmp 5), none, []⟩,
    ⟨(some 23), .ia (.tmp 21) (.tmp 22) 7, none, [0, 1, 2, 3]⟩,
    ⟨(some 24), .ld (.tmp 23) 7 true, none, [0, 1, 2, 3]⟩,
    ⟨(some 25), .call 86 [(.tmp 20), (.tmp 24)], none, []⟩,
    ⟨(some 26), .not (.tmp 25), none, []⟩] [0, 1, 5, 26]
def m_laws_eqEntryS_12 : Unit → MCode := fun _ => .region [] [⟨(some 4), .mv (.const (.bool false)), none, []⟩] [4]
def m_laws_eqEntryS_13 : Unit → MCode := fun _ => .seq m_laws_eqEntryS_12 (fun _ => .ret)
def m_laws_eqEntryS_14 : Unit → MCode := fun _ => .cond (.tmp 26) m_laws_eqEntryS_13 (fun _ => .skip)
def m_laws_eqEntryS_15 : Unit → MCode := fun _ => .seq m_laws_eqEntryS_11 m_laws_eqEntryS_14
def m_laws_eqEntryS_16 : Unit → MCode := fun _ => .block 1 m_laws_eqEntryS_15
def m_laws_eqEntryS_17 : Unit → MCode := fun _ => .region [] [⟨(some 15), .mv (.tmp 5), none, []⟩,
    ⟨(some 16), .bin .add (.tmp 15) (.const (.int .i64 1)), none, []⟩,
    ⟨(some 5), .mv (.tmp 16), none, []⟩] [0, 1, 5]
def m_laws_eqEntryS_18 : Unit → MCode := fun _ => .seq m_laws_eqEntryS_16 m_laws_eqEntryS_17
def m_laws_eqEntryS_19 : Unit → MCode := fun _ => .seq m_laws_eqEntryS_10 m_laws_eqEntryS_18
def m_laws_eqEntryS_20 : Unit → MCode := fun _ => .loop m_laws_eqEntryS_19
def m_laws_eqEntryS_21 : Unit → MCode := fun _ => .block 0 m_laws_eqEntryS_20
def m_laws_eqEntryS_22 : Unit → MCode := fun _ => .seq m_laws_eqEntryS_7 m_laws_eqEntryS_21
def m_laws_eqEntryS_23 : Unit → MCode := fun _ => .region [] [⟨(some 4), .mv (.const (.bool true)), none, []⟩] [4]
def m_laws_eqEntryS_24 : Unit → MCode := fun _ => .seq m_laws_eqEntryS_23 (fun _ => .ret)
def m_laws_eqEntryS_25 : Unit → MCode := fun _ => .seq m_laws_eqEntryS_22 m_laws_eqEntryS_24
def m_laws_eqEntryS_26 : Unit → MCode := fun _ => .seq m_laws_eqEntryS_6 m_laws_eqEntryS_25
def m_laws_eqEntryS_27 : Unit → MCode := fun _ => .seq m_laws_eqEntryS_1 m_laws_eqEntryS_26
def m_laws_eqEntryS : MCode := m_laws_eqEntryS_27 ()
def h_laws_eqEntryS : Hints := [(0, [0, 1], [], [], []), (1, [0, 1, 10], [], [], []), (2, [4], [], [], []), (3, [0, 1, 5], [], [], []), (4, [0, 1, 5, 14], [], [], []), (6, [0, 1, 5, 26], [[], [], [], [], [], [], [0, 1, 2, 3], [0, 1, 2, 3]], [], []), (7, [4], [], [], []), (5, [0, 1, 5], [], [], []), (8, [4], [], [], [])]
def r_laws_eqEntryS : List RV := [.t 4]
abbrev n_laws_eqEntryS : Nat := 38
theorem k_laws_eqEntryS : Known Pr mu n_laws_eqEntryS m_laws_eqEntryS r_laws_eqEntryS Go.Proofs.Try.f38.ntmps := .of h_laws_eqEntryS hm Go.Proofs.Try.func38 (by kernel_rfl) (by kernel_rfl) (by kernel_rfl) (by kernel_rfl)
def m_laws_markEntryS_1 : Unit → MCode := fun _ => .region [] [⟨(some 4), .mv (.const (.int .i64 0)), none, []⟩] [0, 1]
def m_laws_markEntryS_2 : Unit → MCode := fun _ => .region [] [⟨(some 5), .mv (.const (.int .i64 0)), none, []⟩] [0, 1, 5]
def m_laws_markEntryS_3 : Unit → MCode := fun _ => .region [] [⟨(some 6), .mv (.tmp 5), none, []⟩,
    ⟨(some 7), .mv (.tmp 0), none, []⟩,
    ⟨(some 8), .len false (.tmp 7), none, []⟩,
    ⟨(some 9), .bin .lss (.tmp 6) (.tmp 8), none, []⟩] [0, 1, 5, 9]
def m_laws_markEntryS_4 : Unit → MCode := fun _ => .cond (.tmp 9) (fun _ => .skip) (fun _ => .exit 0)
def m_laws_markEntryS_5 : Unit → MCode := fun _ => .seq m_laws_markEntryS_3 m_laws_markEntryS_4
def m_laws_markEntryS_6 : Unit → MCode := fun _ => .region [] [⟨(some 12), .mv (.tmp 0), none, []⟩,
    ⟨(some 13), .mv (.tmp 5), none, []⟩,
    ⟨(some 14), .mv (.tmp 1), none, []⟩,
    ⟨(some 15), .ia (.tmp 12) (.tmp 13) 7, none, []⟩,
    ⟨(some 16), .fa (.tmp 15) 0, none, []⟩,
    ⟨none, .sto (.tmp 16) (.tmp 14) 1, none, []⟩] [0, 1, 5]
def m_laws_markEntryS_7 : Unit → MCode := fun _ => .region [] [⟨(some 17), .mv (.tmp 1), none, []⟩,
    ⟨(some 18), .bin .add (.tmp 17) (.const (.int .i64 1)), none, []⟩,
    ⟨(some 1), .mv (.tmp 18), none, []⟩] [0, 1, 5]
def m_laws_markEntryS_8 : Unit → MCode := fun _ => .region [] [⟨(some 19), .mv (.tmp 0), none, []⟩,
    ⟨(some 20), .mv (.tmp 5), none, []⟩,
    ⟨(some 21), .mv (.tmp 1), none, []⟩,
    ⟨(some 22), .ia (.tmp 19) (.tmp 20) 7, none, []⟩,
    ⟨(some 23), .fa (.tmp 22) 1, none, []⟩,
    ⟨(some 24), .fa (.tmp 23) 0, none, []⟩,
    ⟨none, .sto (.tmp 24) (.tmp 21) 1, none, []⟩] [0, 1, 5]
def m_laws_markEntryS_9 : Unit → MCode := fun _ => .region [] [⟨(some 25), .mv (.tmp 1), none, []⟩,
    ⟨(some 26), .bin .add (.tmp 25) (.const (.int .i64 1)), none, []⟩,
    ⟨(some 1), .mv (.tmp 26), none, []⟩] [0, 1, 5]
def m_laws_markEntryS_10 : Unit → MCode := fun _ => .region [] [⟨(some 27), .mv (.tmp 0), none, []⟩,
    ⟨(some 28), .mv (.tmp 5), none, []⟩,
    ⟨(some 29), .mv (.tmp 1), none, []⟩,
    ⟨(some 30), .ia (.tmp 27) (.tmp 28) 7, none, []⟩,
    ⟨(some 31), .fa (.tmp 30) 1, none, []⟩,
    ⟨(some 32), .fa (.tmp 31) 1, none, []⟩,
    ⟨none, .sto (.tmp 32) (.tmp 29) 1, none, []⟩] [0, 1, 5]
def m_laws_markEntryS_11 : Unit → MCode := fun _ => .region [] [⟨(some 33), .mv (.tmp 1), none, []⟩,
    ⟨(some 34), .bin .add (.tmp 33) (.const (.int .i64 1)), none, []⟩,
    ⟨(some 1), .mv (.tmp 34), none, []⟩] [0, 1, 5]
def m_laws_markEntryS_12 : Unit → MCode := fun _ => .region [] [⟨(some 35), .mv (.tmp 0), none, []⟩,
    ⟨(some 36), .mv (.tmp 5), none, []⟩,
    ⟨(some 37), .mv (.tmp 1), none, []⟩,
    ⟨(some 38), .ia (.tmp 35) (.tmp 36) 7, none, []⟩,
    ⟨(some 39), .fa (.tmp 38) 1, none, []⟩,
    ⟨(some 40), .fa (.tmp 39) 2, none, []⟩,
    ⟨none, .sto (.tmp 40) (.tmp 37) 1, none, []⟩] [0, 1, 5]
def m_laws_markEntryS_13 : Unit → MCode := fun _ => .region [] [⟨(some 41), .mv (.tmp 1), none, []⟩,
    ⟨(some 42), .bin .add (.tmp 41) (.const (.int .i64 1)), none, []⟩,
    ⟨(some 1), .mv (.tmp 42), none, []⟩] [0, 1, 5]
def m_laws_markEntryS_14 : Unit → MCode := fun _ => .region [] [⟨(some 43), .mv (.tmp 0), none, []⟩,
    ⟨(some 44), .mv (.tmp 5), none, []⟩,
    ⟨(some 45), .mv (.tmp 1), none, []⟩,
    ⟨(some 46), .ia (.tmp 43) (.tmp 44) 7, none, []⟩,
    ⟨(some 47), .fa (.tmp 46) 1, none, []⟩,
    ⟨(some 48), .fa (.tmp 47) 3, none, []⟩,
    ⟨none, .sto (.tmp 48) (.tmp 45) 1, none, []⟩] [0, 1, 5]
def m_laws_markEntryS_15 : Unit → MCode := fun _ => .region [] [⟨(some 49), .mv (.tmp 1), none, []⟩,
    ⟨(some 50), .bin .add (.tmp 49) (.const (.int .i64 1)), none, []⟩,
    ⟨(some 1), .mv (.tmp 50), none, []⟩] [0, 1, 5]
def m_laws_markEntryS_16 : Unit → MCode := fun _ => .region [] [⟨(some 51), .mv (.tmp 0), none, []⟩,
    ⟨(some 52), .mv (.tmp 5), none, []⟩,
    ⟨(some 53), .mv (.tmp 1), none, []⟩,
    ⟨(some 54), .ia (.tmp 51) (.tmp 52) 7, none, []⟩,
    ⟨(some 55), .fa (.tmp 54) 1, none, []⟩,
    ⟨(some 56), .fa (.tmp 55) 4, none, []⟩,
    ⟨none, .sto (.tmp 56) (.tmp 53) 1, none, []⟩] [0, 1, 5]
def m_laws_markEntryS_17 : Unit → MCode := fun _ => .region [] [⟨(some 57), .mv (.tmp 1), none, []⟩,
    ⟨(some 58), .bin .add (.tmp 57) (.const (.int .i64 1)), none, []⟩,
    ⟨(some 1), .mv (.tmp 58), none, []⟩] [0, 1, 5]
def m_laws_markEntryS_18 : Unit → MCode := fun _ => .region [] [⟨(some 59), .mv (.tmp 0), none, []⟩,
    ⟨(some 60), .mv (.tmp 5), none, []⟩,
    ⟨(some 61), .mv (.tmp 1), none, []⟩,
    ⟨(some 62), .ia (.tmp 59) (.tmp 60) 7, none, []⟩,
    ⟨(some 63), .fa (.tmp 62) 1, none, []⟩,
    ⟨(some 64), .fa (.tmp 63) 5, none, []⟩,
    ⟨none, .sto (.tmp 64) (.tmp 61) 1, none, []⟩] [0, 1, 5]
def m_laws_markEntryS_19 : Unit → MCode := fun _ => .region [] [⟨(some 65), .mv (.tmp 1), none, []⟩,
    ⟨(some 66), .bin .add (.tmp 65) (.const (.int .i64 1)), none, []⟩,
    ⟨(some 1), .mv (.tmp 66), none, []⟩] [0, 1, 5]
def m_laws_markEntryS_20 : Unit → MCode := fun _ => .seq m_laws_markEntryS_18 m_laws_markEntryS_19
def m_laws_markEntryS_21 : Unit → MCode := fun _ => .seq m_laws_markEntryS_17 m_laws_markEntryS_20
def m_laws_markEntryS_22 : Unit → MCode := fun _ => .seq m_laws_markEntryS_16 m_laws_markEntryS_21
def m_laws_markEntryS_23 : Unit → MCode := fun _ => .seq m_laws_markEntryS_15 m_laws_markEntryS_22
def m_laws_markEntryS_24 : Unit → MCode := fun _ => .seq m_laws_markEntryS_14 m_laws_markEntryS_23
def m_laws_markEntryS_25 : Unit → MCode := fun _ => .seq m_laws_markEntryS_13 m_laws_markEntryS_24
def m_laws_markEntryS_26 : Unit → MCode := fun _ => .seq m_laws_markEntryS_12 m_laws_markEntryS_25
def m_laws_markEntryS_27 : Unit → MCode := fun _ => .seq m_laws_markEntryS_11 m_laws_markEntryS_26
def m_laws_markEntryS_28 : Unit → MCode := fun _ => .seq m_laws_markEntryS_10 m_laws_markEntryS_27
def m_laws_markEntryS_29 : Unit → MCode := fun _ => .seq m_laws_markEntryS_9 m_laws_markEntryS_28
def m_laws_markEntryS_30 : Unit → MCode := fun _ => .seq m_laws_markEntryS_8 m_laws_markEntryS_29
def m_laws_markEntryS_31 : Unit → MCode := fun _ => .seq m_laws_markEntryS_7 m_laws_markEntryS_30
def m_laws_markEntryS_32 : Unit → MCode := fun _ => .seq m_laws_markEntryS_6 m_laws_markEntryS_31
def m_laws_markEntryS_33 : Unit → MCode := fun _ => .block 1 m_laws_markEntryS_32
def m_laws_markEntryS_34 : Unit → MCode := fun _ => .region [] [⟨(some 10), .mv (.tmp 5), none, []⟩,
    ⟨(some 11), .bin .add (.tmp 10) (.const (.int .i64 1)), none, []⟩,
    ⟨(some 5), .mv (.tmp 11), none, []⟩] [0, 1, 5]
def m_laws_markEntryS_35 : Unit → MCode := fun _ => .seq m_laws_markEntryS_33 m_laws_markEntryS_34
def m_laws_markEntryS_36 : Unit → MCode := fun _ => .seq m_laws_markEntryS_5 m_laws_markEntryS_35
def m_laws_markEntryS_37 : Unit → MCode := fun _ => .loop m_laws_markEntryS_36
def m_laws_markEntryS_38 : Unit → MCode := fun _ => .block 0 m_laws_markEntryS_37
def m_laws_markEntryS_39 : Unit → MCode := fun _ => .seq m_laws_markEntryS_2 m_laws_markEntryS_38
def m_laws_markEntryS_40 : Unit → MCode := fun _ => .region [] [⟨(some 67), .mv (.tmp 1), none, []⟩,
    ⟨(some 4), .mv (.tmp 67), none, []⟩] [4]
def m_laws_markEntryS_41 : Unit → MCode := fun _ => .seq m_laws_markEntryS_40 (fun _ => .ret)
def m_laws_markEntryS_42 : Unit → MCode := fun _ => .seq m_laws_markEntryS_39 m_laws_markEntryS_41
def m_laws_markEntryS_43 : Unit → MCode := fun _ => .seq m_laws_markEntryS_1 m_laws_markEntryS_42
def m_laws_markEntryS : MCode := m_laws_markEntryS_43 ()
def h_laws_markEntryS : Hints := [(0, [0, 1], [], [], []), (1, [0, 1, 5], [], [], []), (2, [0, 1, 5, 9], [], [], []), (4, [0, 1, 5], [], [], []), (5, [0, 1, 5], [], [], []), (6, [0, 1, 5], [], [], []), (7, [0, 1, 5], [], [], []), (8, [0, 1, 5], [], [], []), (9, [0, 1, 5], [], [], []), (10, [0, 1, 5], [], [], []), (11, [0, 1, 5], [], [], []), (12, [0, 1, 5], [], [], []), (13, [0, 1, 5], [], [], []), (14, [0, 1, 5], [], [], []), (15, [0, 1, 5], [], [], []), (16, [0, 1, 5], [], [], []), (17, [0, 1, 5], [], [], []), (3, [0, 1, 5], [], [], []), (18, [4], [], [], [])]
def r_laws_markEntryS : List RV := [.t 4]
abbrev n_laws_markEntryS : Nat := 51
theorem k_laws_markEntryS : Known Pr mu n_laws_markEntryS m_laws_markEntryS r_laws_markEntryS Go.Proofs.Try.f51.ntmps := .of h_laws_markEntryS hm Go.Proofs.Try.func51 (by kernel_rfl) (by kernel_rfl) (by kernel_rfl) (by kernel_rfl)
def m_laws_heldEntryS_1 : Unit → MCode := fun _ => .region [] [⟨(some 4), .mv (.const (.int .i64 0)), none, []⟩] [0, 1]
def m_laws_heldEntryS_2 : Unit → MCode := fun _ => .region [] [⟨(some 5), .mv (.const (.int .i64 0)), none, []⟩] [0, 1, 5]
def m_laws_heldEntryS_3 : Unit → MCode := fun _ => .region [] [⟨(some 6), .mv (.tmp 5), none, []⟩,
    ⟨(some 7), .mv (.tmp 0), none, []⟩,
    ⟨(some 8), .len false (.tmp 7), none, []⟩,
    ⟨(some 9), .bin .lss (.tmp 6) (.tmp 8), none, []⟩] [0, 1, 5, 9]
def m_laws_heldEntryS_4 : Unit → MCode := fun _ => .cond (.tmp 9) (fun _ => .skip) (fun _ => .exit 0)
def m_laws_heldEntryS_5 : Unit → MCode := fun _ => .seq m_laws_heldEntryS_3 m_laws_heldEntryS_4
def m_laws_heldEntryS_6 : Unit → MCode := fun _ => .region [] [⟨(some 12), .mv (.tmp 0), none, []⟩,
    ⟨(some 13), .mv (.tmp 5), none, []⟩,
    ⟨(some 14), .ia (.tmp 12) (.tmp 13) 7, none, []⟩,
    ⟨(some 15), .fa (.tmp 14) 0, none, []⟩,
    ⟨(some 16), .ld (.tmp 15) 1 false, none, []⟩,
    ⟨(some 17), .mv (.tmp 1), none, []⟩,
    ⟨(some 18), .bin .neq (.tmp 16) (.tmp 17), none, []⟩] [0, 1, 5, 18]
def m_laws_heldEntryS_7 : Unit → MCode := fun _ => .region [] [⟨(some 4), .mv (.const (.int .i64 (-1))), none, []⟩] [4]
def m_laws_heldEntryS_8 : Unit → MCode := fun _ => .seq m_laws_heldEntryS_7 (fun _ => .ret)
def m_laws_heldEntryS_9 : Unit → MCode := fun _ => .cond (.tmp 18) m_laws_heldEntryS_8 (fun _ => .skip)
def m_laws_heldEntryS_10 : Unit → MCode := fun _ => .seq m_laws_heldEntryS_6 m_laws_heldEntryS_9
def m_laws_heldEntryS_11 : Unit → MCode := fun _ => .region [] [⟨(some 19), .mv (.tmp 1), none, []⟩,
    ⟨(some 20), .bin .add (.tmp 19) (.const (.int .i64 1)), none, []⟩,
    ⟨(some 1), .mv (.tmp 20), none, []⟩] [0, 1, 5]
def m_laws_heldEntryS_12 : Unit → MCode := fun _ => .region [] [⟨(some 21), .mv (.tmp 0), none, []⟩,
    ⟨(some 22), .mv (.tmp 5), none, []⟩,
    ⟨(some 23), .ia (.tmp 21) (.tmp 22) 7, none, []⟩,
    ⟨(some 24), .fa (.tmp 23) 1, none, []⟩,
    ⟨(some 25), .fa (.tmp 24) 0, none, []⟩,
    ⟨(some 26), .ld (.tmp 25) 1 false, none, []⟩,
    ⟨(some 27), .mv (.tmp 1), none, []⟩,
    ⟨(some 28), .bin .neq (.tmp 26) (.tmp 27), none, []⟩] [0, 1, 5, 28]
def m_laws_heldEntryS_13 : Unit → MCode := fun _ => .region [] [⟨(some 4), .mv (.const (.int .i64 (-1))), none, []⟩] [4]
def m_laws_heldEntryS_14 : Unit → MCode := fun _ => .seq m_laws_heldEntryS_13 (fun _ => .ret)
def m_laws_heldEntryS_15 : Unit → MCode := fun _ => .cond (.tmp 28) m_laws_heldEntryS_14 (fun _ => .skip)
def m_laws_heldEntryS_16 : Unit → MCode := fun _ => .seq m_laws_heldEntryS_12 m_laws_heldEntryS_15
def m_laws_heldEntryS_17 : Unit → MCode := fun _ => .region [] [⟨(some 29), .mv (.tmp 1), none, []⟩,
    ⟨(some 30), .bin .add (.tmp 29) (.const (.int .i64 1)), none, []⟩,
    ⟨(some 1), .mv (.tmp 30), none, []⟩] [0, 1, 5]
def m_laws_heldEntryS_18 : Unit → MCode := fun _ => .region [] [⟨(some 31), .mv (.tmp 0), none, []⟩,
    ⟨(some 32), .mv (.tmp 5), none, []⟩,
    ⟨(some 33), .ia (.tmp 31) (.tmp 32) 7, none, []⟩,
    ⟨(some 34), .fa (.tmp 33) 1, none, []⟩,
    ⟨(some 35), .fa (.tmp 34) 1, none, []⟩,
    ⟨(some 36), .ld (.tmp 35) 1 false, none, []⟩,
    ⟨(some 37), .mv (.tmp 1), none, []⟩,
    ⟨(some 38), .bin .neq (.tmp 36) (.tmp 37), none, []⟩] [0, 1, 5, 38]
def m_laws_heldEntryS_19 : Unit → MCode := fun _ => .region [] [⟨(some 4), .mv (.const (.int .i64 (-1))), none, []⟩] [4]
def m_laws_heldEntryS_20 : Unit → MCode := fun _ => .seq m_laws_heldEntryS_19 (fun _ => .ret)
def m_laws_heldEntryS_21 : Unit → MCode := fun _ => .cond (.tmp 38) m_laws_heldEntryS_20 (fun _ => .skip)
def m_laws_heldEntryS_22 : Unit → MCode := fun _ => .seq m_laws_heldEntryS_18 m_laws_heldEntryS_21
def m_laws_heldEntryS_23 : Unit → MCode := fun _ => .region [] [⟨(some 39), .mv (.tmp 1), none, []⟩,
    ⟨(some 40), .bin .add (.tmp 39) (.const (.int .i64 1)), none, []⟩,
    ⟨(some 1), .mv (.tmp 40), none, []⟩] [0, 1, 5]
def m_laws_heldEntryS_24 : Unit → MCode := fun _ => .region [] [⟨(some 41), .mv (.tmp 0), none, []⟩,
    ⟨(some 42), .mv (.tmp 5), none, []⟩,
    ⟨(some 43), .ia (.tmp 41) (.tmp 42) 7, none, []⟩,
    ⟨(some 44), .fa (.tmp 43) 1, none, []⟩,
    ⟨(some 45), .fa (.tmp 44) 2, none, []⟩,
    ⟨(some 46), .ld (.tmp 45) 1 false, none, []⟩,
    ⟨(some 47), .mv (.tmp 1), none, []⟩,
    ⟨(some 48), .bin .neq (.tmp 46) (.tmp 47), none, []⟩] [0, 1, 5, 48]
def m_laws_heldEntryS_25 : Unit → MCode := fun _ => .region [] [⟨(some 4), .mv (.const (.int .i64 (-1))), none, []⟩] [4]
def m_laws_heldEntryS_26 : Unit → MCode := fun _ => .seq m_laws_heldEntryS_25 (fun _ => .ret)
def m_laws_heldEntryS_27 : Unit → MCode := fun _ => .cond (.tmp 48) m_laws_heldEntryS_26 (fun _ => .skip)
def m_laws_heldEntryS_28 : Unit → MCode := fun _ => .seq m_laws_heldEntryS_24 m_laws_heldEntryS_27
def m_laws_heldEntryS_29 : Unit → MCode := fun _ => .region [] [⟨(some 49), .mv (.tmp 1), none, []⟩,
    ⟨(some 50), .bin .add (.tmp 49) (.const (.int .i64 1)), none, []⟩,
    ⟨(some 1), .mv (.tmp 50), none, []⟩] [0, 1, 5]
def m_laws_heldEntryS_30 : Unit → MCode := fun _ => .region [] [⟨(some 51), .mv (.tmp 0), none, []⟩,
    ⟨(some 52), .mv (.tmp 5), none, []⟩,
    ⟨(some 53), .ia (.tmp 51) (.tmp 52) 7, none, []⟩,
    ⟨(some 54), .fa (.tmp 53) 1, none, []⟩,
    ⟨(some 55), .fa (.tmp 54) 3, none, []⟩,
    ⟨(some 56), .ld (.tmp 55) 1 false, none, []⟩,
    ⟨(some 57), .mv (.tmp 1), none, []⟩,
    ⟨(some 58), .bin .neq (.tmp 56) (.tmp 57), none, []⟩] [0, 1, 5, 58]
def m_laws_heldEntryS_31 : Unit → MCode := fun _ => .region [] [⟨(some 4), .mv (.const (.int .i64 (-1))), none, []⟩] [4]
def m_laws_heldEntryS_32 : Unit → MCode := fun _ => .seq m_laws_heldEntryS_31 (fun _ => .ret)
def m_laws_heldEntryS_33 : Unit → MCode := fun _ => .cond (.tmp 58) m_laws_heldEntryS_32 (fun _ => .skip)
def m_laws_heldEntryS_34 : Unit → MCode := fun _ => .seq m_laws_heldEntryS_30 m_laws_heldEntryS_33
def m_laws_heldEntryS_35 : Unit → MCode := fun _ => .region [] [⟨(some 59), .mv (.tmp 1), none, []⟩,
    ⟨(some 60), .bin .add (.tmp 59) (.const (.int .i64 1)), none, []⟩,
    ⟨(some 1), .mv (.tmp 60), none, []⟩] [0, 1, 5]
def m_laws_heldEntryS_36 : Unit → MCode := fun _ => .region [] [⟨(some 61), .mv (.tmp 0), none, []⟩,
    ⟨(some 62), .mv (.tmp 5), none, []⟩,
    ⟨(some 63), .ia (.tmp 61) (.tmp 62) 7, none, []⟩,
    ⟨(some 64), .fa (.tmp 63) 1, none, []⟩,
    ⟨(some 65), .fa (.tmp 64) 4, none, []⟩,
    ⟨(some 66), .ld (.tmp 65) 1 false, none, []⟩,
    ⟨(some 67), .mv (.tmp 1), none, []⟩,
    ⟨(some 68), .bin .neq (.tmp 66) (.tmp 67), none, []⟩] [0, 1, 5, 68]
def m_laws_heldEntryS_37 : Unit → MCode := fun _ => .region [] [⟨(some 4), .mv (.const (.int .i64 (-1))), none, []⟩] [4]
def m_laws_heldEntryS_38 : Unit → MCode := fun _ => .seq m_laws_heldEntryS_37 (fun _ => .ret)
def m_laws_heldEntryS_39 : Unit → MCode := fun _ => .cond (.tmp 68) m_laws_heldEntryS_38 (fun _ => .skip)
def m_laws_heldEntryS_40 : Unit → MCode := fun _ => .seq m_laws_heldEntryS_36 m_laws_heldEntryS_39
def m_laws_heldEntryS_41 : Unit → MCode := fun _ => .region [] [⟨(some 69), .mv (.tmp 1), none, []⟩,
    ⟨(some 70), .bin .add (.tmp 69) (.const (.int .i64 1)), none, []⟩,
    ⟨(some 1), .mv (.tmp 70), none, []⟩] [0, 1, 5]
def m_laws_heldEntryS_42 : Unit → MCode := fun _ => .region [] [⟨(some 71), .mv (.tmp 0), none, []⟩,
    ⟨(some 72), .mv (.tmp 5), none, []⟩,
    ⟨(some 73), .ia (.tmp 71) (.tmp 72) 7, none, []⟩,
    ⟨(some 74), .fa (.tmp 73) 1, none, []⟩,
    ⟨(some 75), .fa (.tmp 74) 5, none, []⟩,
    ⟨(some 76), .ld (.tmp 75) 1 false, none, []⟩,
    ⟨(some 77), .mv (.tmp 1), none, []⟩,
    ⟨(some 78), .bin .neq (.tmp 76) (.tmp 77), none, []⟩] [0, 1, 5, 78]
def m_laws_heldEntryS_43 : Unit → MCode := fun _ => .region [] [⟨(some 4), .mv (.const (.int .i64 (-1))), none, []⟩] [4]
def m_laws_heldEntryS_44 : Unit → MCode := fun _ => .seq m_laws_heldEntryS_43 (fun _ => .ret)
def m_laws_heldEntryS_45 : Unit → MCode := fun _ => .cond (.tmp 78) m_laws_heldEntryS_44 (fun _ => .skip)
def m_laws_heldEntryS_46 : Unit → MCode := fun _ => .seq m_laws_heldEntryS_42 m_laws_heldEntryS_45
def m_laws_heldEntryS_47 : Unit → MCode := fun _ => .region [] [⟨(some 79), .mv (.tmp 1), none, []⟩,
    ⟨(some 80), .bin .add (.tmp 79) (.const (.int .i64 1)), none, []⟩,
    ⟨(some 1), .mv (.tmp 80), none, []⟩] [0, 1, 5]
def m_laws_heldEntryS_48 : Unit → MCode := fun _ => .seq m_laws_heldEntryS_46 m_laws_heldEntryS_47
def m_laws_heldEntryS_49 : Unit → MCode := fun _ => .seq m_laws_heldEntryS_41 m_laws_heldEntryS_48
def m_laws_heldEntryS_50 : Unit → MCode := fun _ => .seq m_laws_heldEntryS_40 m_laws_heldEntryS_49
def m_laws_heldEntryS_51 : Unit → MCode := fun _ => .seq m_laws_heldEntryS_35 m_laws_heldEntryS_50
def m_laws_heldEntryS_52 : Unit → MCode := fun _ => .seq m_laws_heldEntryS_34 m_laws_heldEntryS_51
def m_laws_heldEntryS_53 : Unit → MCode := fun _ => .seq m_laws_heldEntryS_29 m_laws_heldEntryS_52
def m_laws_heldEntryS_54 : Unit → MCode := fun _ => .seq m_laws_heldEntryS_28 m_laws_heldEntryS_53
def m_laws_heldEntryS_55 : Unit → MCode := fun _ => .seq m_laws_heldEntryS_23 m_laws_heldEntryS_54
def m_laws_heldEntryS_56 : Unit → MCode := fun _ => .seq m_laws_heldEntryS_22 m_laws_heldEntryS_55
def m_laws_heldEntryS_57 : Unit → MCode := fun _ => .seq m_laws_heldEntryS_17 m_laws_heldEntryS_56
def m_laws_heldEntryS_58 : Unit → MCode := fun _ => .seq m_laws_heldEntryS_16 m_laws_heldEntryS_57
def m_laws_heldEntryS_59 : Unit → MCode := fun _ => .seq m_laws_heldEntryS_11 m_laws_heldEntryS_58
def m_laws_heldEntryS_60 : Unit → MCode := fun _ => .seq m_laws_heldEntryS_10 m_laws_heldEntryS_59
def m_laws_heldEntryS_61 : Unit → MCode := fun _ => .block 1 m_laws_heldEntryS_60
def m_laws_heldEntryS_62 : Unit → MCode := fun _ => .region [] [⟨(some 10), .mv (.tmp 5), none, []⟩,
    ⟨(some 11), .bin .add (.tmp 10) (.const (.int .i64 1)), none, []⟩,
    ⟨(some 5), .mv (.tmp 11), none, []⟩] [0, 1, 5]
def m_laws_heldEntryS_63 : Unit → MCode := fun _ => .seq m_laws_heldEntryS_61 m_laws_heldEntryS_62
def m_laws_heldEntryS_64 : Unit → MCode := fun _ => .seq m_laws_heldEntryS_5 m_laws_heldEntryS_63
def m_laws_heldEntryS_65 : Unit → MCode := fun _ => .loop m_laws_heldEntryS_64
def m_laws_heldEntryS_66 : Unit → MCode := fun _ => .block 0 m_laws_heldEntryS_65
def m_laws_heldEntryS_67 : Unit → MCode := fun _ => .seq m_laws_heldEntryS_2 m_laws_heldEntryS_66
def m_laws_heldEntryS_68 : Unit → MCode := fun _ => .region [] [⟨(some 81), .mv (.tmp 1), none, []⟩,
    ⟨(some 4), .mv (.tmp 81), none, []⟩] [4]
def m_laws_heldEntryS_69 : Unit → MCode := fun _ => .seq m_laws_heldEntryS_68 (fun _ => .ret)
def m_laws_heldEntryS_70 : Unit → MCode := fun _ => .seq m_laws_heldEntryS_67 m_laws_heldEntryS_69
def m_laws_heldEntryS_71 : Unit → MCode := fun _ => .seq m_laws_heldEntryS_1 m_laws_heldEntryS_70
def m_laws_heldEntryS : MCode := m_laws_heldEntryS_71 ()
def h_laws_heldEntryS : Hints := [(0, [0, 1], [], [], []), (1, [0, 1, 5], [], [], []), (2, [0, 1, 5, 9], [], [], []), (4, [0, 1, 5, 18], [], [], []), (5, [4], [], [], []), (6, [0, 1, 5], [], [], []), (7, [0, 1, 5, 28], [], [], []), (8, [4], [], [], []), (9, [0, 1, 5], [], [], []), (10, [0, 1, 5, 38], [], [], []), (11, [4], [], [], []), (12, [0, 1, 5], [], [], []), (13, [0, 1, 5, 48], [], [], []), (14, [4], [], [], []), (15, [0, 1, 5], [], [], []), (16, [0, 1, 5, 58], [], [], []), (17, [4], [], [], []), (18, [0, 1, 5], [], [], []), (19, [0, 1, 5, 68], [], [], []), (20, [4], [], [], []), (21, [0, 1, 5], [], [], []), (22, [0, 1, 5, 78], [], [], []), (23, [4], [], [], []), (24, [0, 1, 5], [], [], []), (3, [0, 1, 5], [], [], []), (25, [4], [], [], [])]
def r_laws_heldEntryS : List RV := [.t 4]
abbrev n_laws_heldEntryS : Nat := 52
theorem k_laws_heldEntryS : Known Pr mu n_laws_heldEntryS m_laws_heldEntryS r_laws_heldEntryS Go.Proofs.Try.f52.ntmps := .of h_laws_heldEntryS hm Go.Proofs.Try.func52 (by kernel_rfl) (by kernel_rfl) (by kernel_rfl) (by kernel_rfl)
def m_laws_toEntry_1 : Unit → MCode := fun _ => .region [] [⟨(some 1), .box (.tmp 0), none, []⟩,
    ⟨(some 2), .alloc [.int .i64 0, .int .i64 0, .int .i64 0, .int .i64 0, .int .i64 0, .int .i64 0, .int .i64 0], none, []⟩] [1, 2]
def m_laws_toEntry_2 : Unit → MCode := fun _ => .region [] [⟨(some 3), .alloc [.int .i64 0, .int .i64 0, .int .i64 0, .int .i64 0, .int .i64 0, .int .i64 0, .int .i64 0], none, []⟩] [1, 2, 3]
def m_laws_toEntry_3 : Unit → MCode := fun _ => .region [] [⟨(some 4), .fa (.tmp 1) 0, none, []⟩,
    ⟨(some 5), .ld (.tmp 4) 1 false, none, []⟩,
    ⟨(some 6), .fa (.tmp 3) 0, none, []⟩,
    ⟨none, .sto (.tmp 6) (.tmp 5) 1, none, []⟩] [1, 2, 3]
def m_laws_toEntry_4 : Unit → MCode := fun _ => .region [] [⟨(some 7), .fa (.tmp 1) 1, none, []⟩,
    ⟨(some 8), .ld (.tmp 7) 6 true, none, []⟩,
    ⟨(some 9), .call 96 [(.tmp 8)], none, []⟩,
    ⟨(some 10), .fa (.tmp 3) 1, none, []⟩,
    ⟨none, .sto (.tmp 10) (.tmp 9) 6, none, []⟩] [2, 3]
def m_laws_toEntry_5 : Unit → MCode := fun _ => .region [] [⟨(some 11), .ld (.tmp 3) 7 true, none, []⟩,
    ⟨none, .sto (.tmp 2) (.tmp 11) 7, none, []⟩] [2]
def m_laws_toEntry_6 : Unit → MCode := fun _ => .seq m_laws_toEntry_5 (fun _ => .ret)
def m_laws_toEntry_7 : Unit → MCode := fun _ => .seq m_laws_toEntry_4 m_laws_toEntry_6
def m_laws_toEntry_8 : Unit → MCode := fun _ => .seq m_laws_toEntry_3 m_laws_toEntry_7
def m_laws_toEntry_9 : Unit → MCode := fun _ => .seq m_laws_toEntry_2 m_laws_toEntry_8
def m_laws_toEntry_10 : Unit → MCode := fun _ => .seq m_laws_toEntry_1 m_laws_toEntry_9
def m_laws_toEntry : MCode := m_laws_toEntry_10 ()
def h_laws_toEntry : Hints := [(0, [1, 2], [], [], []), (1, [1, 2, 3], [], [], []), (2, [1, 2, 3], [], [], []), (3, [2, 3], [], [], []), (4, [2], [], [], [])]
def r_laws_toEntry : List RV := [.c 2 7 true]
abbrev n_laws_toEntry : Nat := 54
theorem k_laws_toEntry : Known Pr mu n_laws_toEntry m_laws_toEntry r_laws_toEntry Go.Proofs.Try.f54.ntmps := .of h_laws_toEntry hm Go.Proofs.Try.func54 (by kernel_rfl) (by kernel_rfl) (by kernel_rfl) (by kernel_rfl)
def m_spec_JoinTail_1 : Unit → MCode := fun _ => .region [] [⟨(some 6), .mv (.const (.slice none 0 0)), none, []⟩,
    ⟨(some 7), .mv (.const (.bool false)), none, []⟩] [0, 1, 2]
def m_spec_JoinTail_2 : Unit → MCode := fun _ => .region [] [⟨(some 10), .mv (.tmp 0), none, []⟩,
    ⟨(some 11), .call 91 [(.tmp 10)], none, []⟩,
    ⟨(some 12), .not (.tmp 11), none, []⟩,
    ⟨(some 13), .mv (.tmp 12), none, []⟩,
    ⟨(some 14), .mv (.tmp 1), (some (13, false)), []⟩,
    ⟨(some 15), .mv (.tmp 2), (some (13, false)), []⟩,
    ⟨(some 16), .call 84 [(.tmp 14), (.tmp 15)], (some (13, false)), []⟩,
    ⟨(some 17), .not (.tmp 16), (some (13, false)), []⟩,
    ⟨(some 18), .pick (.tmp 13) (.const (.bool true)) (.tmp 17), none, []⟩,
    ⟨(some 19), .mv (.tmp 18), none, []⟩,
    ⟨(some 20), .mv (.tmp 1), (some (19, false)), []⟩,
    ⟨(some 21), .mv (.tmp 0), (some (19, false)), []⟩,
    ⟨(some 22), .len false (.tmp 21), (some (19, false)), []⟩,
    ⟨(some 23), .bin .gtr (.tmp 20) (.tmp 22), (some (19, false)), []⟩,
    ⟨(some 24), .pick (.tmp 19) (.const (.bool true)) (.tmp 23), none, []⟩] [0, 1, 2, 24]
def m_spec_JoinTail_3 : Unit → MCode := fun _ => .region [] [⟨(some 25), .bsl 7 0 [.int .i64 0, .int .i64 0, .int .i64 0, .int .i64 0, .int .i64 0, .int .i64 0, .int .i64 0] [], none, []⟩,
    ⟨(some 6), .mv (.tmp 25), none, []⟩,
    ⟨(some 7), .mv (.const (.bool false)), none, []⟩] [6, 7]
def m_spec_JoinTail_4 : Unit → MCode := fun _ => .seq m_spec_JoinTail_3 (fun _ => .ret)
def m_spec_JoinTail_5 : Unit → MCode := fun _ => .cond (.tmp 24) m_spec_JoinTail_4 (fun _ => .skip)
def m_spec_JoinTail_6 : Unit → MCode := fun _ => .seq m_spec_JoinTail_2 m_spec_JoinTail_5
def m_spec_JoinTail_7 : Unit → MCode := fun _ => .region [] [⟨(some 26), .mv (.tmp 0), none, []⟩,
    ⟨(some 27), .mv (.tmp 1), none, []⟩,
    ⟨(some 28), .slc false (.tmp 26) (some (.tmp 27)) none none 7, none, []⟩,
    ⟨(some 29), .mv (.tmp 2), none, []⟩,
    ⟨(some 30), .call 100 [(.tmp 28), (.tmp 29)], none, []⟩,
    ⟨(some 8), .mv (.tmp 30), none, []⟩] [0, 1, 2, 8]
def m_spec_JoinTail_8 : Unit → MCode := fun _ => .region [] [⟨(some 31), .mv (.tmp 8), none, []⟩,
    ⟨(some 32), .mv (.tmp 0), none, []⟩,
    ⟨(some 33), .len false (.tmp 32), none, []⟩,
    ⟨(some 34), .mv (.tmp 1), none, []⟩,
    ⟨(some 35), .bin .sub (.tmp 33) (.tmp 34), none, []⟩,
    ⟨(some 36), .mv (.tmp 2), none, []⟩,
    ⟨(some 37), .len false (.tmp 36), none, []⟩,
    ⟨(some 38), .mx false (.tmp 35) (.tmp 37), none, []⟩,
    ⟨(some 39), .bin .lss (.tmp 31) (.tmp 38), none, []⟩] [0, 2, 8, 39]
def m_spec_JoinTail_9 : Unit → MCode := fun _ => .region [] [⟨(some 40), .bsl 7 0 [.int .i64 0, .int .i64 0, .int .i64 0, .int .i64 0, .int .i64 0, .int .i64 0, .int .i64 0] [], none, []⟩,
    ⟨(some 6), .mv (.tmp 40), none, []⟩,
    ⟨(some 7), .mv (.const (.bool false)), none, []⟩] [6, 7]
def m_spec_JoinTail_10 : Unit → MCode := fun _ => .seq m_spec_JoinTail_9 (fun _ => .ret)
def m_spec_JoinTail_11 : Unit → MCode := fun _ => .cond (.tmp 39) m_spec_JoinTail_10 (fun _ => .skip)
def m_spec_JoinTail_12 : Unit → MCode := fun _ => .seq m_spec_JoinTail_8 m_spec_JoinTail_11
def m_spec_JoinTail_13 : Unit → MCode := fun _ => .region [] [⟨(some 41), .mv (.tmp 0), none, []⟩,
    ⟨(some 42), .call 92 [(.tmp 41)], none, []⟩,
    ⟨(some 43), .mv (.tmp 2), none, []⟩,
    ⟨(some 44), .mv (.tmp 8), none, []⟩,
    ⟨(some 45), .slc false (.tmp 43) (some (.tmp 44)) none none 7, none, [0, 1]⟩,
    ⟨(some 46), .app (.tmp 42) (.tmp 45) 7 56, none, []⟩,
    ⟨(some 9), .mv (.tmp 46), none, []⟩] [9]
def m_spec_JoinTail_14 : Unit → MCode := fun _ => .region [] [⟨(some 47), .mv (.tmp 9), none, []⟩,
    ⟨(some 48), .call 91 [(.tmp 47)], none, []⟩,
    ⟨(some 49), .not (.tmp 48), none, []⟩] [9, 49]
def m_spec_JoinTail_15 : Unit → MCode := fun _ => .region [] [⟨(some 50), .bsl 7 0 [.int .i64 0, .int .i64 0, .int .i64 0, .int .i64 0, .int .i64 0, .int .i64 0, .int .i64 0] [], none, []⟩,
    ⟨(some 6), .mv (.tmp 50), none, []⟩,
    ⟨(some 7), .mv (.const (.bool false)), none, []⟩] [6, 7]
def m_spec_JoinTail_16 : Unit → MCode := fun _ => .seq m_spec_JoinTail_15 (fun _ => .ret)
def m_spec_JoinTail_17 : Unit → MCode := fun _ => .cond (.tmp 49) m_spec_JoinTail_16 (fun _ => .skip)
def m_spec_JoinTail_18 : Unit → MCode := fun _ => .seq m_spec_JoinTail_14 m_spec_JoinTail_17
def m_spec_JoinTail_19 : Unit → MCode := fun _ => .region [] [⟨(some 51), .mv (.tmp 9), none, []⟩,
    ⟨(some 6), .mv (.tmp 51), none, []⟩,
    ⟨(some 7), .mv (.const (.bool true)), none, []⟩] [6, 7]
def m_spec_JoinTail_20 : Unit → MCode := fun _ => .seq m_spec_JoinTail_19 (fun _ => .ret)
def m_spec_JoinTail_21 : Unit → MCode := fun _ => .seq m_spec_JoinTail_18 m_spec_JoinTail_20
def m_spec_JoinTail_22 : Unit → MCode := fun _ => .seq m_spec_JoinTail_13 m_spec_JoinTail_21
def m_spec_JoinTail_23 : Unit → MCode := fun _ => .seq m_spec_JoinTail_12 m_spec_JoinTail_22
def m_spec_JoinTail_24 : Unit → MCode := fun _ => .seq m_spec_JoinTail_7 m_spec_JoinTail_23
def m_spec_JoinTail_25 : Unit → MCode := fun _ => .seq m_spec_JoinTail_6 m_spec_JoinTail_24
def m_spec_JoinTail_26 : Unit → MCode := fun _ => .seq m_spec_JoinTail_1 m_spec_JoinTail_25
def m_spec_JoinTail : MCode := m_spec_JoinTail_26 ()
def h_spec_JoinTail : Hints := [(0, [0, 1, 2], [], [], []), (1, [0, 1, 2, 24], [], [], []), (2, [6, 7], [], [], []), (3, [0, 1, 2, 8], [], [], []), (4, [0, 2, 8, 39], [], [], []), (5, [6, 7], [], [], []), (6, [9], [[], [], [], [], [0, 1]], [], []), (7, [9, 49], [], [], []), (8, [6, 7], [], [], []), (9, [6, 7], [], [], [])]
def r_spec_JoinTail : List RV := [.t 6, .t 7]
abbrev n_spec_JoinTail : Nat := 61
theorem k_spec_JoinTail : Known Pr mu n_spec_JoinTail m_spec_JoinTail r_spec_JoinTail Go.Proofs.Try.f61.ntmps := .of h_spec_JoinTail hm Go.Proofs.Try.func61 (by kernel_rfl) (by kernel_rfl) (by kernel_rfl) (by kernel_rfl)
def m_impl_JoinTail_1 : Unit → MCode := fun _ => .region [] [⟨(some 6), .mv (.const (.slice none 0 0)), none, []⟩,
    ⟨(some 7), .mv (.const (.bool false)), none, []⟩] [0, 1, 2]
def m_impl_JoinTail_2 : Unit → MCode := fun _ => .region [] [⟨(some 10), .mv (.tmp 0), none, []⟩,
    ⟨(some 11), .call 93 [(.tmp 10)], none, []⟩,
    ⟨(some 12), .not (.tmp 11), none, []⟩,
    ⟨(some 13), .mv (.tmp 12), none, []⟩,
    ⟨(some 14), .mv (.tmp 1), (some (13, false)), []⟩,
    ⟨(some 15), .mv (.tmp 2), (some (13, false)), []⟩,
    ⟨(some 16), .call 85 [(.tmp 14), (.tmp 15)], (some (13, false)), []⟩,
    ⟨(some 17), .not (.tmp 16), (some (13, false)), []⟩,
    ⟨(some 18), .pick (.tmp 13) (.const (.bool true)) (.tmp 17), none, []⟩,
    ⟨(some 19), .mv (.tmp 18), none, []⟩,
    ⟨(some 20), .mv (.tmp 1), (some (19, false)), []⟩,
    ⟨(some 21), .mv (.tmp 0), (some (19, false)), []⟩,
    ⟨(some 22), .len false (.tmp 21), (some (19, false)), []⟩,
    ⟨(some 23), .bin .gtr (.tmp 20) (.tmp 22), (some (19, false)), []⟩,
    ⟨(some 24), .pick (.tmp 19) (.const (.bool true)) (.tmp 23), none, []⟩] [0, 1, 2, 24]
def m_impl_JoinTail_3 : Unit → MCode := fun _ => .region [] [⟨(some 6), .mv (.const (.slice none 0 0)), none, []⟩,
    ⟨(some 7), .mv (.const (.bool false)), none, []⟩] [6, 7]
def m_impl_JoinTail_4 : Unit → MCode := fun _ => .seq m_impl_JoinTail_3 (fun _ => .ret)
def m_impl_JoinTail_5 : Unit → MCode := fun _ => .cond (.tmp 24) m_impl_JoinTail_4 (fun _ => .skip)
def m_impl_JoinTail_6 : Unit → MCode := fun _ => .seq m_impl_JoinTail_2 m_impl_JoinTail_5
def m_impl_JoinTail_7 : Unit → MCode := fun _ => .region [] [⟨(some 25), .mv (.tmp 2), none, []⟩,
    ⟨(some 26), .len false (.tmp 25), none, []⟩,
    ⟨(some 27), .mv (.tmp 0), none, []⟩,
    ⟨(some 28), .len false (.tmp 27), none, []⟩,
    ⟨(some 29), .mv (.tmp 1), none, []⟩,
    ⟨(some 30), .bin .sub (.tmp 28) (.tmp 29), none, []⟩,
    ⟨(some 31), .mx false (.tmp 26) (.tmp 30), none, []⟩,
    ⟨(some 8), .mv (.tmp 31), none, []⟩] [0, 1, 2, 8]
def m_impl_JoinTail_8 : Unit → MCode := fun _ => .region [] [⟨(some 32), .mv (.tmp 0), none, []⟩,
    ⟨(some 33), .mv (.tmp 2), none, []⟩,
    ⟨(some 34), .mv (.tmp 8), none, []⟩,
    ⟨(some 35), .slc false (.tmp 33) (some (.tmp 34)) none none 7, none, []⟩,
    ⟨(some 36), .bsl 1 2 [.slice none 0 0] [(0, (.tmp 32)), (1, (.tmp 35))], none, []⟩,
    ⟨(some 37), .call 101 [(.tmp 36)], none, []⟩,
    ⟨(some 9), .mv (.tmp 37), none, []⟩] [0, 1, 2, 8, 9]
def m_impl_JoinTail_9 : Unit → MCode := fun _ => .region [] [⟨(some 38), .mv (.tmp 0), none, []⟩,
    ⟨(some 39), .mv (.tmp 1), none, []⟩,
    ⟨(some 40), .mv (.tmp 1), none, []⟩,
    ⟨(some 41), .mv (.tmp 8), none, []⟩,
    ⟨(some 42), .bin .add (.tmp 40) (.tmp 41), none, []⟩,
    ⟨(some 43), .slc false (.tmp 38) (some (.tmp 39)) (some (.tmp 42)) none 7, none, []⟩,
    ⟨(some 44), .mv (.tmp 2), none, []⟩,
    ⟨(some 45), .mv (.tmp 8), none, []⟩,
    ⟨(some 46), .slc false (.tmp 44) none (some (.tmp 45)) none 7, none, [0, 1, 2, 3, 4, 5]⟩,
    ⟨(some 47), .call 102 [(.tmp 43), (.tmp 46)], none, []⟩,
    ⟨(some 48), .not (.tmp 47), none, []⟩,
    ⟨(some 49), .mv (.tmp 48), none, []⟩,
    ⟨(some 50), .mv (.tmp 9), (some (49, false)), []⟩,
    ⟨(some 51), .call 93 [(.tmp 50)], (some (49, false)), []⟩,
    ⟨(some 52), .not (.tmp 51), (some (49, false)), []⟩,
    ⟨(some 53), .pick (.tmp 49) (.const (.bool true)) (.tmp 52), none, []⟩] [9, 53]
def m_impl_JoinTail_10 : Unit → MCode := fun _ => .region [] [⟨(some 6), .mv (.const (.slice none 0 0)), none, []⟩,
    ⟨(some 7), .mv (.const (.bool false)), none, []⟩] [6, 7]
def m_impl_JoinTail_11 : Unit → MCode := fun _ => .seq m_impl_JoinTail_10 (fun _ => .ret)
def m_impl_JoinTail_12 : Unit → MCode := fun _ => .cond (.tmp 53) m_impl_JoinTail_11 (fun _ => .skip)
def m_impl_JoinTail_13 : Unit → MCode := fun _ => .seq m_impl_JoinTail_9 m_impl_JoinTail_12
def m_impl_JoinTail_14 : Unit → MCode := fun _ => .region [] [⟨(some 54), .mv (.tmp 9), none, []⟩,
    ⟨(some 6), .mv (.tmp 54), none, []⟩,
    ⟨(some 7), .mv (.const (.bool true)), none, []⟩] [6, 7]
def m_impl_JoinTail_15 : Unit → MCode := fun _ => .seq m_impl_JoinTail_14 (fun _ => .ret)
def m_impl_JoinTail_16 : Unit → MCode := fun _ => .seq m_impl_JoinTail_13 m_impl_JoinTail_15
def m_impl_JoinTail_17 : Unit → MCode := fun _ => .seq m_impl_JoinTail_8 m_impl_JoinTail_16
def m_impl_JoinTail_18 : Unit → MCode := fun _ => .seq m_impl_JoinTail_7 m_impl_JoinTail_17
def m_impl_JoinTail_19 : Unit → MCode := fun _ => .seq m_impl_JoinTail_6 m_impl_JoinTail_18
def m_impl_JoinTail_20 : Unit → MCode := fun _ => .seq m_impl_JoinTail_1 m_impl_JoinTail_19
def m_impl_JoinTail : MCode := m_impl_JoinTail_20 ()
def h_impl_JoinTail : Hints := [(0, [0, 1, 2], [], [], []), (1, [0, 1, 2, 24], [], [], []), (2, [6, 7], [], [], []), (3, [0, 1, 2, 8], [], [], []), (4, [0, 1, 2, 8, 9], [], [], []), (5, [9, 53], [[], [], [], [], [], [], [], [], [0, 1, 2, 3, 4, 5]], [], []), (6, [6, 7], [], [], []), (7, [6, 7], [], [], [])]
def r_impl_JoinTail : List RV := [.t 6, .t 7]
abbrev n_impl_JoinTail : Nat := 62
theorem k_impl_JoinTail : Known Pr mu n_impl_JoinTail m_impl_JoinTail r_impl_JoinTail Go.Proofs.Try.f62.ntmps := .of h_impl_JoinTail hm Go.Proofs.Try.func62 (by kernel_rfl) (by kernel_rfl) (by kernel_rfl) (by kernel_rfl)
def m_spec_l1In_1 : Unit → MCode := fun _ => .region [] [⟨(some 6), .mv (.const (.bool false)), none, []⟩] [0, 1, 2]
def m_spec_l1In_2 : Unit → MCode := fun _ => .region [] [⟨(some 7), .mv (.tmp 0), none, []⟩,
    ⟨(some 8), .mv (.tmp 1), none, []⟩,
    ⟨(some 9), .bin .geq (.tmp 7) (.tmp 8), none, []⟩,
    ⟨(some 10), .mv (.tmp 9), none, []⟩,
    ⟨(some 11), .mv (.tmp 0), (some (10, true)), []⟩,
    ⟨(some 12), .mv (.tmp 2), (some (10, true)), []⟩,
    ⟨(some 13), .bin .leq (.tmp 11) (.tmp 12), (some (10, true)), []⟩,
    ⟨(some 14), .pick (.tmp 10) (.tmp 13) (.const (.bool false)), none, []⟩,
    ⟨(some 6), .mv (.tmp 14), none, []⟩] [6]
def m_spec_l1In_3 : Unit → MCode := fun _ => .seq m_spec_l1In_2 (fun _ => .ret)
def m_spec_l1In_4 : Unit → MCode := fun _ => .seq m_spec_l1In_1 m_spec_l1In_3
def m_spec_l1In : MCode := m_spec_l1In_4 ()
def h_spec_l1In : Hints := [(0, [0, 1, 2], [], [], []), (1, [6], [], [], [])]
def r_spec_l1In : List RV := [.t 6]
abbrev n_spec_l1In : Nat := 68
theorem k_spec_l1In : Known Pr mu n_spec_l1In m_spec_l1In r_spec_l1In Go.Proofs.Try.f68.ntmps := .of h_spec_l1In hm Go.Proofs.Try.func68 (by kernel_rfl) (by kernel_rfl) (by kernel_rfl) (by kernel_rfl)
def m_impl_within_1 : Unit → MCode := fun _ => .region [] [⟨(some 6), .mv (.const (.bool false)), none, []⟩] [0, 1, 2]
def m_impl_within_2 : Unit → MCode := fun _ => .region [] [⟨(some 7), .mv (.tmp 1), none, []⟩,
    ⟨(some 8), .mv (.tmp 0), none, []⟩,
    ⟨(some 9), .bin .leq (.tmp 7) (.tmp 8), none, []⟩,
    ⟨(some 10), .mv (.tmp 9), none, []⟩,
    ⟨(some 11), .mv (.tmp 0), (some (10, true)), []⟩,
    ⟨(some 12), .mv (.tmp 2), (some (10, true)), []⟩,
    ⟨(some 13), .bin .leq (.tmp 11) (.tmp 12), (some (10, true)), []⟩,
    ⟨(some 14), .pick (.tmp 10) (.tmp 13) (.const (.bool false)), none, []⟩,
    ⟨(some 6), .mv (.tmp 14), none, []⟩] [6]
def m_impl_within_3 : Unit → MCode := fun _ => .seq m_impl_within_2 (fun _ => .ret)
def m_impl_within_4 : Unit → MCode := fun _ => .seq m_impl_within_1 m_impl_within_3
def m_impl_within : MCode := m_impl_within_4 ()
def h_impl_within : Hints := [(0, [0, 1, 2], [], [], []), (1, [6], [], [], [])]
def r_impl_within : List RV := [.t 6]
abbrev n_impl_within : Nat := 71
theorem k_impl_within : Known Pr mu n_impl_within m_impl_within r_impl_within Go.Proofs.Try.f71.ntmps := .of h_impl_within hm Go.Proofs.Try.func71 (by kernel_rfl) (by kernel_rfl) (by kernel_rfl) (by kernel_rfl)
def m_spec_l15Good_1 : Unit → MCode := fun _ => .region [] [⟨(some 4), .mv (.const (.bool false)), none, []⟩] [0, 1]
def m_spec_l15Good_2 : Unit → MCode := fun _ => .region [] [⟨(some 5), .mv (.tmp 1), none, []⟩,
    ⟨(some 6), .call 91 [(.tmp 5)], none, []⟩,
    ⟨(some 7), .mv (.tmp 6), none, []⟩,
    ⟨(some 8), .mv (.tmp 1), (some (7, true)), []⟩,
    ⟨(some 9), .len false (.tmp 8), (some (7, true)), []⟩,
    ⟨(some 10), .bin .leq (.tmp 9) (.const (.int .i64 3)), (some (7, true)), []⟩,
    ⟨(some 11), .pick (.tmp 7) (.tmp 10) (.const (.bool false)), none, []⟩,
    ⟨(some 12), .mv (.tmp 11), none, []⟩,
    ⟨(some 13), .mv (.tmp 0), (some (12, true)), []⟩,
    ⟨(some 14), .mv (.tmp 1), (some (12, true)), []⟩,
    ⟨(some 15), .len false (.tmp 14), (some (12, true)), []⟩,
    ⟨(some 16), .bin .sub (.const (.int .i64 16)) (.tmp 15), (some (12, true)), []⟩,
    ⟨(some 17), .call 68 [(.tmp 13), (.const (.int .i64 0)), (.tmp 16)], (some (12, true)), []⟩,
    ⟨(some 18), .pick (.tmp 12) (.tmp 17) (.const (.bool false)), none, []⟩,
    ⟨(some 19), .mv (.tmp 18), none, []⟩,
    ⟨(some 20), .mv (.tmp 0), (some (19, true)), []⟩,
    ⟨(some 21), .bin .eql (.tmp 20) (.const (.int .i64 0)), (some (19, true)), []⟩,
    ⟨(some 22), .mv (.tmp 21), (some (19, true)), []⟩,
    ⟨(some 23), .mv (.tmp 1), (some (22, false)), []⟩,
    ⟨(some 24), .len false (.tmp 23), (some (22, false)), []⟩,
    ⟨(some 25), .bin .eql (.tmp 24) (.const (.int .i64 3)), (some (22, false)), []⟩,
    ⟨(some 26), .pick (.tmp 22) (.const (.bool true)) (.tmp 25), (some (19, true)), []⟩,
    ⟨(some 27), .pick (.tmp 19) (.tmp 26) (.const (.bool false)), none, []⟩,
    ⟨(some 4), .mv (.tmp 27), none, []⟩] [4]
def m_spec_l15Good_3 : Unit → MCode := fun _ => .seq m_spec_l15Good_2 (fun _ => .ret)
def m_spec_l15Good_4 : Unit → MCode := fun _ => .seq m_spec_l15Good_1 m_spec_l15Good_3
def m_spec_l15Good : MCode := m_spec_l15Good_4 ()
def h_spec_l15Good : Hints := [(0, [0, 1], [], [], []), (1, [4], [], [], [])]
def r_spec_l15Good : List RV := [.t 4]
abbrev n_spec_l15Good : Nat := 84
theorem k_spec_l15Good : Known Pr mu n_spec_l15Good m_spec_l15Good r_spec_l15Good Go.Proofs.Try.f84.ntmps := .of h_spec_l15Good hm Go.Proofs.Try.func84 (by kernel_rfl) (by kernel_rfl) (by kernel_rfl) (by kernel_rfl)
def m_impl_isTail_1 : Unit → MCode := fun _ => .region [] [⟨(some 4), .mv (.const (.bool false)), none, []⟩] [0, 1]
def m_impl_isTail_2 : Unit → MCode := fun _ => .region [] [⟨(some 5), .mv (.tmp 1), none, []⟩,
    ⟨(some 6), .call 93 [(.tmp 5)], none, []⟩,
    ⟨(some 7), .mv (.tmp 6), none, []⟩,
    ⟨(some 8), .mv (.tmp 1), (some (7, true)), []⟩,
    ⟨(some 9), .len false (.tmp 8), (some (7, true)), []⟩,
    ⟨(some 10), .bin .leq (.tmp 9) (.const (.int .i64 3)), (some (7, true)), []⟩,
    ⟨(some 11), .pick (.tmp 7) (.tmp 10) (.const (.bool false)), none, []⟩,
    ⟨(some 12), .mv (.tmp 11), none, []⟩,
    ⟨(some 13), .mv (.tmp 0), (some (12, true)), []⟩,
    ⟨(some 14), .mv (.tmp 1), (some (12, true)), []⟩,
    ⟨(some 15), .len false (.tmp 14), (some (12, true)), []⟩,
    ⟨(some 16), .bin .sub (.const (.int .i64 16)) (.tmp 15), (some (12, true)), []⟩,
    ⟨(some 17), .call 71 [(.tmp 13), (.const (.int .i64 0)), (.tmp 16)], (some (12, true)), []⟩,
    ⟨(some 18), .pick (.tmp 12) (.tmp 17) (.const (.bool false)), none, []⟩,
    ⟨(some 19), .mv (.tmp 18), none, []⟩,
    ⟨(some 20), .mv (.tmp 0), (some (19, true)), []⟩,
    ⟨(some 21), .bin .eql (.tmp 20) (.const (.int .i64 0)), (some (19, true)), []⟩,
    ⟨(some 22), .mv (.tmp 21), (some (19, true)), []⟩,
    ⟨(some 23), .mv (.tmp 1), (some (22, false)), []⟩,
    ⟨(some 24), .len false (.tmp 23), (some (22, false)), []⟩,
    ⟨(some 25), .bin .eql (.tmp 24) (.const (.int .i64 3)), (some (22, false)), []⟩,
    ⟨(some 26), .pick (.tmp 22) (.const (.bool true)) (.tmp 25), (some (19, true)), []⟩,
    ⟨(some 27), .pick (.tmp 19) (.tmp 26) (.const (.bool false)), none, []⟩,
    ⟨(some 4), .mv (.tmp 27), none, []⟩] [4]
def m_impl_isTail_3 : Unit → MCode := fun _ => .seq m_impl_isTail_2 (fun _ => .ret)
def m_impl_isTail_4 : Unit → MCode := fun _ => .seq m_impl_isTail_1 m_impl_isTail_3
def m_impl_isTail : MCode := m_impl_isTail_4 ()
def h_impl_isTail : Hints := [(0, [0, 1], [], [], []), (1, [4], [], [], [])]
def r_impl_isTail : List RV := [.t 4]
abbrev n_impl_isTail : Nat := 85
theorem k_impl_isTail : Known Pr mu n_impl_isTail m_impl_isTail r_impl_isTail Go.Proofs.Try.f85.ntmps := .of h_impl_isTail hm Go.Proofs.Try.func85 (by kernel_rfl) (by kernel_rfl) (by kernel_rfl) (by kernel_rfl)
def m_laws_eqEntry_1 : Unit → MCode := fun _ => .region [] [⟨(some 2), .box (.tmp 0), none, []⟩,
    ⟨(some 3), .box (.tmp 1), none, []⟩,
    ⟨(some 4), .mv (.const (.bool false)), none, []⟩] [2, 3]
def m_laws_eqEntry_2 : Unit → MCode := fun _ => .region [] [⟨(some 5), .fa (.tmp 2) 0, none, []⟩,
    ⟨(some 6), .ld (.tmp 5) 1 false, none, []⟩,
    ⟨(some 7), .fa (.tmp 3) 0, none, []⟩,
    ⟨(some 8), .ld (.tmp 7) 1 false, none, []⟩,
    ⟨(some 9), .bin .neq (.tmp 6) (.tmp 8), none, []⟩] [2, 3, 9]
def m_laws_eqEntry_3 : Unit → MCode := fun _ => .region [] [⟨(some 4), .mv (.const (.bool false)), none, []⟩] [4]
def m_laws_eqEntry_4 : Unit → MCode := fun _ => .seq m_laws_eqEntry_3 (fun _ => .ret)
def m_laws_eqEntry_5 : Unit → MCode := fun _ => .cond (.tmp 9) m_laws_eqEntry_4 (fun _ => .skip)
def m_laws_eqEntry_6 : Unit → MCode := fun _ => .seq m_laws_eqEntry_2 m_laws_eqEntry_5
def m_laws_eqEntry_7 : Unit → MCode := fun _ => .region [] [⟨(some 10), .fa (.tmp 2) 1, none, []⟩,
    ⟨(some 11), .ld (.tmp 10) 6 true, none, []⟩,
    ⟨(some 12), .fa (.tmp 3) 1, none, []⟩,
    ⟨(some 13), .ld (.tmp 12) 6 true, none, []⟩,
    ⟨(some 14), .call 109 [(.tmp 11), (.tmp 13)], none, []⟩,
    ⟨(some 15), .not (.tmp 14), none, []⟩] [15]
def m_laws_eqEntry_8 : Unit → MCode := fun _ => .region [] [⟨(some 4), .mv (.const (.bool false)), none, []⟩] [4]
def m_laws_eqEntry_9 : Unit → MCode := fun _ => .seq m_laws_eqEntry_8 (fun _ => .ret)
def m_laws_eqEntry_10 : Unit → MCode := fun _ => .cond (.tmp 15) m_laws_eqEntry_9 (fun _ => .skip)
def m_laws_eqEntry_11 : Unit → MCode := fun _ => .seq m_laws_eqEntry_7 m_laws_eqEntry_10
def m_laws_eqEntry_12 : Unit → MCode := fun _ => .region [] [⟨(some 4), .mv (.const (.bool true)), none, []⟩] [4]
def m_laws_eqEntry_13 : Unit → MCode := fun _ => .seq m_laws_eqEntry_12 (fun _ => .ret)
def m_laws_eqEntry_14 : Unit → MCode := fun _ => .seq m_laws_eqEntry_11 m_laws_eqEntry_13
def m_laws_eqEntry_15 : Unit → MCode := fun _ => .seq m_laws_eqEntry_6 m_laws_eqEntry_14
def m_laws_eqEntry_16 : Unit → MCode := fun _ => .seq m_laws_eqEntry_1 m_laws_eqEntry_15
def m_laws_eqEntry : MCode := m_laws_eqEntry_16 ()
def h_laws_eqEntry : Hints := [(0, [2, 3], [], [], []), (1, [2, 3, 9], [], [], []), (2, [4], [], [], []), (3, [15], [], [], []), (4, [4], [], [], []), (5, [4], [], [], [])]
def r_laws_eqEntry : List RV := [.t 4]
abbrev n_laws_eqEntry : Nat := 86
theorem k_laws_eqEntry : Known Pr mu n_laws_eqEntry m_laws_eqEntry r_laws_eqEntry Go.Proofs.Try.f86.ntmps := .of h_laws_eqEntry hm Go.Proofs.Try.func86 (by kernel_rfl) (by kernel_rfl) (by kernel_rfl) (by kernel_rfl)
def m_spec_IsLog_1 : Unit → MCode := fun _ => .region [] [⟨(some 2), .mv (.const (.bool false)), none, []⟩] [0]
def m_spec_IsLog_2 : Unit → MCode := fun _ => .region [] [⟨(some 3), .mv (.const (.int .i64 0)), none, []⟩] [0, 3]
def m_spec_IsLog_3 : Unit → MCode := fun _ => .region [] [⟨(some 4), .mv (.tmp 3), none, []⟩,
    ⟨(some 5), .mv (.tmp 0), none, []⟩,
    ⟨(some 6), .len false (.tmp 5), none, []⟩,
    ⟨(some 7), .bin .lss (.tmp 4) (.tmp 6), none, []⟩] [0, 3, 7]
def m_spec_IsLog_4 : Unit → MCode := fun _ => .cond (.tmp 7) (fun _ => .skip) (fun _ => .exit 0)
def m_spec_IsLog_5 : Unit → MCode := fun _ => .seq m_spec_IsLog_3 m_spec_IsLog_4
def m_spec_IsLog_6 : Unit → MCode := fun _ => .region [] [⟨(some 10), .mv (.tmp 0), none, []⟩,
    ⟨(some 11), .mv (.tmp 3), none, []⟩,
    ⟨(some 12), .ia (.tmp 10) (.tmp 11) 7, none, []⟩,
    ⟨(some 13), .fa (.tmp 12) 0, none, []⟩,
    ⟨(some 14), .ld (.tmp 13) 1 false, none, []⟩,
    ⟨(some 15), .call 68 [(.tmp 14), (.const (.int .i64 1)), (.const (.int .i64 20))], none, []⟩,
    ⟨(some 16), .not (.tmp 15), none, []⟩,
    ⟨(some 17), .mv (.tmp 16), none, []⟩,
    ⟨(some 18), .mv (.tmp 0), (some (17, false)), []⟩,
    ⟨(some 19), .mv (.tmp 3), (some (17, false)), []⟩,
    ⟨(some 20), .ia (.tmp 18) (.tmp 19) 7, (some (17, false)), []⟩,
    ⟨(some 21), .fa (.tmp 20) 1, (some (17, false)), []⟩,
    ⟨(some 22), .ld (.tmp 21) 6 true, (some (17, false)), []⟩,
    ⟨(some 23), .call 110 [(.tmp 22)], (some (17, false)), []⟩,
    ⟨(some 24), .not (.tmp 23), (some (17, false)), []⟩,
    ⟨(some 25), .pick (.tmp 17) (.const (.bool true)) (.tmp 24), none, []⟩,
    ⟨(some 26), .mv (.tmp 25), none, []⟩,
    ⟨(some 27), .mv (.tmp 3), (some (26, false)), []⟩,
    ⟨(some 28), .bin .gtr (.tmp 27) (.const (.int .i64 0)), (some (26, false)), []⟩,
    ⟨(some 29), .mv (.tmp 28), (some (26, false)), []⟩,
    ⟨(some 30), .mv (.tmp 0), (some (29, true)), []⟩,
    ⟨(some 31), .mv (.tmp 3), (some (29, true)), []⟩,
    ⟨(some 32), .bin .sub (.tmp 31) (.const (.int .i64 1)), (some (29, true)), []⟩,
    ⟨(some 33), .ia (.tmp 30) (.tmp 32) 7, (some (29, true)), []⟩,
    ⟨(some 34), .fa (.tmp 33) 0, (some (29, true)), []⟩,
    ⟨(some 35), .ld (.tmp 34) 1 false, (some (29, true)), []⟩,
    ⟨(some 36), .mv (.tmp 0), (some (29, true)), []⟩,
    ⟨(some 37), .mv (.tmp 3), (some (29, true)), []⟩,
    ⟨(some 38), .ia (.tmp 36) (.tmp 37) 7, (some (29, true)), [20, 21, 22, 23, 24, 25]⟩,
    ⟨(some 39), .fa (.tmp 38) 0, (some (29, true)), [20, 21, 22, 23, 24, 25]⟩,
    ⟨(some 40), .ld (.tmp 39) 1 false, (some (29, true)), [20, 21, 22, 23, 24, 25]⟩,
    ⟨(some 41), .bin .gtr (.tmp 35) (.tmp 40), (some (29, true)), []⟩,
    ⟨(some 42), .pick (.tmp 29) (.tmp 41) (.const (.bool false)), (some (26, false)), []⟩,
    ⟨(some 43), .pick (.tmp 26) (.const (.bool true)) (.tmp 42), none, []⟩] [0, 3, 43]
def m_spec_IsLog_7 : Unit → MCode := fun _ => .region [] [⟨(some 2), .mv (.const (.bool false)), none, []⟩] [2]
def m_spec_IsLog_8 : Unit → MCode := fun _ => .seq m_spec_IsLog_7 (fun _ => .ret)
def m_spec_IsLog_9 : Unit → MCode := fun _ => .cond (.tmp 43) m_spec_IsLog_8 (fun _ => .skip)
def m_spec_IsLog_10 : Unit → MCode := fun _ => .seq m_spec_IsLog_6 m_spec_IsLog_9
def m_spec_IsLog_11 : Unit → MCode := fun _ => .block 1 m_spec_IsLog_10
def m_spec_IsLog_12 : Unit → MCode := fun _ => .region [] [⟨(some 8), .mv (.tmp 3), none, []⟩,
    ⟨(some 9), .bin .add (.tmp 8) (.const (.int .i64 1)), none, []⟩,
    ⟨(some 3), .mv (.tmp 9), none, []⟩] [0, 3]
def m_spec_IsLog_13 : Unit → MCode := fun _ => .seq m_spec_IsLog_11 m_spec_IsLog_12
def m_spec_IsLog_14 : Unit → MCode := fun _ => .seq m_spec_IsLog_5 m_spec_IsLog_13
def m_spec_IsLog_15 : Unit → MCode := fun _ => .loop m_spec_IsLog_14
def m_spec_IsLog_16 : Unit → MCode := fun _ => .block 0 m_spec_IsLog_15
def m_spec_IsLog_17 : Unit → MCode := fun _ => .seq m_spec_IsLog_2 m_spec_IsLog_16
def m_spec_IsLog_18 : Unit → MCode := fun _ => .region [] [⟨(some 44), .mv (.tmp 0), none, []⟩,
    ⟨(some 45), .len false (.tmp 44), none, []⟩,
    ⟨(some 46), .bin .leq (.tmp 45) (.const (.int .i64 16)), none, []⟩,
    ⟨(some 2), .mv (.tmp 46), none, []⟩] [2]
def m_spec_IsLog_19 : Unit → MCode := fun _ => .seq m_spec_IsLog_18 (fun _ => .ret)
def m_spec_IsLog_20 : Unit → MCode := fun _ => .seq m_spec_IsLog_17 m_spec_IsLog_19
def m_spec_IsLog_21 : Unit → MCode := fun _ => .seq m_spec_IsLog_1 m_spec_IsLog_20
def m_spec_IsLog : MCode := m_spec_IsLog_21 ()
def h_spec_IsLog : Hints := [(0, [0], [], [], []), (1, [0, 3], [], [], []), (2, [0, 3, 7], [], [], []), (4, [0, 3, 43], [[], [], [], [], [], [], [], [], [], [], [], [], [], [], [], [], [], [], [], [], [], [], [], [], [], [], [], [], [20, 21, 22, 23, 24, 25], [20, 21, 22, 23, 24, 25], [20, 21, 22, 23, 24, 25]], [], []), (5, [2], [], [], []), (3, [0, 3], [], [], []), (6, [2], [], [], [])]
def r_spec_IsLog : List RV := [.t 2]
abbrev n_spec_IsLog : Nat := 91
theorem k_spec_IsLog : Known Pr mu n_spec_IsLog m_spec_IsLog r_spec_IsLog Go.Proofs.Try.f91.ntmps := .of h_spec_IsLog hm Go.Proofs.Try.func91 (by kernel_rfl) (by kernel_rfl) (by kernel_rfl) (by kernel_rfl)
def m_spec_l5Copy_1 : Unit → MCode := fun _ => .region [] [⟨(some 2), .mv (.const (.slice none 0 0)), none, []⟩] [0]
def m_spec_l5Copy_2 : Unit → MCode := fun _ => .region [] [⟨(some 3), .bsl 7 0 [.int .i64 0, .int .i64 0, .int .i64 0, .int .i64 0, .int .i64 0, .int .i64 0, .int .i64 0] [], none, []⟩,
    ⟨(some 4), .mv (.tmp 0), none, []⟩,
    ⟨(some 5), .app (.tmp 3) (.tmp 4) 7 56, none, []⟩,
    ⟨(some 2), .mv (.tmp 5), none, []⟩] [2]
def m_spec_l5Copy_3 : Unit → MCode := fun _ => .seq m_spec_l5Copy_2 (fun _ => .ret)
def m_spec_l5Copy_4 : Unit → MCode := fun _ => .seq m_spec_l5Copy_1 m_spec_l5Copy_3
def m_spec_l5Copy : MCode := m_spec_l5Copy_4 ()
def h_spec_l5Copy : Hints := [(0, [0], [], [], []), (1, [2], [], [], [])]
def r_spec_l5Copy : List RV := [.t 2]
abbrev n_spec_l5Copy : Nat := 92
theorem k_spec_l5Copy : Known Pr mu n_spec_l5Copy m_spec_l5Copy r_spec_l5Copy Go.Proofs.Try.f92.ntmps := .of h_spec_l5Copy hm Go.Proofs.Try.func92 (by kernel_rfl) (by kernel_rfl) (by kernel_rfl) (by kernel_rfl)
def m_impl_IsLog_1 : Unit → MCode := fun _ => .region [] [⟨(some 2), .mv (.const (.bool false)), none, []⟩] [0]
def m_impl_IsLog_2 : Unit → MCode := fun _ => .region [] [⟨(some 5), .mv (.tmp 0), none, []⟩,
    ⟨(some 6), .len false (.tmp 5), none, []⟩,
    ⟨(some 7), .mv (.const (.int .i64 0)), none, []⟩] [0, 5, 6, 7]
def m_impl_IsLog_3 : Unit → MCode := fun _ => .region [] [⟨(some 8), .bin .lss (.tmp 7) (.tmp 6), none, []⟩] [0, 5, 6, 7, 8]
def m_impl_IsLog_4 : Unit → MCode := fun _ => .cond (.tmp 8) (fun _ => .skip) (fun _ => .exit 0)
def m_impl_IsLog_5 : Unit → MCode := fun _ => .region [] [⟨(some 9), .mv (.tmp 7), none, []⟩,
    ⟨(some 10), .ia (.tmp 5) (.tmp 7) 7, none, []⟩,
    ⟨(some 11), .ld (.tmp 10) 7 true, none, []⟩,
    ⟨(some 4), .alloc [.int .i64 0, .int .i64 0, .int .i64 0, .int .i64 0, .int .i64 0, .int .i64 0, .int .i64 0], none, []⟩,
    ⟨(some 3), .mv (.tmp 9), none, []⟩,
    ⟨none, .sto (.tmp 4) (.tmp 11) 7, none, []⟩] [0, 3, 4, 5, 6, 7]
def m_impl_IsLog_6 : Unit → MCode := fun _ => .region [] [⟨(some 12), .fa (.tmp 4) 0, none, []⟩,
    ⟨(some 13), .ld (.tmp 12) 1 false, none, []⟩,
    ⟨(some 14), .call 71 [(.tmp 13), (.const (.int .i64 1)), (.const (.int .i64 20))], none, []⟩,
    ⟨(some 15), .not (.tmp 14), none, []⟩,
    ⟨(some 16), .mv (.tmp 15), none, []⟩,
    ⟨(some 17), .mv (.tmp 3), (some (16, false)), []⟩,
    ⟨(some 18), .bin .gtr (.tmp 17) (.const (.int .i64 0)), (some (16, false)), []⟩,
    ⟨(some 19), .mv (.tmp 18), (some (16, false)), []⟩,
    ⟨(some 20), .fa (.tmp 4) 0, (some (19, true)), []⟩,
    ⟨(some 21), .ld (.tmp 20) 1 false, (some (19, true)), []⟩,
    ⟨(some 22), .mv (.tmp 0), (some (19, true)), []⟩,
    ⟨(some 23), .mv (.tmp 3), (some (19, true)), []⟩,
    ⟨(some 24), .bin .sub (.tmp 23) (.const (.int .i64 1)), (some (19, true)), []⟩,
    ⟨(some 25), .ia (.tmp 22) (.tmp 24) 7, (some (19, true)), [8, 9]⟩,
    ⟨(some 26), .fa (.tmp 25) 0, (some (19, true)), [8, 9]⟩,
    ⟨(some 27), .ld (.tmp 26) 1 false, (some (19, true)), [8, 9]⟩,
    ⟨(some 28), .bin .lss (.tmp 21) (.tmp 27), (some (19, true)), []⟩,
    ⟨(some 29), .pick (.tmp 19) (.tmp 28) (.const (.bool false)), (some (16, false)), []⟩,
    ⟨(some 30), .pick (.tmp 16) (.const (.bool true)) (.tmp 29), none, []⟩,
    ⟨(some 31), .mv (.tmp 30), none, []⟩,
    ⟨(some 32), .fa (.tmp 4) 1, (some (31, false)), []⟩,
    ⟨(some 33), .ld (.tmp 32) 6 true, (some (31, false)), []⟩,
    ⟨(some 34), .call 111 [(.tmp 33)], (some (31, false)), []⟩,
    ⟨(some 35), .not (.tmp 34), (some (31, false)), []⟩,
    ⟨(some 36), .pick (.tmp 31) (.const (.bool true)) (.tmp 35), none, []⟩] [0, 5, 6, 7, 36]
def m_impl_IsLog_7 : Unit → MCode := fun _ => .region [] [⟨(some 2), .mv (.const (.bool false)), none, []⟩] [2]
def m_impl_IsLog_8 : Unit → MCode := fun _ => .seq m_impl_IsLog_7 (fun _ => .ret)
def m_impl_IsLog_9 : Unit → MCode := fun _ => .cond (.tmp 36) m_impl_IsLog_8 (fun _ => .skip)
def m_impl_IsLog_10 : Unit → MCode := fun _ => .seq m_impl_IsLog_6 m_impl_IsLog_9
def m_impl_IsLog_11 : Unit → MCode := fun _ => .seq m_impl_IsLog_5 m_impl_IsLog_10
def m_impl_IsLog_12 : Unit → MCode := fun _ => .block 1 m_impl_IsLog_11
def m_impl_IsLog_13 : Unit → MCode := fun _ => .region [] [⟨(some 37), .bin .add (.tmp 7) (.const (.int .i64 1)), none, []⟩,
    ⟨(some 7), .mv (.tmp 37), none, []⟩] [0, 5, 6, 7]
def m_impl_IsLog_14 : Unit → MCode := fun _ => .seq m_impl_IsLog_12 m_impl_IsLog_13
def m_impl_IsLog_15 : Unit → MCode := fun _ => .seq m_impl_IsLog_4 m_impl_IsLog_14
def m_impl_IsLog_16 : Unit → MCode := fun _ => .seq m_impl_IsLog_3 m_impl_IsLog_15
def m_impl_IsLog_17 : Unit → MCode := fun _ => .loop m_impl_IsLog_16
def m_impl_IsLog_18 : Unit → MCode := fun _ => .block 0 m_impl_IsLog_17
def m_impl_IsLog_19 : Unit → MCode := fun _ => .seq m_impl_IsLog_2 m_impl_IsLog_18
def m_impl_IsLog_20 : Unit → MCode := fun _ => .region [] [⟨(some 38), .mv (.tmp 0), none, []⟩,
    ⟨(some 39), .len false (.tmp 38), none, []⟩,
    ⟨(some 40), .bin .leq (.tmp 39) (.const (.int .i64 16)), none, []⟩,
    ⟨(some 2), .mv (.tmp 40), none, []⟩] [2]
def m_impl_IsLog_21 : Unit → MCode := fun _ => .seq m_impl_IsLog_20 (fun _ => .ret)
def m_impl_IsLog_22 : Unit → MCode := fun _ => .seq m_impl_IsLog_19 m_impl_IsLog_21
def m_impl_IsLog_23 : Unit → MCode := fun _ => .seq m_impl_IsLog_1 m_impl_IsLog_22
def m_impl_IsLog : MCode := m_impl_IsLog_23 ()
def h_impl_IsLog : Hints := [(0, [0], [], [], []), (1, [0, 5, 6, 7], [], [], []), (2, [0, 5, 6, 7, 8], [], [], []), (3, [0, 3, 4, 5, 6, 7], [], [], []), (4, [0, 5, 6, 7, 36], [[], [], [], [], [], [], [], [], [], [], [], [], [], [8, 9], [8, 9], [8, 9]], [], []), (5, [2], [], [], []), (6, [0, 5, 6, 7], [], [], []), (7, [2], [], [], [])]
def r_impl_IsLog : List RV := [.t 2]
abbrev n_impl_IsLog : Nat := 93
theorem k_impl_IsLog : Known Pr mu n_impl_IsLog m_impl_IsLog r_impl_IsLog Go.Proofs.Try.f93.ntmps := .of h_impl_IsLog hm Go.Proofs.Try.func93 (by kernel_rfl) (by kernel_rfl) (by kernel_rfl) (by kernel_rfl)
def m_laws_toOp_1 : Unit → MCode := fun _ => .region [] [⟨(some 1), .box (.tmp 0), none, []⟩,
    ⟨(some 2), .alloc [.int .i64 0, .int .i64 0, .int .i64 0, .int .i64 0, .int .i64 0, .int .i64 0], none, []⟩] [1, 2]
def m_laws_toOp_2 : Unit → MCode := fun _ => .region [] [⟨(some 3), .alloc [.int .i64 0, .int .i64 0, .int .i64 0, .int .i64 0, .int .i64 0, .int .i64 0], none, []⟩] [1, 2, 3]
def m_laws_toOp_3 : Unit → MCode := fun _ => .region [] [⟨(some 4), .fa (.tmp 1) 0, none, []⟩,
    ⟨(some 5), .ld (.tmp 4) 1 false, none, []⟩,
    ⟨(some 6), .fa (.tmp 3) 0, none, []⟩,
    ⟨none, .sto (.tmp 6) (.tmp 5) 1, none, []⟩] [1, 2, 3]
def m_laws_toOp_4 : Unit → MCode := fun _ => .region [] [⟨(some 7), .fa (.tmp 1) 1, none, []⟩,
    ⟨(some 8), .ld (.tmp 7) 1 false, none, []⟩,
    ⟨(some 9), .fa (.tmp 3) 1, none, []⟩,
    ⟨none, .sto (.tmp 9) (.tmp 8) 1, none, []⟩] [1, 2, 3]
def m_laws_toOp_5 : Unit → MCode := fun _ => .region [] [⟨(some 10), .fa (.tmp 1) 2, none, []⟩,
    ⟨(some 11), .ld (.tmp 10) 1 false, none, []⟩,
    ⟨(some 12), .fa (.tmp 3) 2, none, []⟩,
    ⟨none, .sto (.tmp 12) (.tmp 11) 1, none, []⟩] [1, 2, 3]
def m_laws_toOp_6 : Unit → MCode := fun _ => .region [] [⟨(some 13), .fa (.tmp 1) 3, none, []⟩,
    ⟨(some 14), .ld (.tmp 13) 1 false, none, []⟩,
    ⟨(some 15), .fa (.tmp 3) 3, none, []⟩,
    ⟨none, .sto (.tmp 15) (.tmp 14) 1, none, []⟩] [1, 2, 3]
def m_laws_toOp_7 : Unit → MCode := fun _ => .region [] [⟨(some 16), .fa (.tmp 1) 4, none, []⟩,
    ⟨(some 17), .ld (.tmp 16) 1 false, none, []⟩,
    ⟨(some 18), .fa (.tmp 3) 4, none, []⟩,
    ⟨none, .sto (.tmp 18) (.tmp 17) 1, none, []⟩] [1, 2, 3]
def m_laws_toOp_8 : Unit → MCode := fun _ => .region [] [⟨(some 19), .fa (.tmp 1) 5, none, []⟩,
    ⟨(some 20), .ld (.tmp 19) 1 false, none, []⟩,
    ⟨(some 21), .fa (.tmp 3) 5, none, []⟩,
    ⟨none, .sto (.tmp 21) (.tmp 20) 1, none, []⟩] [2, 3]
def m_laws_toOp_9 : Unit → MCode := fun _ => .region [] [⟨(some 22), .ld (.tmp 3) 6 true, none, []⟩,
    ⟨none, .sto (.tmp 2) (.tmp 22) 6, none, []⟩] [2]
def m_laws_toOp_10 : Unit → MCode := fun _ => .seq m_laws_toOp_9 (fun _ => .ret)
def m_laws_toOp_11 : Unit → MCode := fun _ => .seq m_laws_toOp_8 m_laws_toOp_10
def m_laws_toOp_12 : Unit → MCode := fun _ => .seq m_laws_toOp_7 m_laws_toOp_11
def m_laws_toOp_13 : Unit → MCode := fun _ => .seq m_laws_toOp_6 m_laws_toOp_12
def m_laws_toOp_14 : Unit → MCode := fun _ => .seq m_laws_toOp_5 m_laws_toOp_13
def m_laws_toOp_15 : Unit → MCode := fun _ => .seq m_laws_toOp_4 m_laws_toOp_14
def m_laws_toOp_16 : Unit → MCode := fun _ => .seq m_laws_toOp_3 m_laws_toOp_15
def m_laws_toOp_17 : Unit → MCode := fun _ => .seq m_laws_toOp_2 m_laws_toOp_16
def m_laws_toOp_18 : Unit → MCode := fun _ => .seq m_laws_toOp_1 m_laws_toOp_17
def m_laws_toOp : MCode := m_laws_toOp_18 ()
def h_laws_toOp : Hints := [(0, [1, 2], [], [], []), (1, [1, 2, 3], [], [], []), (2, [1, 2, 3], [], [], []), (3, [1, 2, 3], [], [], []), (4, [1, 2, 3], [], [], []), (5, [1, 2, 3], [], [], []), (6, [1, 2, 3], [], [], []), (7, [2, 3], [], [], []), (8, [2], [], [], [])]
def r_laws_toOp : List RV := [.c 2 6 true]
abbrev n_laws_toOp : Nat := 96
theorem k_laws_toOp : Known Pr mu n_laws_toOp m_laws_toOp r_laws_toOp Go.Proofs.Try.f96.ntmps := .of h_laws_toOp hm Go.Proofs.Try.func96 (by kernel_rfl) (by kernel_rfl) (by kernel_rfl) (by kernel_rfl)
def m_spec_CommonPrefix_1 : Unit → MCode := fun _ => .region [] [⟨(some 4), .mv (.const (.int .i64 0)), none, []⟩] [0, 1]
def m_spec_CommonPrefix_2 : Unit → MCode := fun _ => .region [] [⟨(some 5), .mv (.const (.int .i64 0)), none, []⟩] [0, 1, 5]
def m_spec_CommonPrefix_3 : Unit → MCode := fun _ => .region [] [⟨(some 6), .mv (.tmp 5), none, []⟩,
    ⟨(some 7), .mv (.tmp 0), none, []⟩,
    ⟨(some 8), .len false (.tmp 7), none, []⟩,
    ⟨(some 9), .bin .lss (.tmp 6) (.tmp 8), none, []⟩,
    ⟨(some 10), .mv (.tmp 9), none, []⟩,
    ⟨(some 11), .mv (.tmp 5), (some (10, true)), []⟩,
    ⟨(some 12), .mv (.tmp 1), (some (10, true)), []⟩,
    ⟨(some 13), .len false (.tmp 12), (some (10, true)), []⟩,
    ⟨(some 14), .bin .lss (.tmp 11) (.tmp 13), (some (10, true)), []⟩,
    ⟨(some 15), .pick (.tmp 10) (.tmp 14) (.const (.bool false)), none, []⟩,
    ⟨(some 16), .mv (.tmp 15), none, []⟩,
    ⟨(some 17), .mv (.tmp 0), (some (16, true)), []⟩,
    ⟨(some 18), .mv (.tmp 5), (some (16, true)), []⟩,
    ⟨(some 19), .ia (.tmp 17) (.tmp 18) 7, (some (16, true)), []⟩,
    ⟨(some 20), .ld (.tmp 19) 7 true, (some (16, true)), []⟩,
    ⟨(some 21), .mv (.tmp 1), (some (16, true)), []⟩,
    ⟨(some 22), .mv (.tmp 5), (some (16, true)), []⟩,
    ⟨(some 23), .ia (.tmp 21) (.tmp 22) 7, (some (16, true)), [11, 12, 13, 14]⟩,
    ⟨(some 24), .ld (.tmp 23) 7 true, (some (16, true)), [11, 12, 13, 14]⟩,
    ⟨(some 25), .aeq false [.i, .i, .i, .i, .i, .i, .i] (.tmp 20) (.tmp 24), (some (16, true)), []⟩,
    ⟨(some 26), .pick (.tmp 16) (.tmp 25) (.const (.bool false)), none, []⟩] [0, 1, 5, 26]
def m_spec_CommonPrefix_4 : Unit → MCode := fun _ => .cond (.tmp 26) (fun _ => .skip) (fun _ => .exit 0)
def m_spec_CommonPrefix_5 : Unit → MCode := fun _ => .seq m_spec_CommonPrefix_3 m_spec_CommonPrefix_4
def m_spec_CommonPrefix_6 : Unit → MCode := fun _ => .region [] [⟨(some 27), .mv (.tmp 5), none, []⟩,
    ⟨(some 28), .bin .add (.tmp 27) (.const (.int .i64 1)), none, []⟩,
    ⟨(some 5), .mv (.tmp 28), none, []⟩] [0, 1, 5]
def m_spec_CommonPrefix_7 : Unit → MCode := fun _ => .block 1 m_spec_CommonPrefix_6
def m_spec_CommonPrefix_8 : Unit → MCode := fun _ => .seq m_spec_CommonPrefix_5 m_spec_CommonPrefix_7
def m_spec_CommonPrefix_9 : Unit → MCode := fun _ => .loop m_spec_CommonPrefix_8
def m_spec_CommonPrefix_10 : Unit → MCode := fun _ => .block 0 m_spec_CommonPrefix_9
def m_spec_CommonPrefix_11 : Unit → MCode := fun _ => .region [] [⟨(some 29), .mv (.tmp 5), none, []⟩,
    ⟨(some 4), .mv (.tmp 29), none, []⟩] [4]
def m_spec_CommonPrefix_12 : Unit → MCode := fun _ => .seq m_spec_CommonPrefix_11 (fun _ => .ret)
def m_spec_CommonPrefix_13 : Unit → MCode := fun _ => .seq m_spec_CommonPrefix_10 m_spec_CommonPrefix_12
def m_spec_CommonPrefix_14 : Unit → MCode := fun _ => .seq m_spec_CommonPrefix_2 m_spec_CommonPrefix_13
def m_spec_CommonPrefix_15 : Unit → MCode := fun _ => .seq m_spec_CommonPrefix_1 m_spec_CommonPrefix_14
def m_spec_CommonPrefix : MCode := m_spec_CommonPrefix_15 ()
def h_spec_CommonPrefix : Hints := [(0, [0, 1], [], [], []), (1, [0, 1, 5], [], [], []), (2, [0, 1, 5, 26], [[], [], [], [], [], [], [], [], [], [], [], [], [], [], [], [], [], [11, 12, 13, 14], [11, 12, 13, 14]], [], []), (3, [0, 1, 5], [], [], []), (4, [4], [], [], [])]
def r_spec_CommonPrefix : List RV := [.t 4]
abbrev n_spec_CommonPrefix : Nat := 100
theorem k_spec_CommonPrefix : Known Pr mu n_spec_CommonPrefix m_spec_CommonPrefix r_spec_CommonPrefix Go.Proofs.Try.f100.ntmps := .of h_spec_CommonPrefix hm Go.Proofs.Try.func100 (by kernel_rfl) (by kernel_rfl) (by kernel_rfl) (by kernel_rfl)
def m_slices_Concat_implEntryimplEntry_1 : Unit → MCode := fun _ => .region [] [⟨(some 2), .mv (.const (.slice none 0 0)), none, []⟩] [0]
def m_slices_Concat_implEntryimplEntry_2 : Unit → MCode := fun _ => .region [] [⟨(some 3), .mv (.const (.int .i64 0)), none, []⟩] [0, 3]
def m_slices_Concat_implEntryimplEntry_3 : Unit → MCode := fun _ => .region [] [⟨(some 9), .mv (.tmp 0), none, []⟩,
    ⟨(some 10), .len false (.tmp 9), none, []⟩,
    ⟨(some 11), .mv (.const (.int .i64 0)), none, []⟩] [0, 3, 9, 10, 11]
def m_slices_Concat_implEntryimplEntry_4 : Unit → MCode := fun _ => .region [] [⟨(some 12), .bin .lss (.tmp 11) (.tmp 10), none, []⟩] [0, 3, 9, 10, 11, 12]
def m_slices_Concat_implEntryimplEntry_5 : Unit → MCode := fun _ => .cond (.tmp 12) (fun _ => .skip) (fun _ => .exit 0)
def m_slices_Concat_implEntryimplEntry_6 : Unit → MCode := fun _ => .region [] [⟨(some 13), .ia (.tmp 9) (.tmp 11) 1, none, []⟩,
    ⟨(some 14), .ld (.tmp 13) 1 false, none, []⟩,
    ⟨(some 5), .mv (.tmp 14), none, []⟩] [0, 3, 5, 9, 10, 11]
def m_slices_Concat_implEntryimplEntry_7 : Unit → MCode := fun _ => .region [] [⟨(some 15), .mv (.tmp 3), none, []⟩,
    ⟨(some 16), .mv (.tmp 5), none, []⟩,
    ⟨(some 17), .len false (.tmp 16), none, []⟩,
    ⟨(some 18), .bin .add (.tmp 15) (.tmp 17), none, []⟩,
    ⟨(some 3), .mv (.tmp 18), none, []⟩] [0, 3, 9, 10, 11]
def m_slices_Concat_implEntryimplEntry_8 : Unit → MCode := fun _ => .region [] [⟨(some 19), .mv (.tmp 3), none, []⟩,
    ⟨(some 20), .bin .lss (.tmp 19) (.const (.int .i64 0)), none, []⟩] [0, 3, 9, 10, 11, 20]
def m_slices_Concat_implEntryimplEntry_9 : Unit → MCode := fun _ => .region [] [⟨(some 21), .no, none, []⟩,
    ⟨none, .no, none, []⟩] [0, 3, 9, 10, 11]
def m_slices_Concat_implEntryimplEntry_10 : Unit → MCode := fun _ => .cond (.tmp 20) m_slices_Concat_implEntryimplEntry_9 (fun _ => .skip)
def m_slices_Concat_implEntryimplEntry_11 : Unit → MCode := fun _ => .seq m_slices_Concat_implEntryimplEntry_8 m_slices_Concat_implEntryimplEntry_10
def m_slices_Concat_implEntryimplEntry_12 : Unit → MCode := fun _ => .seq m_slices_Concat_implEntryimplEntry_7 m_slices_Concat_implEntryimplEntry_11
def m_slices_Concat_implEntryimplEntry_13 : Unit → MCode := fun _ => .seq m_slices_Concat_implEntryimplEntry_6 m_slices_Concat_implEntryimplEntry_12
def m_slices_Concat_implEntryimplEntry_14 : Unit → MCode := fun _ => .block 1 m_slices_Concat_implEntryimplEntry_13
def m_slices_Concat_implEntryimplEntry_15 : Unit → MCode := fun _ => .region [] [⟨(some 22), .bin .add (.tmp 11) (.const (.int .i64 1)), none, []⟩,
    ⟨(some 11), .mv (.tmp 22), none, []⟩] [0, 3, 9, 10, 11]
def m_slices_Concat_implEntryimplEntry_16 : Unit → MCode := fun _ => .seq m_slices_Concat_implEntryimplEntry_14 m_slices_Concat_implEntryimplEntry_15
def m_slices_Concat_implEntryimplEntry_17 : Unit → MCode := fun _ => .seq m_slices_Concat_implEntryimplEntry_5 m_slices_Concat_implEntryimplEntry_16
def m_slices_Concat_implEntryimplEntry_18 : Unit → MCode := fun _ => .seq m_slices_Concat_implEntryimplEntry_4 m_slices_Concat_implEntryimplEntry_17
def m_slices_Concat_implEntryimplEntry_19 : Unit → MCode := fun _ => .loop m_slices_Concat_implEntryimplEntry_18
def m_slices_Concat_implEntryimplEntry_20 : Unit → MCode := fun _ => .block 0 m_slices_Concat_implEntryimplEntry_19
def m_slices_Concat_implEntryimplEntry_21 : Unit → MCode := fun _ => .seq m_slices_Concat_implEntryimplEntry_3 m_slices_Concat_implEntryimplEntry_20
def m_slices_Concat_implEntryimplEntry_22 : Unit → MCode := fun _ => .region [] [⟨(some 23), .mv (.tmp 3), none, []⟩,
    ⟨(some 24), .call 112 [(.const (.slice none 0 0)), (.tmp 23)], none, []⟩,
    ⟨(some 6), .mv (.tmp 24), none, []⟩] [0, 6]
def m_slices_Concat_implEntryimplEntry_23 : Unit → MCode := fun _ => .region [] [⟨(some 25), .mv (.tmp 0), none, []⟩,
    ⟨(some 26), .len false (.tmp 25), none, []⟩,
    ⟨(some 27), .mv (.const (.int .i64 0)), none, []⟩] [6, 25, 26, 27]
def m_slices_Concat_implEntryimplEntry_24 : Unit → MCode := fun _ => .region [] [⟨(some 28), .bin .lss (.tmp 27) (.tmp 26), none, []⟩] [6, 25, 26, 27, 28]
def m_slices_Concat_implEntryimplEntry_25 : Unit → MCode := fun _ => .cond (.tmp 28) (fun _ => .skip) (fun _ => .exit 2)
def m_slices_Concat_implEntryimplEntry_26 : Unit → MCode := fun _ => .region [] [⟨(some 29), .ia (.tmp 25) (.tmp 27) 1, none, []⟩,
    ⟨(some 30), .ld (.tmp 29) 1 false, none, []⟩,
    ⟨(some 8), .mv (.tmp 30), none, []⟩] [6, 8, 25, 26, 27]
def m_slices_Concat_implEntryimplEntry_27 : Unit → MCode := fun _ => .region [] [⟨(some 31), .mv (.tmp 6), none, []⟩,
    ⟨(some 32), .mv (.tmp 8), none, []⟩,
    ⟨(some 33), .app (.tmp 31) (.tmp 32) 7 56, none, []⟩,
    ⟨(some 6), .mv (.tmp 33), none, []⟩] [6, 25, 26, 27]
def m_slices_Concat_implEntryimplEntry_28 : Unit → MCode := fun _ => .seq m_slices_Concat_implEntryimplEntry_26 m_slices_Concat_implEntryimplEntry_27
def m_slices_Concat_implEntryimplEntry_29 : Unit → MCode := fun _ => .block 3 m_slices_Concat_implEntryimplEntry_28
def m_slices_Concat_implEntryimplEntry_30 : Unit → MCode := fun _ => .region [] [⟨(some 34), .bin .add (.tmp 27) (.const (.int .i64 1)), none, []⟩,
    ⟨(some 27), .mv (.tmp 34), none, []⟩] [6, 25, 26, 27]
def m_slices_Concat_implEntryimplEntry_31 : Unit → MCode := fun _ => .seq m_slices_Concat_implEntryimplEntry_29 m_slices_Concat_implEntryimplEntry_30
def m_slices_Concat_implEntryimplEntry_32 : Unit → MCode := fun _ => .seq m_slices_Concat_implEntryimplEntry_25 m_slices_Concat_implEntryimplEntry_31
def m_slices_Concat_implEntryimplEntry_33 : Unit → MCode := fun _ => .seq m_slices_Concat_implEntryimplEntry_24 m_slices_Concat_implEntryimplEntry_32
def m_slices_Concat_implEntryimplEntry_34 : Unit → MCode := fun _ => .loop m_slices_Concat_implEntryimplEntry_33
def m_slices_Concat_implEntryimplEntry_35 : Unit → MCode := fun _ => .block 2 m_slices_Concat_implEntryimplEntry_34
def m_slices_Concat_implEntryimplEntry_36 : Unit → MCode := fun _ => .seq m_slices_Concat_implEntryimplEntry_23 m_slices_Concat_implEntryimplEntry_35
def m_slices_Concat_implEntryimplEntry_37 : Unit → MCode := fun _ => .region [] [⟨(some 35), .mv (.tmp 6), none, []⟩,
    ⟨(some 2), .mv (.tmp 35), none, []⟩] [2]
def m_slices_Concat_implEntryimplEntry_38 : Unit → MCode := fun _ => .seq m_slices_Concat_implEntryimplEntry_37 (fun _ => .ret)
def m_slices_Concat_implEntryimplEntry_39 : Unit → MCode := fun _ => .seq m_slices_Concat_implEntryimplEntry_36 m_slices_Concat_implEntryimplEntry_38
def m_slices_Concat_implEntryimplEntry_40 : Unit → MCode := fun _ => .seq m_slices_Concat_implEntryimplEntry_22 m_slices_Concat_implEntryimplEntry_39
def m_slices_Concat_implEntryimplEntry_41 : Unit → MCode := fun _ => .seq m_slices_Concat_implEntryimplEntry_21 m_slices_Concat_implEntryimplEntry_40
def m_slices_Concat_implEntryimplEntry_42 : Unit → MCode := fun _ => .seq m_slices_Concat_implEntryimplEntry_2 m_slices_Concat_implEntryimplEntry_41
def m_slices_Concat_implEntryimplEntry_43 : Unit → MCode := fun _ => .seq m_slices_Concat_implEntryimplEntry_1 m_slices_Concat_implEntryimplEntry_42
def m_slices_Concat_implEntryimplEntry : MCode := m_slices_Concat_implEntryimplEntry_43 ()
def h_slices_Concat_implEntryimplEntry : Hints := [(0, [0], [], [], []), (1, [0, 3], [], [], []), (2, [0, 3, 9, 10, 11], [], [], []), (3, [0, 3, 9, 10, 11, 12], [], [], []), (4, [0, 3, 5, 9, 10, 11], [], [], []), (5, [0, 3, 9, 10, 11], [], [], []), (6, [0, 3, 9, 10, 11, 20], [], [], []), (7, [0, 3, 9, 10, 11], [], [], []), (8, [0, 3, 9, 10, 11], [], [], []), (9, [0, 6], [], [], []), (10, [6, 25, 26, 27], [], [], []), (11, [6, 25, 26, 27, 28], [], [], []), (12, [6, 8, 25, 26, 27], [], [], []), (13, [6, 25, 26, 27], [], [], []), (14, [6, 25, 26, 27], [], [], []), (15, [2], [], [], [])]
def r_slices_Concat_implEntryimplEntry : List RV := [.t 2]
abbrev n_slices_Concat_implEntryimplEntry : Nat := 101
theorem k_slices_Concat_implEntryimplEntry : Known Pr mu n_slices_Concat_implEntryimplEntry m_slices_Concat_implEntryimplEntry r_slices_Concat_implEntryimplEntry Go.Proofs.Try.f101.ntmps := .of h_slices_Concat_implEntryimplEntry hm Go.Proofs.Try.func101 (by kernel_rfl) (by kernel_rfl) (by kernel_rfl) (by kernel_rfl)
def m_slices_Equal_implEntryimplEntry_1 : Unit → MCode := fun _ => .region [] [⟨(some 4), .mv (.const (.bool false)), none, []⟩] [0, 1]
def m_slices_Equal_implEntryimplEntry_2 : Unit → MCode := fun _ => .region [] [⟨(some 6), .mv (.tmp 0), none, []⟩,
    ⟨(some 7), .len false (.tmp 6), none, []⟩,
    ⟨(some 8), .mv (.tmp 1), none, []⟩,
    ⟨(some 9), .len false (.tmp 8), none, []⟩,
    ⟨(some 10), .bin .neq (.tmp 7) (.tmp 9), none, []⟩] [0, 1, 10]
def m_slices_Equal_implEntryimplEntry_3 : Unit → MCode := fun _ => .region [] [⟨(some 4), .mv (.const (.bool false)), none, []⟩] [4]
def m_slices_Equal_implEntryimplEntry_4 : Unit → MCode := fun _ => .seq m_slices_Equal_implEntryimplEntry_3 (fun _ => .ret)
def m_slices_Equal_implEntryimplEntry_5 : Unit → MCode := fun _ => .cond (.tmp 10) m_slices_Equal_implEntryimplEntry_4 (fun _ => .skip)
def m_slices_Equal_implEntryimplEntry_6 : Unit → MCode := fun _ => .seq m_slices_Equal_implEntryimplEntry_2 m_slices_Equal_implEntryimplEntry_5
def m_slices_Equal_implEntryimplEntry_7 : Unit → MCode := fun _ => .region [] [⟨(some 11), .mv (.tmp 0), none, []⟩,
    ⟨(some 12), .len false (.tmp 11), none, []⟩,
    ⟨(some 13), .mv (.const (.int .i64 0)), none, []⟩] [0, 1, 12, 13]
def m_slices_Equal_implEntryimplEntry_8 : Unit → MCode := fun _ => .region [] [⟨(some 14), .bin .lss (.tmp 13) (.tmp 12), none, []⟩] [0, 1, 12, 13, 14]
def m_slices_Equal_implEntryimplEntry_9 : Unit → MCode := fun _ => .cond (.tmp 14) (fun _ => .skip) (fun _ => .exit 0)
def m_slices_Equal_implEntryimplEntry_10 : Unit → MCode := fun _ => .region [] [⟨(some 15), .mv (.tmp 13), none, []⟩,
    ⟨(some 5), .mv (.tmp 15), none, []⟩] [0, 1, 5, 12, 13]
def m_slices_Equal_implEntryimplEntry_11 : Unit → MCode := fun _ => .region [] [⟨(some 16), .mv (.tmp 0), none, []⟩,
    ⟨(some 17), .mv (.tmp 5), none, []⟩,
    ⟨(some 18), .ia (.tmp 16) (.tmp 17) 7, none, []⟩,
    ⟨(some 19), .ld (.tmp 18) 7 true, none, []⟩,
    ⟨(some 20), .mv (.tmp 1), none, []⟩,
    ⟨(some 21), .mv (.tmp 5), none, []⟩,
    ⟨(some 22), .ia (.tmp 20) (.tmp 21) 7, none, [0, 1, 2, 3]⟩,
    ⟨(some 23), .ld (.tmp 22) 7 true, none, [0, 1, 2, 3]⟩,
    ⟨(some 24), .aeq true [.i, .i, .i, .i, .i, .i, .i] (.tmp 19) (.tmp 23), none, []⟩] [0, 1, 12, 13, 24]
def m_slices_Equal_implEntryimplEntry_12 : Unit → MCode := fun _ => .region [] [⟨(some 4), .mv (.const (.bool false)), none, []⟩] [4]
def m_slices_Equal_implEntryimplEntry_13 : Unit → MCode := fun _ => .seq m_slices_Equal_implEntryimplEntry_12 (fun _ => .ret)
def m_slices_Equal_implEntryimplEntry_14 : Unit → MCode := fun _ => .cond (.tmp 24) m_slices_Equal_implEntryimplEntry_13 (fun _ => .skip)
def m_slices_Equal_implEntryimplEntry_15 : Unit → MCode := fun _ => .seq m_slices_Equal_implEntryimplEntry_11 m_slices_Equal_implEntryimplEntry_14
def m_slices_Equal_implEntryimplEntry_16 : Unit → MCode := fun _ => .seq m_slices_Equal_implEntryimplEntry_10 m_slices_Equal_implEntryimplEntry_15
def m_slices_Equal_implEntryimplEntry_17 : Unit → MCode := fun _ => .block 1 m_slices_Equal_implEntryimplEntry_16
def m_slices_Equal_implEntryimplEntry_18 : Unit → MCode := fun _ => .region [] [⟨(some 25), .bin .add (.tmp 13) (.const (.int .i64 1)), none, []⟩,
    ⟨(some 13), .mv (.tmp 25), none, []⟩] [0, 1, 12, 13]
def m_slices_Equal_implEntryimplEntry_19 : Unit → MCode := fun _ => .seq m_slices_Equal_implEntryimplEntry_17 m_slices_Equal_implEntryimplEntry_18
def m_slices_Equal_implEntryimplEntry_20 : Unit → MCode := fun _ => .seq m_slices_Equal_implEntryimplEntry_9 m_slices_Equal_implEntryimplEntry_19
def m_slices_Equal_implEntryimplEntry_21 : Unit → MCode := fun _ => .seq m_slices_Equal_implEntryimplEntry_8 m_slices_Equal_implEntryimplEntry_20
def m_slices_Equal_implEntryimplEntry_22 : Unit → MCode := fun _ => .loop m_slices_Equal_implEntryimplEntry_21
def m_slices_Equal_implEntryimplEntry_23 : Unit → MCode := fun _ => .block 0 m_slices_Equal_implEntryimplEntry_22
def m_slices_Equal_implEntryimplEntry_24 : Unit → MCode := fun _ => .seq m_slices_Equal_implEntryimplEntry_7 m_slices_Equal_implEntryimplEntry_23
def m_slices_Equal_implEntryimplEntry_25 : Unit → MCode := fun _ => .region [] [⟨(some 4), .mv (.const (.bool true)), none, []⟩] [4]
def m_slices_Equal_implEntryimplEntry_26 : Unit → MCode := fun _ => .seq m_slices_Equal_implEntryimplEntry_25 (fun _ => .ret)
def m_slices_Equal_implEntryimplEntry_27 : Unit → MCode := fun _ => .seq m_slices_Equal_implEntryimplEntry_24 m_slices_Equal_implEntryimplEntry_26
def m_slices_Equal_implEntryimplEntry_28 : Unit → MCode := fun _ => .seq m_slices_Equal_implEntryimplEntry_6 m_slices_Equal_implEntryimplEntry_27
def m_slices_Equal_implEntryimplEntry_29 : Unit → MCode := fun _ => .seq m_slices_Equal_implEntryimplEntry_1 m_slices_Equal_implEntryimplEntry_28
def m_slices_Equal_implEntryimplEntry : MCode := m_slices_Equal_implEntryimplEntry_29 ()
def h_slices_Equal_implEntryimplEntry : Hints := [(0, [0, 1], [], [], []), (1, [0, 1, 10], [], [], []), (2, [4], [], [], []), (3, [0, 1, 12, 13], [], [], []), (4, [0, 1, 12, 13, 14], [], [], []), (5, [0, 1, 5, 12, 13], [], [], []), (6, [0, 1, 12, 13, 24], [[], [], [], [], [], [], [0, 1, 2, 3], [0, 1, 2, 3]], [], []), (7, [4], [], [], []), (8, [0, 1, 12, 13], [], [], []), (9, [4], [], [], [])]
def r_slices_Equal_implEntryimplEntry : List RV := [.t 4]
abbrev n_slices_Equal_implEntryimplEntry : Nat := 102
theorem k_slices_Equal_implEntryimplEntry : Known Pr mu n_slices_Equal_implEntryimplEntry m_slices_Equal_implEntryimplEntry r_slices_Equal_implEntryimplEntry Go.Proofs.Try.f102.ntmps := .of h_slices_Equal_implEntryimplEntry hm Go.Proofs.Try.func102 (by kernel_rfl) (by kernel_rfl) (by kernel_rfl) (by kernel_rfl)
def m_laws_eqOp_1 : Unit → MCode := fun _ => .region [] [⟨(some 2), .box (.tmp 0), none, []⟩,
    ⟨(some 3), .box (.tmp 1), none, []⟩,
    ⟨(some 4), .mv (.const (.bool false)), none, []⟩] [2, 3]
def m_laws_eqOp_2 : Unit → MCode := fun _ => .region [] [⟨(some 5), .fa (.tmp 2) 0, none, []⟩,
    ⟨(some 6), .ld (.tmp 5) 1 false, none, []⟩,
    ⟨(some 7), .fa (.tmp 3) 0, none, []⟩,
    ⟨(some 8), .ld (.tmp 7) 1 false, none, []⟩,
    ⟨(some 9), .bin .neq (.tmp 6) (.tmp 8), none, []⟩] [2, 3, 9]
def m_laws_eqOp_3 : Unit → MCode := fun _ => .region [] [⟨(some 4), .mv (.const (.bool false)), none, []⟩] [4]
def m_laws_eqOp_4 : Unit → MCode := fun _ => .seq m_laws_eqOp_3 (fun _ => .ret)
def m_laws_eqOp_5 : Unit → MCode := fun _ => .cond (.tmp 9) m_laws_eqOp_4 (fun _ => .skip)
def m_laws_eqOp_6 : Unit → MCode := fun _ => .seq m_laws_eqOp_2 m_laws_eqOp_5
def m_laws_eqOp_7 : Unit → MCode := fun _ => .region [] [⟨(some 10), .fa (.tmp 2) 1, none, []⟩,
    ⟨(some 11), .ld (.tmp 10) 1 false, none, []⟩,
    ⟨(some 12), .fa (.tmp 3) 1, none, []⟩,
    ⟨(some 13), .ld (.tmp 12) 1 false, none, []⟩,
    ⟨(some 14), .bin .neq (.tmp 11) (.tmp 13), none, []⟩] [2, 3, 14]
def m_laws_eqOp_8 : Unit → MCode := fun _ => .region [] [⟨(some 4), .mv (.const (.bool false)), none, []⟩] [4]
def m_laws_eqOp_9 : Unit → MCode := fun _ => .seq m_laws_eqOp_8 (fun _ => .ret)
def m_laws_eqOp_10 : Unit → MCode := fun _ => .cond (.tmp 14) m_laws_eqOp_9 (fun _ => .skip)
def m_laws_eqOp_11 : Unit → MCode := fun _ => .seq m_laws_eqOp_7 m_laws_eqOp_10
def m_laws_eqOp_12 : Unit → MCode := fun _ => .region [] [⟨(some 15), .fa (.tmp 2) 2, none, []⟩,
    ⟨(some 16), .ld (.tmp 15) 1 false, none, []⟩,
    ⟨(some 17), .fa (.tmp 3) 2, none, []⟩,
    ⟨(some 18), .ld (.tmp 17) 1 false, none, []⟩,
    ⟨(some 19), .bin .neq (.tmp 16) (.tmp 18), none, []⟩] [2, 3, 19]
def m_laws_eqOp_13 : Unit → MCode := fun _ => .region [] [⟨(some 4), .mv (.const (.bool false)), none, []⟩] [4]
def m_laws_eqOp_14 : Unit → MCode := fun _ => .seq m_laws_eqOp_13 (fun _ => .ret)
def m_laws_eqOp_15 : Unit → MCode := fun _ => .cond (.tmp 19) m_laws_eqOp_14 (fun _ => .skip)
def m_laws_eqOp_16 : Unit → MCode := fun _ => .seq m_laws_eqOp_12 m_laws_eqOp_15
def m_laws_eqOp_17 : Unit → MCode := fun _ => .region [] [⟨(some 20), .fa (.tmp 2) 3, none, []⟩,
    ⟨(some 21), .ld (.tmp 20) 1 false, none, []⟩,
    ⟨(some 22), .fa (.tmp 3) 3, none, []⟩,
    ⟨(some 23), .ld (.tmp 22) 1 false, none, []⟩,
    ⟨(some 24), .bin .neq (.tmp 21) (.tmp 23), none, []⟩] [2, 3, 24]
def m_laws_eqOp_18 : Unit → MCode := fun _ => .region [] [⟨(some 4), .mv (.const (.bool false)), none, []⟩] [4]
def m_laws_eqOp_19 : Unit → MCode := fun _ => .seq m_laws_eqOp_18 (fun _ => .ret)
def m_laws_eqOp_20 : Unit → MCode := fun _ => .cond (.tmp 24) m_laws_eqOp_19 (fun _ => .skip)
def m_laws_eqOp_21 : Unit → MCode := fun _ => .seq m_laws_eqOp_17 m_laws_eqOp_20
def m_laws_eqOp_22 : Unit → MCode := fun _ => .region [] [⟨(some 25), .fa (.tmp 2) 4, none, []⟩,
    ⟨(some 26), .ld (.tmp 25) 1 false, none, []⟩,
    ⟨(some 27), .fa (.tmp 3) 4, none, []⟩,
    ⟨(some 28), .ld (.tmp 27) 1 false, none, []⟩,
    ⟨(some 29), .bin .neq (.tmp 26) (.tmp 28), none, []⟩] [2, 3, 29]
def m_laws_eqOp_23 : Unit → MCode := fun _ => .region [] [⟨(some 4), .mv (.const (.bool false)), none, []⟩] [4]
def m_laws_eqOp_24 : Unit → MCode := fun _ => .seq m_laws_eqOp_23 (fun _ => .ret)
def m_laws_eqOp_25 : Unit → MCode := fun _ => .cond (.tmp 29) m_laws_eqOp_24 (fun _ => .skip)
def m_laws_eqOp_26 : Unit → MCode := fun _ => .seq m_laws_eqOp_22 m_laws_eqOp_25
def m_laws_eqOp_27 : Unit → MCode := fun _ => .region [] [⟨(some 30), .fa (.tmp 2) 5, none, []⟩,
    ⟨(some 31), .ld (.tmp 30) 1 false, none, []⟩,
    ⟨(some 32), .fa (.tmp 3) 5, none, []⟩,
    ⟨(some 33), .ld (.tmp 32) 1 false, none, []⟩,
    ⟨(some 34), .bin .neq (.tmp 31) (.tmp 33), none, []⟩] [34]
def m_laws_eqOp_28 : Unit → MCode := fun _ => .region [] [⟨(some 4), .mv (.const (.bool false)), none, []⟩] [4]
def m_laws_eqOp_29 : Unit → MCode := fun _ => .seq m_laws_eqOp_28 (fun _ => .ret)
def m_laws_eqOp_30 : Unit → MCode := fun _ => .cond (.tmp 34) m_laws_eqOp_29 (fun _ => .skip)
def m_laws_eqOp_31 : Unit → MCode := fun _ => .seq m_laws_eqOp_27 m_laws_eqOp_30
def m_laws_eqOp_32 : Unit → MCode := fun _ => .region [] [⟨(some 4), .mv (.const (.bool true)), none, []⟩] [4]
def m_laws_eqOp_33 : Unit → MCode := fun _ => .seq m_laws_eqOp_32 (fun _ => .ret)
def m_laws_eqOp_34 : Unit → MCode := fun _ => .seq m_laws_eqOp_31 m_laws_eqOp_33
def m_laws_eqOp_35 : Unit → MCode := fun _ => .seq m_laws_eqOp_26 m_laws_eqOp_34
def m_laws_eqOp_36 : Unit → MCode := fun _ => .seq m_laws_eqOp_21 m_laws_eqOp_35
def m_laws_eqOp_37 : Unit → MCode := fun _ => .seq m_laws_eqOp_16 m_laws_eqOp_36
def m_laws_eqOp_38 : Unit → MCode := fun _ => .seq m_laws_eqOp_11 m_laws_eqOp_37
def m_laws_eqOp_39 : Unit → MCode := fun _ => .seq m_laws_eqOp_6 m_laws_eqOp_38
def m_laws_eqOp_40 : Unit → MCode := fun _ => .seq m_laws_eqOp_1 m_laws_eqOp_39
def m_laws_eqOp : MCode := m_laws_eqOp_40 ()
def h_laws_eqOp : Hints := [(0, [2, 3], [], [], []), (1, [2, 3, 9], [], [], []), (2, [4], [], [], []), (3, [2, 3, 14], [], [], []), (4, [4], [], [], []), (5, [2, 3, 19], [], [], []), (6, [4], [], [], []), (7, [2, 3, 24], [], [], []), (8, [4], [], [], []), (9, [2, 3, 29], [], [], []), (10, [4], [], [], []), (11, [34], [], [], []), (12, [4], [], [], []), (13, [4], [], [], [])]
def r_laws_eqOp : List RV := [.t 4]
abbrev n_laws_eqOp : Nat := 109
theorem k_laws_eqOp : Known Pr mu n_laws_eqOp m_laws_eqOp r_laws_eqOp Go.Proofs.Try.f109.ntmps := .of h_laws_eqOp hm Go.Proofs.Try.func109 (by kernel_rfl) (by kernel_rfl) (by kernel_rfl) (by kernel_rfl)
def m_spec_IsValidOp_1 : Unit → MCode := fun _ => .region [] [⟨(some 1), .box (.tmp 0), none, []⟩,
    ⟨(some 2), .mv (.const (.bool false)), none, []⟩] [1]
def m_spec_IsValidOp_2 : Unit → MCode := fun _ => .region [] [⟨(some 3), .fa (.tmp 1) 0, none, []⟩,
    ⟨(some 4), .ld (.tmp 3) 1 false, none, []⟩,
    ⟨(some 5), .call 68 [(.tmp 4), (.const (.int .i64 0)), (.const (.int .i64 2))], none, []⟩,
    ⟨(some 6), .not (.tmp 5), none, []⟩,
    ⟨(some 7), .mv (.tmp 6), none, []⟩,
    ⟨(some 8), .fa (.tmp 1) 1, (some (7, false)), []⟩,
    ⟨(some 9), .ld (.tmp 8) 1 false, (some (7, false)), []⟩,
    ⟨(some 10), .call 68 [(.tmp 9), (.const (.int .i64 1)), (.const (.int .i64 99))], (some (7, false)), []⟩,
    ⟨(some 11), .not (.tmp 10), (some (7, false)), []⟩,
    ⟨(some 12), .pick (.tmp 7) (.const (.bool true)) (.tmp 11), none, []⟩,
    ⟨(some 13), .mv (.tmp 12), none, []⟩,
    ⟨(some 14), .fa (.tmp 1) 3, (some (13, false)), []⟩,
    ⟨(some 15), .ld (.tmp 14) 1 false, (some (13, false)), []⟩,
    ⟨(some 16), .call 68 [(.tmp 15), (.const (.int .i64 0)), (.const (.int .i64 2))], (some (13, false)), []⟩,
    ⟨(some 17), .not (.tmp 16), (some (13, false)), []⟩,
    ⟨(some 18), .pick (.tmp 13) (.const (.bool true)) (.tmp 17), none, []⟩,
    ⟨(some 19), .mv (.tmp 18), none, []⟩,
    ⟨(some 20), .fa (.tmp 1) 5, (some (19, false)), []⟩,
    ⟨(some 21), .ld (.tmp 20) 1 false, (some (19, false)), []⟩,
    ⟨(some 22), .call 68 [(.tmp 21), (.const (.int .i64 0)), (.const (.int .i64 9))], (some (19, false)), []⟩,
    ⟨(some 23), .not (.tmp 22), (some (19, false)), []⟩,
    ⟨(some 24), .pick (.tmp 19) (.const (.bool true)) (.tmp 23), none, []⟩] [1, 24]
def m_spec_IsValidOp_3 : Unit → MCode := fun _ => .region [] [⟨(some 2), .mv (.const (.bool false)), none, []⟩] [2]
def m_spec_IsValidOp_4 : Unit → MCode := fun _ => .seq m_spec_IsValidOp_3 (fun _ => .ret)
def m_spec_IsValidOp_5 : Unit → MCode := fun _ => .cond (.tmp 24) m_spec_IsValidOp_4 (fun _ => .skip)
def m_spec_IsValidOp_6 : Unit → MCode := fun _ => .seq m_spec_IsValidOp_2 m_spec_IsValidOp_5
def m_spec_IsValidOp_7 : Unit → MCode := fun _ => .region [] [⟨(some 25), .fa (.tmp 1) 2, none, []⟩,
    ⟨(some 26), .ld (.tmp 25) 1 false, none, []⟩,
    ⟨(some 27), .bin .eql (.tmp 26) (.const (.int .i64 1)), none, []⟩,
    ⟨(some 28), .mv (.tmp 27), none, []⟩,
    ⟨(some 29), .fa (.tmp 1) 4, (some (28, true)), []⟩,
    ⟨(some 30), .ld (.tmp 29) 1 false, (some (28, true)), []⟩,
    ⟨(some 31), .bin .eql (.tmp 30) (.const (.int .i64 0)), (some (28, true)), []⟩,
    ⟨(some 32), .pick (.tmp 28) (.tmp 31) (.const (.bool false)), none, []⟩,
    ⟨(some 33), .mv (.tmp 32), none, []⟩,
    ⟨(some 34), .fa (.tmp 1) 2, (some (33, false)), []⟩,
    ⟨(some 35), .ld (.tmp 34) 1 false, (some (33, false)), []⟩,
    ⟨(some 36), .bin .eql (.tmp 35) (.const (.int .i64 2)), (some (33, false)), []⟩,
    ⟨(some 37), .mv (.tmp 36), (some (33, false)), []⟩,
    ⟨(some 38), .fa (.tmp 1) 4, (some (37, true)), []⟩,
    ⟨(some 39), .ld (.tmp 38) 1 false, (some (37, true)), []⟩,
    ⟨(some 40), .call 68 [(.tmp 39), (.const (.int .i64 0)), (.const (.int .i64 9))], (some (37, true)), []⟩,
    ⟨(some 41), .pick (.tmp 37) (.tmp 40) (.const (.bool false)), (some (33, false)), []⟩,
    ⟨(some 42), .pick (.tmp 33) (.const (.bool true)) (.tmp 41), none, []⟩,
    ⟨(some 2), .mv (.tmp 42), none, []⟩] [2]
def m_spec_IsValidOp_8 : Unit → MCode := fun _ => .seq m_spec_IsValidOp_7 (fun _ => .ret)
def m_spec_IsValidOp_9 : Unit → MCode := fun _ => .seq m_spec_IsValidOp_6 m_spec_IsValidOp_8
def m_spec_IsValidOp_10 : Unit → MCode := fun _ => .seq m_spec_IsValidOp_1 m_spec_IsValidOp_9
def m_spec_IsValidOp : MCode := m_spec_IsValidOp_10 ()
def h_spec_IsValidOp : Hints := [(0, [1], [], [], []), (1, [1, 24], [], [], []), (2, [2], [], [], []), (3, [2], [], [], [])]
def r_spec_IsValidOp : List RV := [.t 2]
abbrev n_spec_IsValidOp : Nat := 110
theorem k_spec_IsValidOp : Known Pr mu n_spec_IsValidOp m_spec_IsValidOp r_spec_IsValidOp Go.Proofs.Try.f110.ntmps := .of h_spec_IsValidOp hm Go.Proofs.Try.func110 (by kernel_rfl) (by kernel_rfl) (by kernel_rfl) (by kernel_rfl)
def m_impl_IsValidOp_1 : Unit → MCode := fun _ => .region [] [⟨(some 1), .box (.tmp 0), none, []⟩,
    ⟨(some 2), .mv (.const (.bool false)), none, []⟩] [1]
def m_impl_IsValidOp_2 : Unit → MCode := fun _ => .region [] [⟨(some 3), .fa (.tmp 1) 0, none, []⟩,
    ⟨(some 4), .ld (.tmp 3) 1 false, none, []⟩,
    ⟨(some 5), .call 71 [(.tmp 4), (.const (.int .i64 0)), (.const (.int .i64 2))], none, []⟩,
    ⟨(some 6), .not (.tmp 5), none, []⟩,
    ⟨(some 7), .mv (.tmp 6), none, []⟩,
    ⟨(some 8), .fa (.tmp 1) 1, (some (7, false)), []⟩,
    ⟨(some 9), .ld (.tmp 8) 1 false, (some (7, false)), []⟩,
    ⟨(some 10), .call 71 [(.tmp 9), (.const (.int .i64 1)), (.const (.int .i64 99))], (some (7, false)), []⟩,
    ⟨(some 11), .not (.tmp 10), (some (7, false)), []⟩,
    ⟨(some 12), .pick (.tmp 7) (.const (.bool true)) (.tmp 11), none, []⟩,
    ⟨(some 13), .mv (.tmp 12), none, []⟩,
    ⟨(some 14), .fa (.tmp 1) 3, (some (13, false)), []⟩,
    ⟨(some 15), .ld (.tmp 14) 1 false, (some (13, false)), []⟩,
    ⟨(some 16), .call 71 [(.tmp 15), (.const (.int .i64 0)), (.const (.int .i64 2))], (some (13, false)), []⟩,
    ⟨(some 17), .not (.tmp 16), (some (13, false)), []⟩,
    ⟨(some 18), .pick (.tmp 13) (.const (.bool true)) (.tmp 17), none, []⟩,
    ⟨(some 19), .mv (.tmp 18), none, []⟩,
    ⟨(some 20), .fa (.tmp 1) 5, (some (19, false)), []⟩,
    ⟨(some 21), .ld (.tmp 20) 1 false, (some (19, false)), []⟩,
    ⟨(some 22), .call 71 [(.tmp 21), (.const (.int .i64 0)), (.const (.int .i64 9))], (some (19, false)), []⟩,
    ⟨(some 23), .not (.tmp 22), (some (19, false)), []⟩,
    ⟨(some 24), .pick (.tmp 19) (.const (.bool true)) (.tmp 23), none, []⟩] [1, 24]
def m_impl_IsValidOp_3 : Unit → MCode := fun _ => .region [] [⟨(some 2), .mv (.const (.bool false)), none, []⟩] [2]
def m_impl_IsValidOp_4 : Unit → MCode := fun _ => .seq m_impl_IsValidOp_3 (fun _ => .ret)
def m_impl_IsValidOp_5 : Unit → MCode := fun _ => .cond (.tmp 24) m_impl_IsValidOp_4 (fun _ => .skip)
def m_impl_IsValidOp_6 : Unit → MCode := fun _ => .seq m_impl_IsValidOp_2 m_impl_IsValidOp_5
def m_impl_IsValidOp_7 : Unit → MCode := fun _ => .region [] [⟨(some 25), .fa (.tmp 1) 2, none, []⟩,
    ⟨(some 26), .ld (.tmp 25) 1 false, none, []⟩,
    ⟨(some 27), .bin .eql (.tmp 26) (.const (.int .i64 1)), none, []⟩,
    ⟨(some 28), .mv (.tmp 27), none, []⟩,
    ⟨(some 29), .fa (.tmp 1) 4, (some (28, true)), []⟩,
    ⟨(some 30), .ld (.tmp 29) 1 false, (some (28, true)), []⟩,
    ⟨(some 31), .bin .eql (.tmp 30) (.const (.int .i64 0)), (some (28, true)), []⟩,
    ⟨(some 32), .pick (.tmp 28) (.tmp 31) (.const (.bool false)), none, []⟩,
    ⟨(some 33), .mv (.tmp 32), none, []⟩,
    ⟨(some 34), .fa (.tmp 1) 2, (some (33, false)), []⟩,
    ⟨(some 35), .ld (.tmp 34) 1 false, (some (33, false)), []⟩,
    ⟨(some 36), .bin .eql (.tmp 35) (.const (.int .i64 2)), (some (33, false)), []⟩,
    ⟨(some 37), .mv (.tmp 36), (some (33, false)), []⟩,
    ⟨(some 38), .fa (.tmp 1) 4, (some (37, true)), []⟩,
    ⟨(some 39), .ld (.tmp 38) 1 false, (some (37, true)), []⟩,
    ⟨(some 40), .call 71 [(.tmp 39), (.const (.int .i64 0)), (.const (.int .i64 9))], (some (37, true)), []⟩,
    ⟨(some 41), .pick (.tmp 37) (.tmp 40) (.const (.bool false)), (some (33, false)), []⟩,
    ⟨(some 42), .pick (.tmp 33) (.const (.bool true)) (.tmp 41), none, []⟩,
    ⟨(some 2), .mv (.tmp 42), none, []⟩] [2]
def m_impl_IsValidOp_8 : Unit → MCode := fun _ => .seq m_impl_IsValidOp_7 (fun _ => .ret)
def m_impl_IsValidOp_9 : Unit → MCode := fun _ => .seq m_impl_IsValidOp_6 m_impl_IsValidOp_8
def m_impl_IsValidOp_10 : Unit → MCode := fun _ => .seq m_impl_IsValidOp_1 m_impl_IsValidOp_9
def m_impl_IsValidOp : MCode := m_impl_IsValidOp_10 ()
def h_impl_IsValidOp : Hints := [(0, [1], [], [], []), (1, [1, 24], [], [], []), (2, [2], [], [], []), (3, [2], [], [], [])]
def r_impl_IsValidOp : List RV := [.t 2]
abbrev n_impl_IsValidOp : Nat := 111
theorem k_impl_IsValidOp : Known Pr mu n_impl_IsValidOp m_impl_IsValidOp r_impl_IsValidOp Go.Proofs.Try.f111.ntmps := .of h_impl_IsValidOp hm Go.Proofs.Try.func111 (by kernel_rfl) (by kernel_rfl) (by kernel_rfl) (by kernel_rfl)
def m_slices_Grow_implEntryimplEntry_1 : Unit → MCode := fun _ => .region [] [⟨(some 4), .mv (.const (.slice none 0 0)), none, []⟩] [0, 1]
def m_slices_Grow_implEntryimplEntry_2 : Unit → MCode := fun _ => .region [] [⟨(some 5), .mv (.tmp 1), none, []⟩,
    ⟨(some 6), .bin .lss (.tmp 5) (.const (.int .i64 0)), none, []⟩] [0, 1, 6]
def m_slices_Grow_implEntryimplEntry_3 : Unit → MCode := fun _ => .region [] [⟨(some 7), .no, none, []⟩,
    ⟨none, .no, none, []⟩] [0, 1]
def m_slices_Grow_implEntryimplEntry_4 : Unit → MCode := fun _ => .cond (.tmp 6) m_slices_Grow_implEntryimplEntry_3 (fun _ => .skip)
def m_slices_Grow_implEntryimplEntry_5 : Unit → MCode := fun _ => .seq m_slices_Grow_implEntryimplEntry_2 m_slices_Grow_implEntryimplEntry_4
def m_slices_Grow_implEntryimplEntry_6 : Unit → MCode := fun _ => .region [] [⟨(some 8), .mv (.tmp 1), none, []⟩,
    ⟨(some 9), .mv (.tmp 0), none, []⟩,
    ⟨(some 10), .cap (.tmp 9), none, []⟩,
    ⟨(some 11), .mv (.tmp 0), none, []⟩,
    ⟨(some 12), .len false (.tmp 11), none, []⟩,
    ⟨(some 13), .bin .sub (.tmp 10) (.tmp 12), none, []⟩,
    ⟨(some 14), .bin .sub (.tmp 8) (.tmp 13), none, []⟩,
    ⟨(some 1), .mv (.tmp 14), none, []⟩] [0, 1]
def m_slices_Grow_implEntryimplEntry_7 : Unit → MCode := fun _ => .region [] [⟨(some 15), .mv (.tmp 1), none, []⟩,
    ⟨(some 16), .bin .gtr (.tmp 15) (.const (.int .i64 0)), none, []⟩] [0, 1, 16]
def m_slices_Grow_implEntryimplEntry_8 : Unit → MCode := fun _ => .region [] [⟨(some 17), .mv (.tmp 0), none, []⟩,
    ⟨(some 18), .mv (.tmp 0), none, []⟩,
    ⟨(some 19), .cap (.tmp 18), none, []⟩,
    ⟨(some 20), .slc false (.tmp 17) none (some (.tmp 19)) none 7, none, []⟩,
    ⟨(some 21), .mv (.tmp 1), none, []⟩,
    ⟨(some 22), .appz (.tmp 20) (.tmp 21) 7 56 [.int .i64 0, .int .i64 0, .int .i64 0, .int .i64 0, .int .i64 0, .int .i64 0, .int .i64 0], none, []⟩,
    ⟨(some 23), .mv (.tmp 0), none, []⟩,
    ⟨(some 24), .len false (.tmp 23), none, []⟩,
    ⟨(some 25), .slc false (.tmp 22) none (some (.tmp 24)) none 7, none, []⟩,
    ⟨(some 0), .mv (.tmp 25), none, []⟩] [0]
def m_slices_Grow_implEntryimplEntry_9 : Unit → MCode := fun _ => .cond (.tmp 16) m_slices_Grow_implEntryimplEntry_8 (fun _ => .skip)
def m_slices_Grow_implEntryimplEntry_10 : Unit → MCode := fun _ => .seq m_slices_Grow_implEntryimplEntry_7 m_slices_Grow_implEntryimplEntry_9
def m_slices_Grow_implEntryimplEntry_11 : Unit → MCode := fun _ => .seq m_slices_Grow_implEntryimplEntry_6 m_slices_Grow_implEntryimplEntry_10
def m_slices_Grow_implEntryimplEntry_12 : Unit → MCode := fun _ => .region [] [⟨(some 26), .mv (.tmp 0), none, []⟩,
    ⟨(some 4), .mv (.tmp 26), none, []⟩] [4]
def m_slices_Grow_implEntryimplEntry_13 : Unit → MCode := fun _ => .seq m_slices_Grow_implEntryimplEntry_12 (fun _ => .ret)
def m_slices_Grow_implEntryimplEntry_14 : Unit → MCode := fun _ => .seq m_slices_Grow_implEntryimplEntry_11 m_slices_Grow_implEntryimplEntry_13
def m_slices_Grow_implEntryimplEntry_15 : Unit → MCode := fun _ => .seq m_slices_Grow_implEntryimplEntry_5 m_slices_Grow_implEntryimplEntry_14
def m_slices_Grow_implEntryimplEntry_16 : Unit → MCode := fun _ => .seq m_slices_Grow_implEntryimplEntry_1 m_slices_Grow_implEntryimplEntry_15
def m_slices_Grow_implEntryimplEntry : MCode := m_slices_Grow_implEntryimplEntry_16 ()
def h_slices_Grow_implEntryimplEntry : Hints := [(0, [0, 1], [], [], []), (1, [0, 1, 6], [], [], []), (2, [0, 1], [], [], []), (3, [0, 1], [], [], []), (4, [0, 1, 16], [], [], []), (5, [0], [], [], []), (6, [4], [], [], [])]
def r_slices_Grow_implEntryimplEntry : List RV := [.t 4]
abbrev n_slices_Grow_implEntryimplEntry : Nat := 112
theorem k_slices_Grow_implEntryimplEntry : Known Pr mu n_slices_Grow_implEntryimplEntry m_slices_Grow_implEntryimplEntry r_slices_Grow_implEntryimplEntry Go.Proofs.Try.f112.ntmps := .of h_slices_Grow_implEntryimplEntry hm Go.Proofs.Try.func112 (by kernel_rfl) (by kernel_rfl) (by kernel_rfl) (by kernel_rfl)
end Go.V.T
