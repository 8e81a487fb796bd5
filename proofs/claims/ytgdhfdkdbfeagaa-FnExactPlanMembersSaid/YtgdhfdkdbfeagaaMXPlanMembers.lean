/- The short code of the functions that FnExactPlanMembers reaches, held against the program. Conditions: none. -/
import Derived.Test.YtgdhfdkdbfeagaaV5
import Derived.Test.YtgdhfdkdbfeagaaProg
namespace Go.V.T
open Go Go.V
noncomputable abbrev Pr := Go.Proofs.Try.prog
def mu : Nat → Bool := fun n => Nat.beq n 16 || Nat.beq n 17 || Nat.beq n 42 || Nat.beq n 43 || Nat.beq n 57 || Nat.beq n 112 || Nat.beq n 121 || Nat.beq n 122 || Nat.beq n 139 || Nat.beq n 145 || Nat.beq n 146 || Nat.beq n 147 || Nat.beq n 149 || Nat.beq n 150 || Nat.beq n 152 || Nat.beq n 153 || Nat.beq n 156
theorem hm : Pr.follows .mixedOrders = true := by kernel_rfl
def m_laws_FnExactPlanMembers_1 : Unit → MCode := fun _ => .region [] [⟨(some 8), .mv (.const (.bool false)), none, []⟩] [0, 1, 2, 3]
def m_laws_FnExactPlanMembers_2 : Unit → MCode := fun _ => .region [] [⟨(some 19), .mv (.tmp 1), none, []⟩,
    ⟨(some 20), .len false (.tmp 19), none, []⟩,
    ⟨(some 21), .bin .gtr (.tmp 20) (.const (.int .i64 1048576)), none, []⟩] [0, 1, 2, 3, 21]
def m_laws_FnExactPlanMembers_3 : Unit → MCode := fun _ => .region [] [⟨(some 8), .mv (.const (.bool true)), none, []⟩] [8]
def m_laws_FnExactPlanMembers_4 : Unit → MCode := fun _ => .seq m_laws_FnExactPlanMembers_3 (fun _ => .ret)
def m_laws_FnExactPlanMembers_5 : Unit → MCode := fun _ => .cond (.tmp 21) m_laws_FnExactPlanMembers_4 (fun _ => .skip)
def m_laws_FnExactPlanMembers_6 : Unit → MCode := fun _ => .seq m_laws_FnExactPlanMembers_2 m_laws_FnExactPlanMembers_5
def m_laws_FnExactPlanMembers_7 : Unit → MCode := fun _ => .region [] [⟨(some 22), .mv (.tmp 2), none, []⟩,
    ⟨(some 23), .len false (.tmp 22), none, []⟩,
    ⟨(some 24), .bin .gtr (.tmp 23) (.const (.int .i64 1048576)), none, []⟩] [0, 1, 2, 3, 24]
def m_laws_FnExactPlanMembers_8 : Unit → MCode := fun _ => .region [] [⟨(some 8), .mv (.const (.bool true)), none, []⟩] [8]
def m_laws_FnExactPlanMembers_9 : Unit → MCode := fun _ => .seq m_laws_FnExactPlanMembers_8 (fun _ => .ret)
def m_laws_FnExactPlanMembers_10 : Unit → MCode := fun _ => .cond (.tmp 24) m_laws_FnExactPlanMembers_9 (fun _ => .skip)
def m_laws_FnExactPlanMembers_11 : Unit → MCode := fun _ => .seq m_laws_FnExactPlanMembers_7 m_laws_FnExactPlanMembers_10
def m_laws_FnExactPlanMembers_12 : Unit → MCode := fun _ => .region [] [⟨(some 9), .mv (.const (.int .i64 1048576)), none, []⟩] [0, 1, 2, 3, 9]
def m_laws_FnExactPlanMembers_13 : Unit → MCode := fun _ => .region [] [⟨(some 25), .mv (.tmp 0), none, []⟩,
    ⟨(some 26), .mv (.tmp 9), none, []⟩,
    ⟨(some 27), .call 9 [(.tmp 25), (.tmp 26)], none, []⟩,
    ⟨(some 9), .mv (.tmp 27), none, []⟩] [0, 1, 2, 3, 9]
def m_laws_FnExactPlanMembers_14 : Unit → MCode := fun _ => .region [] [⟨(some 28), .mv (.tmp 9), none, []⟩,
    ⟨(some 29), .bin .lss (.tmp 28) (.const (.int .i64 0)), none, []⟩] [0, 1, 2, 3, 29]
def m_laws_FnExactPlanMembers_15 : Unit → MCode := fun _ => .region [] [⟨(some 8), .mv (.const (.bool true)), none, []⟩] [8]
def m_laws_FnExactPlanMembers_16 : Unit → MCode := fun _ => .seq m_laws_FnExactPlanMembers_15 (fun _ => .ret)
def m_laws_FnExactPlanMembers_17 : Unit → MCode := fun _ => .cond (.tmp 29) m_laws_FnExactPlanMembers_16 (fun _ => .skip)
def m_laws_FnExactPlanMembers_18 : Unit → MCode := fun _ => .seq m_laws_FnExactPlanMembers_14 m_laws_FnExactPlanMembers_17
def m_laws_FnExactPlanMembers_19 : Unit → MCode := fun _ => .region [] [⟨(some 30), .mv (.tmp 0), none, []⟩,
    ⟨(some 31), .call 11 [(.tmp 30)], none, []⟩,
    ⟨(some 32), .mv (.tmp 1), none, []⟩,
    ⟨(some 33), .call 12 [(.tmp 32)], none, []⟩,
    ⟨(some 34), .mv (.tmp 2), none, []⟩,
    ⟨(some 35), .call 12 [(.tmp 34)], none, []⟩,
    ⟨(some 36), .mv (.tmp 3), none, []⟩,
    ⟨(some 37), .call 10 [(.tmp 31), (.tmp 33), (.tmp 35), (.tmp 36)], none, []⟩,
    ⟨(some 10), .mv (.tmp 37), none, []⟩] [0, 1, 2, 3, 10]
def m_laws_FnExactPlanMembers_20 : Unit → MCode := fun _ => .region [] [⟨(some 38), .mv (.tmp 0), none, []⟩,
    ⟨(some 39), .call 11 [(.tmp 38)], none, []⟩,
    ⟨(some 11), .mv (.tmp 39), none, []⟩] [0, 1, 2, 3, 10, 11]
def m_laws_FnExactPlanMembers_21 : Unit → MCode := fun _ => .region [] [⟨(some 40), .mv (.tmp 1), none, []⟩,
    ⟨(some 41), .call 12 [(.tmp 40)], none, []⟩,
    ⟨(some 12), .mv (.tmp 41), none, []⟩] [0, 1, 2, 3, 10, 11, 12]
def m_laws_FnExactPlanMembers_22 : Unit → MCode := fun _ => .region [] [⟨(some 42), .mv (.tmp 2), none, []⟩,
    ⟨(some 43), .call 12 [(.tmp 42)], none, []⟩,
    ⟨(some 13), .mv (.tmp 43), none, []⟩] [0, 1, 2, 3, 10, 11, 12, 13]
def m_laws_FnExactPlanMembers_23 : Unit → MCode := fun _ => .region [] [⟨(some 44), .mv (.tmp 11), none, []⟩,
    ⟨(some 45), .mv (.tmp 12), none, []⟩,
    ⟨(some 46), .mv (.tmp 13), none, []⟩,
    ⟨(some 47), .mv (.tmp 3), none, []⟩,
    ⟨(some 48), .call 13 [(.tmp 44), (.tmp 45), (.tmp 46), (.tmp 47)], none, []⟩,
    ⟨(some 14), .mv (.tmp 48), none, []⟩] [0, 1, 2, 3, 10, 11, 12, 13, 14]
def m_laws_FnExactPlanMembers_24 : Unit → MCode := fun _ => .region [] [⟨(some 49), .mv (.tmp 14), none, []⟩,
    ⟨(some 50), .mv (.tmp 10), none, []⟩,
    ⟨(some 51), .call 14 [(.tmp 49), (.tmp 50)], none, []⟩,
    ⟨(some 52), .not (.tmp 51), none, []⟩] [0, 1, 2, 3, 10, 11, 12, 13, 14, 52]
def m_laws_FnExactPlanMembers_25 : Unit → MCode := fun _ => .region [] [⟨(some 8), .mv (.const (.bool false)), none, []⟩] [8]
def m_laws_FnExactPlanMembers_26 : Unit → MCode := fun _ => .seq m_laws_FnExactPlanMembers_25 (fun _ => .ret)
def m_laws_FnExactPlanMembers_27 : Unit → MCode := fun _ => .cond (.tmp 52) m_laws_FnExactPlanMembers_26 (fun _ => .skip)
def m_laws_FnExactPlanMembers_28 : Unit → MCode := fun _ => .seq m_laws_FnExactPlanMembers_24 m_laws_FnExactPlanMembers_27
def m_laws_FnExactPlanMembers_29 : Unit → MCode := fun _ => .region [] [⟨(some 53), .mv (.tmp 11), none, []⟩,
    ⟨(some 54), .mv (.tmp 0), none, []⟩,
    ⟨(some 55), .call 11 [(.tmp 54)], none, []⟩,
    ⟨(some 56), .call 15 [(.tmp 53), (.tmp 55)], none, []⟩,
    ⟨(some 57), .not (.tmp 56), none, []⟩] [0, 1, 2, 3, 10, 11, 12, 13, 14, 57]
def m_laws_FnExactPlanMembers_30 : Unit → MCode := fun _ => .region [] [⟨(some 8), .mv (.const (.bool false)), none, []⟩] [8]
def m_laws_FnExactPlanMembers_31 : Unit → MCode := fun _ => .seq m_laws_FnExactPlanMembers_30 (fun _ => .ret)
def m_laws_FnExactPlanMembers_32 : Unit → MCode := fun _ => .cond (.tmp 57) m_laws_FnExactPlanMembers_31 (fun _ => .skip)
def m_laws_FnExactPlanMembers_33 : Unit → MCode := fun _ => .seq m_laws_FnExactPlanMembers_29 m_laws_FnExactPlanMembers_32
def m_laws_FnExactPlanMembers_34 : Unit → MCode := fun _ => .region [] [⟨(some 58), .mv (.tmp 12), none, []⟩,
    ⟨(some 59), .mv (.tmp 1), none, []⟩,
    ⟨(some 60), .call 12 [(.tmp 59)], none, []⟩,
    ⟨(some 61), .call 14 [(.tmp 58), (.tmp 60)], none, []⟩,
    ⟨(some 62), .not (.tmp 61), none, []⟩] [0, 1, 2, 3, 10, 11, 12, 13, 14, 62]
def m_laws_FnExactPlanMembers_35 : Unit → MCode := fun _ => .region [] [⟨(some 8), .mv (.const (.bool false)), none, []⟩] [8]
def m_laws_FnExactPlanMembers_36 : Unit → MCode := fun _ => .seq m_laws_FnExactPlanMembers_35 (fun _ => .ret)
def m_laws_FnExactPlanMembers_37 : Unit → MCode := fun _ => .cond (.tmp 62) m_laws_FnExactPlanMembers_36 (fun _ => .skip)
def m_laws_FnExactPlanMembers_38 : Unit → MCode := fun _ => .seq m_laws_FnExactPlanMembers_34 m_laws_FnExactPlanMembers_37
def m_laws_FnExactPlanMembers_39 : Unit → MCode := fun _ => .region [] [⟨(some 63), .mv (.tmp 13), none, []⟩,
    ⟨(some 64), .mv (.tmp 2), none, []⟩,
    ⟨(some 65), .call 12 [(.tmp 64)], none, []⟩,
    ⟨(some 66), .call 14 [(.tmp 63), (.tmp 65)], none, []⟩,
    ⟨(some 67), .not (.tmp 66), none, []⟩] [0, 1, 2, 3, 10, 11, 12, 13, 14, 67]
def m_laws_FnExactPlanMembers_40 : Unit → MCode := fun _ => .region [] [⟨(some 8), .mv (.const (.bool false)), none, []⟩] [8]
def m_laws_FnExactPlanMembers_41 : Unit → MCode := fun _ => .seq m_laws_FnExactPlanMembers_40 (fun _ => .ret)
def m_laws_FnExactPlanMembers_42 : Unit → MCode := fun _ => .cond (.tmp 67) m_laws_FnExactPlanMembers_41 (fun _ => .skip)
def m_laws_FnExactPlanMembers_43 : Unit → MCode := fun _ => .seq m_laws_FnExactPlanMembers_39 m_laws_FnExactPlanMembers_42
def m_laws_FnExactPlanMembers_44 : Unit → MCode := fun _ => .region [] [⟨(some 15), .mv (.const (.int .i64 1)), none, []⟩] [0, 1, 2, 3, 10, 11, 12, 13, 14, 15]
def m_laws_FnExactPlanMembers_45 : Unit → MCode := fun _ => .region [] [⟨(some 68), .mv (.tmp 11), none, []⟩,
    ⟨(some 69), .mv (.tmp 15), none, []⟩,
    ⟨(some 70), .callm 16 [(.tmp 68), (.tmp 69)], none, []⟩,
    ⟨(some 15), .mv (.tmp 70), none, []⟩] [0, 1, 2, 3, 10, 12, 13, 14, 15]
def m_laws_FnExactPlanMembers_46 : Unit → MCode := fun _ => .region [] [⟨(some 71), .mv (.tmp 12), none, []⟩,
    ⟨(some 72), .mv (.tmp 15), none, []⟩,
    ⟨(some 73), .callm 17 [(.tmp 71), (.tmp 72)], none, []⟩,
    ⟨(some 15), .mv (.tmp 73), none, []⟩] [0, 1, 2, 3, 10, 13, 14, 15]
def m_laws_FnExactPlanMembers_47 : Unit → MCode := fun _ => .region [] [⟨(some 74), .mv (.tmp 13), none, []⟩,
    ⟨(some 75), .mv (.tmp 15), none, []⟩,
    ⟨(some 76), .callm 17 [(.tmp 74), (.tmp 75)], none, []⟩,
    ⟨(some 15), .mv (.tmp 76), none, []⟩] [0, 1, 2, 3, 10, 14, 15]
def m_laws_FnExactPlanMembers_48 : Unit → MCode := fun _ => .region [] [⟨(some 77), .mv (.tmp 15), none, []⟩,
    ⟨(some 78), .bin .lss (.tmp 77) (.const (.int .i64 0)), none, []⟩,
    ⟨(some 79), .mv (.tmp 78), none, []⟩,
    ⟨(some 80), .mv (.tmp 14), (some (79, false)), []⟩,
    ⟨(some 81), .mv (.tmp 10), (some (79, false)), []⟩,
    ⟨(some 82), .call 14 [(.tmp 80), (.tmp 81)], (some (79, false)), []⟩,
    ⟨(some 83), .not (.tmp 82), (some (79, false)), []⟩,
    ⟨(some 84), .pick (.tmp 79) (.const (.bool true)) (.tmp 83), none, []⟩] [0, 1, 2, 3, 10, 14, 84]
def m_laws_FnExactPlanMembers_49 : Unit → MCode := fun _ => .region [] [⟨(some 8), .mv (.const (.bool false)), none, []⟩] [8]
def m_laws_FnExactPlanMembers_50 : Unit → MCode := fun _ => .seq m_laws_FnExactPlanMembers_49 (fun _ => .ret)
def m_laws_FnExactPlanMembers_51 : Unit → MCode := fun _ => .cond (.tmp 84) m_laws_FnExactPlanMembers_50 (fun _ => .skip)
def m_laws_FnExactPlanMembers_52 : Unit → MCode := fun _ => .seq m_laws_FnExactPlanMembers_48 m_laws_FnExactPlanMembers_51
def m_laws_FnExactPlanMembers_53 : Unit → MCode := fun _ => .region [] [⟨(some 16), .mv (.const (.int .i64 1)), none, []⟩] [0, 1, 2, 3, 10, 14, 16]
def m_laws_FnExactPlanMembers_54 : Unit → MCode := fun _ => .region [] [⟨(some 85), .mv (.tmp 14), none, []⟩,
    ⟨(some 86), .mv (.tmp 16), none, []⟩,
    ⟨(some 87), .callm 17 [(.tmp 85), (.tmp 86)], none, []⟩,
    ⟨(some 16), .mv (.tmp 87), none, []⟩] [0, 1, 2, 3, 10, 14, 16]
def m_laws_FnExactPlanMembers_55 : Unit → MCode := fun _ => .region [] [⟨(some 17), .mv (.const (.int .i64 1)), none, []⟩] [0, 1, 2, 3, 10, 14, 16, 17]
def m_laws_FnExactPlanMembers_56 : Unit → MCode := fun _ => .region [] [⟨(some 88), .mv (.tmp 14), none, []⟩,
    ⟨(some 89), .mv (.tmp 17), none, []⟩,
    ⟨(some 90), .call 18 [(.tmp 88), (.tmp 89)], none, []⟩,
    ⟨(some 17), .mv (.tmp 90), none, []⟩] [0, 1, 2, 3, 10, 14, 16, 17]
def m_laws_FnExactPlanMembers_57 : Unit → MCode := fun _ => .region [] [⟨(some 91), .mv (.tmp 17), none, []⟩,
    ⟨(some 92), .bin .lss (.tmp 91) (.const (.int .i64 0)), none, []⟩] [0, 1, 2, 3, 10, 14, 16, 17, 92]
def m_laws_FnExactPlanMembers_58 : Unit → MCode := fun _ => .region [] [⟨(some 8), .mv (.const (.bool false)), none, []⟩] [8]
def m_laws_FnExactPlanMembers_59 : Unit → MCode := fun _ => .seq m_laws_FnExactPlanMembers_58 (fun _ => .ret)
def m_laws_FnExactPlanMembers_60 : Unit → MCode := fun _ => .cond (.tmp 92) m_laws_FnExactPlanMembers_59 (fun _ => .skip)
def m_laws_FnExactPlanMembers_61 : Unit → MCode := fun _ => .seq m_laws_FnExactPlanMembers_57 m_laws_FnExactPlanMembers_60
def m_laws_FnExactPlanMembers_62 : Unit → MCode := fun _ => .region [] [⟨(some 93), .mv (.tmp 17), none, []⟩,
    ⟨(some 94), .mv (.tmp 16), none, []⟩,
    ⟨(some 95), .bin .neq (.tmp 93) (.tmp 94), none, []⟩] [0, 1, 2, 3, 10, 14, 16, 95]
def m_laws_FnExactPlanMembers_63 : Unit → MCode := fun _ => .region [] [⟨(some 8), .mv (.const (.bool false)), none, []⟩] [8]
def m_laws_FnExactPlanMembers_64 : Unit → MCode := fun _ => .seq m_laws_FnExactPlanMembers_63 (fun _ => .ret)
def m_laws_FnExactPlanMembers_65 : Unit → MCode := fun _ => .cond (.tmp 95) m_laws_FnExactPlanMembers_64 (fun _ => .skip)
def m_laws_FnExactPlanMembers_66 : Unit → MCode := fun _ => .seq m_laws_FnExactPlanMembers_62 m_laws_FnExactPlanMembers_65
def m_laws_FnExactPlanMembers_67 : Unit → MCode := fun _ => .region [] [⟨(some 96), .mv (.tmp 0), none, []⟩,
    ⟨(some 97), .call 11 [(.tmp 96)], none, []⟩,
    ⟨(some 98), .mv (.tmp 1), none, []⟩,
    ⟨(some 99), .call 12 [(.tmp 98)], none, []⟩,
    ⟨(some 100), .mv (.tmp 2), none, []⟩,
    ⟨(some 101), .call 12 [(.tmp 100)], none, []⟩,
    ⟨(some 102), .mv (.tmp 3), none, []⟩,
    ⟨(some 103), .call 13 [(.tmp 97), (.tmp 99), (.tmp 101), (.tmp 102)], none, []⟩,
    ⟨(some 18), .mv (.tmp 103), none, []⟩] [10, 14, 16, 18]
def m_laws_FnExactPlanMembers_68 : Unit → MCode := fun _ => .region [] [⟨(some 104), .mv (.tmp 18), none, []⟩,
    ⟨(some 105), .mv (.tmp 10), none, []⟩,
    ⟨(some 106), .call 14 [(.tmp 104), (.tmp 105)], none, []⟩,
    ⟨(some 107), .not (.tmp 106), none, []⟩] [14, 16, 107]
def m_laws_FnExactPlanMembers_69 : Unit → MCode := fun _ => .region [] [⟨(some 8), .mv (.const (.bool false)), none, []⟩] [8]
def m_laws_FnExactPlanMembers_70 : Unit → MCode := fun _ => .seq m_laws_FnExactPlanMembers_69 (fun _ => .ret)
def m_laws_FnExactPlanMembers_71 : Unit → MCode := fun _ => .cond (.tmp 107) m_laws_FnExactPlanMembers_70 (fun _ => .skip)
def m_laws_FnExactPlanMembers_72 : Unit → MCode := fun _ => .seq m_laws_FnExactPlanMembers_68 m_laws_FnExactPlanMembers_71
def m_laws_FnExactPlanMembers_73 : Unit → MCode := fun _ => .region [] [⟨(some 17), .mv (.const (.int .i64 1)), none, []⟩] [14, 16, 17]
def m_laws_FnExactPlanMembers_74 : Unit → MCode := fun _ => .region [] [⟨(some 108), .mv (.tmp 14), none, []⟩,
    ⟨(some 109), .mv (.tmp 17), none, []⟩,
    ⟨(some 110), .call 18 [(.tmp 108), (.tmp 109)], none, []⟩,
    ⟨(some 17), .mv (.tmp 110), none, []⟩] [16, 17]
def m_laws_FnExactPlanMembers_75 : Unit → MCode := fun _ => .region [] [⟨(some 111), .mv (.tmp 17), none, []⟩,
    ⟨(some 112), .bin .lss (.tmp 111) (.const (.int .i64 0)), none, []⟩] [16, 17, 112]
def m_laws_FnExactPlanMembers_76 : Unit → MCode := fun _ => .region [] [⟨(some 8), .mv (.const (.bool false)), none, []⟩] [8]
def m_laws_FnExactPlanMembers_77 : Unit → MCode := fun _ => .seq m_laws_FnExactPlanMembers_76 (fun _ => .ret)
def m_laws_FnExactPlanMembers_78 : Unit → MCode := fun _ => .cond (.tmp 112) m_laws_FnExactPlanMembers_77 (fun _ => .skip)
def m_laws_FnExactPlanMembers_79 : Unit → MCode := fun _ => .seq m_laws_FnExactPlanMembers_75 m_laws_FnExactPlanMembers_78
def m_laws_FnExactPlanMembers_80 : Unit → MCode := fun _ => .region [] [⟨(some 113), .mv (.tmp 17), none, []⟩,
    ⟨(some 114), .mv (.tmp 16), none, []⟩,
    ⟨(some 115), .bin .neq (.tmp 113) (.tmp 114), none, []⟩] [115]
def m_laws_FnExactPlanMembers_81 : Unit → MCode := fun _ => .region [] [⟨(some 8), .mv (.const (.bool false)), none, []⟩] [8]
def m_laws_FnExactPlanMembers_82 : Unit → MCode := fun _ => .seq m_laws_FnExactPlanMembers_81 (fun _ => .ret)
def m_laws_FnExactPlanMembers_83 : Unit → MCode := fun _ => .cond (.tmp 115) m_laws_FnExactPlanMembers_82 (fun _ => .skip)
def m_laws_FnExactPlanMembers_84 : Unit → MCode := fun _ => .seq m_laws_FnExactPlanMembers_80 m_laws_FnExactPlanMembers_83
def m_laws_FnExactPlanMembers_85 : Unit → MCode := fun _ => .region [] [⟨(some 8), .mv (.const (.bool true)), none, []⟩] [8]
def m_laws_FnExactPlanMembers_86 : Unit → MCode := fun _ => .seq m_laws_FnExactPlanMembers_85 (fun _ => .ret)
def m_laws_FnExactPlanMembers_87 : Unit → MCode := fun _ => .seq m_laws_FnExactPlanMembers_84 m_laws_FnExactPlanMembers_86
def m_laws_FnExactPlanMembers_88 : Unit → MCode := fun _ => .seq m_laws_FnExactPlanMembers_79 m_laws_FnExactPlanMembers_87
def m_laws_FnExactPlanMembers_89 : Unit → MCode := fun _ => .seq m_laws_FnExactPlanMembers_74 m_laws_FnExactPlanMembers_88
def m_laws_FnExactPlanMembers_90 : Unit → MCode := fun _ => .seq m_laws_FnExactPlanMembers_73 m_laws_FnExactPlanMembers_89
def m_laws_FnExactPlanMembers_91 : Unit → MCode := fun _ => .seq m_laws_FnExactPlanMembers_72 m_laws_FnExactPlanMembers_90
def m_laws_FnExactPlanMembers_92 : Unit → MCode := fun _ => .seq m_laws_FnExactPlanMembers_67 m_laws_FnExactPlanMembers_91
def m_laws_FnExactPlanMembers_93 : Unit → MCode := fun _ => .seq m_laws_FnExactPlanMembers_66 m_laws_FnExactPlanMembers_92
def m_laws_FnExactPlanMembers_94 : Unit → MCode := fun _ => .seq m_laws_FnExactPlanMembers_61 m_laws_FnExactPlanMembers_93
def m_laws_FnExactPlanMembers_95 : Unit → MCode := fun _ => .seq m_laws_FnExactPlanMembers_56 m_laws_FnExactPlanMembers_94
def m_laws_FnExactPlanMembers_96 : Unit → MCode := fun _ => .seq m_laws_FnExactPlanMembers_55 m_laws_FnExactPlanMembers_95
def m_laws_FnExactPlanMembers_97 : Unit → MCode := fun _ => .seq m_laws_FnExactPlanMembers_54 m_laws_FnExactPlanMembers_96
def m_laws_FnExactPlanMembers_98 : Unit → MCode := fun _ => .seq m_laws_FnExactPlanMembers_53 m_laws_FnExactPlanMembers_97
def m_laws_FnExactPlanMembers_99 : Unit → MCode := fun _ => .seq m_laws_FnExactPlanMembers_52 m_laws_FnExactPlanMembers_98
def m_laws_FnExactPlanMembers_100 : Unit → MCode := fun _ => .seq m_laws_FnExactPlanMembers_47 m_laws_FnExactPlanMembers_99
def m_laws_FnExactPlanMembers_101 : Unit → MCode := fun _ => .seq m_laws_FnExactPlanMembers_46 m_laws_FnExactPlanMembers_100
def m_laws_FnExactPlanMembers_102 : Unit → MCode := fun _ => .seq m_laws_FnExactPlanMembers_45 m_laws_FnExactPlanMembers_101
def m_laws_FnExactPlanMembers_103 : Unit → MCode := fun _ => .seq m_laws_FnExactPlanMembers_44 m_laws_FnExactPlanMembers_102
def m_laws_FnExactPlanMembers_104 : Unit → MCode := fun _ => .seq m_laws_FnExactPlanMembers_43 m_laws_FnExactPlanMembers_103
def m_laws_FnExactPlanMembers_105 : Unit → MCode := fun _ => .seq m_laws_FnExactPlanMembers_38 m_laws_FnExactPlanMembers_104
def m_laws_FnExactPlanMembers_106 : Unit → MCode := fun _ => .seq m_laws_FnExactPlanMembers_33 m_laws_FnExactPlanMembers_105
def m_laws_FnExactPlanMembers_107 : Unit → MCode := fun _ => .seq m_laws_FnExactPlanMembers_28 m_laws_FnExactPlanMembers_106
def m_laws_FnExactPlanMembers_108 : Unit → MCode := fun _ => .seq m_laws_FnExactPlanMembers_23 m_laws_FnExactPlanMembers_107
def m_laws_FnExactPlanMembers_109 : Unit → MCode := fun _ => .seq m_laws_FnExactPlanMembers_22 m_laws_FnExactPlanMembers_108
def m_laws_FnExactPlanMembers_110 : Unit → MCode := fun _ => .seq m_laws_FnExactPlanMembers_21 m_laws_FnExactPlanMembers_109
def m_laws_FnExactPlanMembers_111 : Unit → MCode := fun _ => .seq m_laws_FnExactPlanMembers_20 m_laws_FnExactPlanMembers_110
def m_laws_FnExactPlanMembers_112 : Unit → MCode := fun _ => .seq m_laws_FnExactPlanMembers_19 m_laws_FnExactPlanMembers_111
def m_laws_FnExactPlanMembers_113 : Unit → MCode := fun _ => .seq m_laws_FnExactPlanMembers_18 m_laws_FnExactPlanMembers_112
def m_laws_FnExactPlanMembers_114 : Unit → MCode := fun _ => .seq m_laws_FnExactPlanMembers_13 m_laws_FnExactPlanMembers_113
def m_laws_FnExactPlanMembers_115 : Unit → MCode := fun _ => .seq m_laws_FnExactPlanMembers_12 m_laws_FnExactPlanMembers_114
def m_laws_FnExactPlanMembers_116 : Unit → MCode := fun _ => .seq m_laws_FnExactPlanMembers_11 m_laws_FnExactPlanMembers_115
def m_laws_FnExactPlanMembers_117 : Unit → MCode := fun _ => .seq m_laws_FnExactPlanMembers_6 m_laws_FnExactPlanMembers_116
def m_laws_FnExactPlanMembers_118 : Unit → MCode := fun _ => .seq m_laws_FnExactPlanMembers_1 m_laws_FnExactPlanMembers_117
def m_laws_FnExactPlanMembers : MCode := m_laws_FnExactPlanMembers_118 ()
def h_laws_FnExactPlanMembers : Hints := [(0, [0, 1, 2, 3], [], [], []), (1, [0, 1, 2, 3, 21], [], [], []), (2, [8], [], [], []), (3, [0, 1, 2, 3, 24], [], [], []), (4, [8], [], [], []), (5, [0, 1, 2, 3, 9], [], [], []), (6, [0, 1, 2, 3, 9], [], [], []), (7, [0, 1, 2, 3, 29], [], [], []), (8, [8], [], [], []), (9, [0, 1, 2, 3, 10], [], [], []), (10, [0, 1, 2, 3, 10, 11], [], [], []), (11, [0, 1, 2, 3, 10, 11, 12], [], [], []), (12, [0, 1, 2, 3, 10, 11, 12, 13], [], [], []), (13, [0, 1, 2, 3, 10, 11, 12, 13, 14], [], [], []), (14, [0, 1, 2, 3, 10, 11, 12, 13, 14, 52], [], [], []), (15, [8], [], [], []), (16, [0, 1, 2, 3, 10, 11, 12, 13, 14, 57], [], [], []), (17, [8], [], [], []), (18, [0, 1, 2, 3, 10, 11, 12, 13, 14, 62], [], [], []), (19, [8], [], [], []), (20, [0, 1, 2, 3, 10, 11, 12, 13, 14, 67], [], [], []), (21, [8], [], [], []), (22, [0, 1, 2, 3, 10, 11, 12, 13, 14, 15], [], [], []), (23, [0, 1, 2, 3, 10, 12, 13, 14, 15], [], [], []), (24, [0, 1, 2, 3, 10, 13, 14, 15], [], [], []), (25, [0, 1, 2, 3, 10, 14, 15], [], [], []), (26, [0, 1, 2, 3, 10, 14, 84], [], [], []), (27, [8], [], [], []), (28, [0, 1, 2, 3, 10, 14, 16], [], [], []), (29, [0, 1, 2, 3, 10, 14, 16], [], [], []), (30, [0, 1, 2, 3, 10, 14, 16, 17], [], [], []), (31, [0, 1, 2, 3, 10, 14, 16, 17], [], [], []), (32, [0, 1, 2, 3, 10, 14, 16, 17, 92], [], [], []), (33, [8], [], [], []), (34, [0, 1, 2, 3, 10, 14, 16, 95], [], [], []), (35, [8], [], [], []), (36, [10, 14, 16, 18], [], [], []), (37, [14, 16, 107], [], [], []), (38, [8], [], [], []), (39, [14, 16, 17], [], [], []), (40, [16, 17], [], [], []), (41, [16, 17, 112], [], [], []), (42, [8], [], [], []), (43, [115], [], [], []), (44, [8], [], [], []), (45, [8], [], [], [])]
def r_laws_FnExactPlanMembers : List RV := [.t 8]
abbrev n_laws_FnExactPlanMembers : Nat := 3
theorem k_laws_FnExactPlanMembers : Known Pr mu n_laws_FnExactPlanMembers m_laws_FnExactPlanMembers r_laws_FnExactPlanMembers Go.Proofs.Try.f3.ntmps := .of h_laws_FnExactPlanMembers hm Go.Proofs.Try.func3 (by kernel_rfl) (by kernel_rfl) (by kernel_rfl) (by kernel_rfl)
def m_laws_szPlaceS_1 : Unit → MCode := fun _ => .region [] [⟨(some 4), .mv (.const (.int .i64 0)), none, []⟩] [0, 1]
def m_laws_szPlaceS_2 : Unit → MCode := fun _ => .region [] [⟨(some 5), .mv (.tmp 1), none, []⟩,
    ⟨(some 6), .mv (.tmp 0), none, []⟩,
    ⟨(some 7), .len false (.tmp 6), none, []⟩,
    ⟨(some 8), .bin .sub (.tmp 5) (.tmp 7), none, []⟩,
    ⟨(some 1), .mv (.tmp 8), none, []⟩] [1]
def m_laws_szPlaceS_3 : Unit → MCode := fun _ => .region [] [⟨(some 9), .mv (.tmp 1), none, []⟩,
    ⟨(some 10), .bin .lss (.tmp 9) (.const (.int .i64 0)), none, []⟩] [1, 10]
def m_laws_szPlaceS_4 : Unit → MCode := fun _ => .region [] [⟨(some 4), .mv (.const (.int .i64 (-1))), none, []⟩] [4]
def m_laws_szPlaceS_5 : Unit → MCode := fun _ => .seq m_laws_szPlaceS_4 (fun _ => .ret)
def m_laws_szPlaceS_6 : Unit → MCode := fun _ => .cond (.tmp 10) m_laws_szPlaceS_5 (fun _ => .skip)
def m_laws_szPlaceS_7 : Unit → MCode := fun _ => .seq m_laws_szPlaceS_3 m_laws_szPlaceS_6
def m_laws_szPlaceS_8 : Unit → MCode := fun _ => .region [] [⟨(some 11), .mv (.tmp 1), none, []⟩,
    ⟨(some 4), .mv (.tmp 11), none, []⟩] [4]
def m_laws_szPlaceS_9 : Unit → MCode := fun _ => .seq m_laws_szPlaceS_8 (fun _ => .ret)
def m_laws_szPlaceS_10 : Unit → MCode := fun _ => .seq m_laws_szPlaceS_7 m_laws_szPlaceS_9
def m_laws_szPlaceS_11 : Unit → MCode := fun _ => .seq m_laws_szPlaceS_2 m_laws_szPlaceS_10
def m_laws_szPlaceS_12 : Unit → MCode := fun _ => .seq m_laws_szPlaceS_1 m_laws_szPlaceS_11
def m_laws_szPlaceS : MCode := m_laws_szPlaceS_12 ()
def h_laws_szPlaceS : Hints := [(0, [0, 1], [], [], []), (1, [1], [], [], []), (2, [1, 10], [], [], []), (3, [4], [], [], []), (4, [4], [], [], [])]
def r_laws_szPlaceS : List RV := [.t 4]
abbrev n_laws_szPlaceS : Nat := 9
theorem k_laws_szPlaceS : Known Pr mu n_laws_szPlaceS m_laws_szPlaceS r_laws_szPlaceS Go.Proofs.Try.f9.ntmps := .of h_laws_szPlaceS hm Go.Proofs.Try.func9 (by kernel_rfl) (by kernel_rfl) (by kernel_rfl) (by kernel_rfl)
def m_spec_PlanMembers_1 : Unit → MCode := fun _ => .region [] [⟨(some 8), .mv (.const (.slice none 0 0)), none, []⟩] [0, 1, 2, 3]
def m_spec_PlanMembers_2 : Unit → MCode := fun _ => .region [] [⟨(some 12), .mv (.tmp 1), none, []⟩,
    ⟨(some 13), .mv (.tmp 2), none, []⟩,
    ⟨(some 14), .call 24 [(.tmp 12), (.tmp 13)], none, []⟩,
    ⟨(some 9), .mv (.tmp 14), none, []⟩] [0, 1, 2, 3, 9]
def m_spec_PlanMembers_3 : Unit → MCode := fun _ => .region [] [⟨(some 15), .bsl 1 5 [.int .i64 0] [(0, (.const (.int .i64 0))), (1, (.const (.int .i64 1))), (2, (.const (.int .i64 2))), (3, (.const (.int .i64 3))), (4, (.const (.int .i64 4)))], none, []⟩,
    ⟨(some 16), .mv (.tmp 2), none, []⟩,
    ⟨(some 17), .call 25 [(.tmp 15), (.tmp 16)], none, []⟩,
    ⟨(some 10), .mv (.tmp 17), none, []⟩] [0, 1, 2, 3, 9, 10]
def m_spec_PlanMembers_4 : Unit → MCode := fun _ => .region [] [⟨(some 18), .mv (.tmp 0), none, []⟩,
    ⟨(some 19), .call 22 [(.tmp 18)], none, []⟩,
    ⟨(some 20), .not (.tmp 19), none, []⟩,
    ⟨(some 21), .mv (.tmp 20), none, []⟩,
    ⟨(some 22), .mv (.tmp 1), (some (21, false)), []⟩,
    ⟨(some 23), .call 23 [(.tmp 22)], (some (21, false)), []⟩,
    ⟨(some 24), .not (.tmp 23), (some (21, false)), []⟩,
    ⟨(some 25), .pick (.tmp 21) (.const (.bool true)) (.tmp 24), none, []⟩,
    ⟨(some 26), .mv (.tmp 25), none, []⟩,
    ⟨(some 27), .mv (.tmp 2), (some (26, false)), []⟩,
    ⟨(some 28), .call 23 [(.tmp 27)], (some (26, false)), []⟩,
    ⟨(some 29), .not (.tmp 28), (some (26, false)), []⟩,
    ⟨(some 30), .pick (.tmp 26) (.const (.bool true)) (.tmp 29), none, []⟩,
    ⟨(some 31), .mv (.tmp 30), none, []⟩,
    ⟨(some 32), .mv (.tmp 3), (some (31, false)), []⟩,
    ⟨(some 33), .call 59 [(.tmp 32), (.const (.int .i64 0)), (.const (.int .i64 5))], (some (31, false)), []⟩,
    ⟨(some 34), .not (.tmp 33), (some (31, false)), []⟩,
    ⟨(some 35), .pick (.tmp 31) (.const (.bool true)) (.tmp 34), none, []⟩] [0, 3, 9, 10, 35]
def m_spec_PlanMembers_5 : Unit → MCode := fun _ => .region [] [⟨(some 36), .bsl 1 0 [.int .i64 0] [], none, []⟩,
    ⟨(some 8), .mv (.tmp 36), none, []⟩] [8]
def m_spec_PlanMembers_6 : Unit → MCode := fun _ => .seq m_spec_PlanMembers_5 (fun _ => .ret)
def m_spec_PlanMembers_7 : Unit → MCode := fun _ => .cond (.tmp 35) m_spec_PlanMembers_6 (fun _ => .skip)
def m_spec_PlanMembers_8 : Unit → MCode := fun _ => .seq m_spec_PlanMembers_4 m_spec_PlanMembers_7
def m_spec_PlanMembers_9 : Unit → MCode := fun _ => .region [] [⟨(some 37), .mv (.tmp 9), none, []⟩,
    ⟨(some 38), .len false (.tmp 37), none, []⟩,
    ⟨(some 39), .mv (.tmp 3), none, []⟩,
    ⟨(some 40), .bin .lss (.tmp 38) (.tmp 39), none, []⟩] [0, 3, 9, 10, 40]
def m_spec_PlanMembers_10 : Unit → MCode := fun _ => .cond (.tmp 40) (fun _ => .skip) (fun _ => .exit 0)
def m_spec_PlanMembers_11 : Unit → MCode := fun _ => .seq m_spec_PlanMembers_9 m_spec_PlanMembers_10
def m_spec_PlanMembers_12 : Unit → MCode := fun _ => .region [] [⟨(some 41), .mv (.tmp 0), none, []⟩,
    ⟨(some 42), .mv (.tmp 9), none, []⟩,
    ⟨(some 43), .mv (.tmp 10), none, []⟩,
    ⟨(some 44), .call 31 [(.tmp 41), (.tmp 42), (.tmp 43)], none, []⟩,
    ⟨(some 11), .mv (.tmp 44), none, []⟩] [0, 3, 9, 10, 11]
def m_spec_PlanMembers_13 : Unit → MCode := fun _ => .region [] [⟨(some 45), .mv (.tmp 11), none, []⟩,
    ⟨(some 46), .bin .lss (.tmp 45) (.const (.int .i64 0)), none, []⟩] [0, 3, 9, 10, 11, 46]
def m_spec_PlanMembers_14 : Unit → MCode := fun _ => .region [] [⟨(some 47), .mv (.tmp 9), none, []⟩,
    ⟨(some 8), .mv (.tmp 47), none, []⟩] [8]
def m_spec_PlanMembers_15 : Unit → MCode := fun _ => .seq m_spec_PlanMembers_14 (fun _ => .ret)
def m_spec_PlanMembers_16 : Unit → MCode := fun _ => .cond (.tmp 46) m_spec_PlanMembers_15 (fun _ => .skip)
def m_spec_PlanMembers_17 : Unit → MCode := fun _ => .seq m_spec_PlanMembers_13 m_spec_PlanMembers_16
def m_spec_PlanMembers_18 : Unit → MCode := fun _ => .region [] [⟨(some 48), .mv (.tmp 9), none, []⟩,
    ⟨(some 49), .mv (.tmp 11), none, []⟩,
    ⟨(some 50), .call 60 [(.tmp 48), (.tmp 49)], none, []⟩,
    ⟨(some 9), .mv (.tmp 50), none, []⟩] [0, 3, 9, 10]
def m_spec_PlanMembers_19 : Unit → MCode := fun _ => .seq m_spec_PlanMembers_17 m_spec_PlanMembers_18
def m_spec_PlanMembers_20 : Unit → MCode := fun _ => .seq m_spec_PlanMembers_12 m_spec_PlanMembers_19
def m_spec_PlanMembers_21 : Unit → MCode := fun _ => .block 1 m_spec_PlanMembers_20
def m_spec_PlanMembers_22 : Unit → MCode := fun _ => .seq m_spec_PlanMembers_11 m_spec_PlanMembers_21
def m_spec_PlanMembers_23 : Unit → MCode := fun _ => .loop m_spec_PlanMembers_22
def m_spec_PlanMembers_24 : Unit → MCode := fun _ => .block 0 m_spec_PlanMembers_23
def m_spec_PlanMembers_25 : Unit → MCode := fun _ => .region [] [⟨(some 51), .mv (.tmp 9), none, []⟩,
    ⟨(some 8), .mv (.tmp 51), none, []⟩] [8]
def m_spec_PlanMembers_26 : Unit → MCode := fun _ => .seq m_spec_PlanMembers_25 (fun _ => .ret)
def m_spec_PlanMembers_27 : Unit → MCode := fun _ => .seq m_spec_PlanMembers_24 m_spec_PlanMembers_26
def m_spec_PlanMembers_28 : Unit → MCode := fun _ => .seq m_spec_PlanMembers_8 m_spec_PlanMembers_27
def m_spec_PlanMembers_29 : Unit → MCode := fun _ => .seq m_spec_PlanMembers_3 m_spec_PlanMembers_28
def m_spec_PlanMembers_30 : Unit → MCode := fun _ => .seq m_spec_PlanMembers_2 m_spec_PlanMembers_29
def m_spec_PlanMembers_31 : Unit → MCode := fun _ => .seq m_spec_PlanMembers_1 m_spec_PlanMembers_30
def m_spec_PlanMembers : MCode := m_spec_PlanMembers_31 ()
def h_spec_PlanMembers : Hints := [(0, [0, 1, 2, 3], [], [], []), (1, [0, 1, 2, 3, 9], [], [], []), (2, [0, 1, 2, 3, 9, 10], [], [], []), (3, [0, 3, 9, 10, 35], [], [], []), (4, [8], [], [], []), (5, [0, 3, 9, 10, 40], [], [], []), (6, [0, 3, 9, 10, 11], [], [], []), (7, [0, 3, 9, 10, 11, 46], [], [], []), (8, [8], [], [], []), (9, [0, 3, 9, 10], [], [], []), (10, [8], [], [], [])]
def r_spec_PlanMembers : List RV := [.t 8]
abbrev n_spec_PlanMembers : Nat := 10
theorem k_spec_PlanMembers : Known Pr mu n_spec_PlanMembers m_spec_PlanMembers r_spec_PlanMembers Go.Proofs.Try.f10.ntmps := .of h_spec_PlanMembers hm Go.Proofs.Try.func10 (by kernel_rfl) (by kernel_rfl) (by kernel_rfl) (by kernel_rfl)
def m_laws_toPlaceS_1 : Unit → MCode := fun _ => .region [] [⟨(some 2), .mv (.const (.slice none 0 0)), none, []⟩] [0]
def m_laws_toPlaceS_2 : Unit → MCode := fun _ => .region [] [⟨(some 5), .mv (.tmp 0), none, []⟩,
    ⟨(some 6), .len false (.tmp 5), none, []⟩,
    ⟨(some 7), .mks 3 24 [.int .i64 0, .int .i64 0, .int .i64 0] (.tmp 6) (.tmp 6), none, []⟩,
    ⟨(some 3), .mv (.tmp 7), none, []⟩] [0, 3]
def m_laws_toPlaceS_3 : Unit → MCode := fun _ => .region [] [⟨(some 4), .mv (.const (.int .i64 0)), none, []⟩] [0, 3, 4]
def m_laws_toPlaceS_4 : Unit → MCode := fun _ => .region [] [⟨(some 8), .mv (.tmp 4), none, []⟩,
    ⟨(some 9), .mv (.tmp 0), none, []⟩,
    ⟨(some 10), .len false (.tmp 9), none, []⟩,
    ⟨(some 11), .bin .lss (.tmp 8) (.tmp 10), none, []⟩] [0, 3, 4, 11]
def m_laws_toPlaceS_5 : Unit → MCode := fun _ => .cond (.tmp 11) (fun _ => .skip) (fun _ => .exit 0)
def m_laws_toPlaceS_6 : Unit → MCode := fun _ => .seq m_laws_toPlaceS_4 m_laws_toPlaceS_5
def m_laws_toPlaceS_7 : Unit → MCode := fun _ => .region [] [⟨(some 14), .mv (.tmp 3), none, []⟩,
    ⟨(some 15), .mv (.tmp 4), none, []⟩,
    ⟨(some 16), .mv (.tmp 0), none, []⟩,
    ⟨(some 17), .mv (.tmp 4), none, []⟩,
    ⟨(some 18), .ia (.tmp 16) (.tmp 17) 3, none, []⟩,
    ⟨(some 19), .ld (.tmp 18) 3 true, none, []⟩,
    ⟨(some 20), .call 61 [(.tmp 19)], none, []⟩,
    ⟨(some 21), .ia (.tmp 14) (.tmp 15) 3, none, []⟩,
    ⟨none, .sto (.tmp 21) (.tmp 20) 3, none, []⟩] [0, 3, 4]
def m_laws_toPlaceS_8 : Unit → MCode := fun _ => .block 1 m_laws_toPlaceS_7
def m_laws_toPlaceS_9 : Unit → MCode := fun _ => .region [] [⟨(some 12), .mv (.tmp 4), none, []⟩,
    ⟨(some 13), .bin .add (.tmp 12) (.const (.int .i64 1)), none, []⟩,
    ⟨(some 4), .mv (.tmp 13), none, []⟩] [0, 3, 4]
def m_laws_toPlaceS_10 : Unit → MCode := fun _ => .seq m_laws_toPlaceS_8 m_laws_toPlaceS_9
def m_laws_toPlaceS_11 : Unit → MCode := fun _ => .seq m_laws_toPlaceS_6 m_laws_toPlaceS_10
def m_laws_toPlaceS_12 : Unit → MCode := fun _ => .loop m_laws_toPlaceS_11
def m_laws_toPlaceS_13 : Unit → MCode := fun _ => .block 0 m_laws_toPlaceS_12
def m_laws_toPlaceS_14 : Unit → MCode := fun _ => .seq m_laws_toPlaceS_3 m_laws_toPlaceS_13
def m_laws_toPlaceS_15 : Unit → MCode := fun _ => .region [] [⟨(some 22), .mv (.tmp 3), none, []⟩,
    ⟨(some 2), .mv (.tmp 22), none, []⟩] [2]
def m_laws_toPlaceS_16 : Unit → MCode := fun _ => .seq m_laws_toPlaceS_15 (fun _ => .ret)
def m_laws_toPlaceS_17 : Unit → MCode := fun _ => .seq m_laws_toPlaceS_14 m_laws_toPlaceS_16
def m_laws_toPlaceS_18 : Unit → MCode := fun _ => .seq m_laws_toPlaceS_2 m_laws_toPlaceS_17
def m_laws_toPlaceS_19 : Unit → MCode := fun _ => .seq m_laws_toPlaceS_1 m_laws_toPlaceS_18
def m_laws_toPlaceS : MCode := m_laws_toPlaceS_19 ()
def h_laws_toPlaceS : Hints := [(0, [0], [], [], []), (1, [0, 3], [], [], []), (2, [0, 3, 4], [], [], []), (3, [0, 3, 4, 11], [], [], []), (5, [0, 3, 4], [], [], []), (4, [0, 3, 4], [], [], []), (6, [2], [], [], [])]
def r_laws_toPlaceS : List RV := [.t 2]
abbrev n_laws_toPlaceS : Nat := 11
theorem k_laws_toPlaceS : Known Pr mu n_laws_toPlaceS m_laws_toPlaceS r_laws_toPlaceS Go.Proofs.Try.f11.ntmps := .of h_laws_toPlaceS hm Go.Proofs.Try.func11 (by kernel_rfl) (by kernel_rfl) (by kernel_rfl) (by kernel_rfl)
def m_laws_toIntS_1 : Unit → MCode := fun _ => .region [] [⟨(some 2), .mv (.const (.slice none 0 0)), none, []⟩] [0]
def m_laws_toIntS_2 : Unit → MCode := fun _ => .region [] [⟨(some 5), .mv (.tmp 0), none, []⟩,
    ⟨(some 6), .len false (.tmp 5), none, []⟩,
    ⟨(some 7), .mks 1 8 [.int .i64 0] (.tmp 6) (.tmp 6), none, []⟩,
    ⟨(some 3), .mv (.tmp 7), none, []⟩] [0, 3]
def m_laws_toIntS_3 : Unit → MCode := fun _ => .region [] [⟨(some 4), .mv (.const (.int .i64 0)), none, []⟩] [0, 3, 4]
def m_laws_toIntS_4 : Unit → MCode := fun _ => .region [] [⟨(some 8), .mv (.tmp 4), none, []⟩,
    ⟨(some 9), .mv (.tmp 0), none, []⟩,
    ⟨(some 10), .len false (.tmp 9), none, []⟩,
    ⟨(some 11), .bin .lss (.tmp 8) (.tmp 10), none, []⟩] [0, 3, 4, 11]
def m_laws_toIntS_5 : Unit → MCode := fun _ => .cond (.tmp 11) (fun _ => .skip) (fun _ => .exit 0)
def m_laws_toIntS_6 : Unit → MCode := fun _ => .seq m_laws_toIntS_4 m_laws_toIntS_5
def m_laws_toIntS_7 : Unit → MCode := fun _ => .region [] [⟨(some 14), .mv (.tmp 3), none, []⟩,
    ⟨(some 15), .mv (.tmp 4), none, []⟩,
    ⟨(some 16), .mv (.tmp 0), none, []⟩,
    ⟨(some 17), .mv (.tmp 4), none, []⟩,
    ⟨(some 18), .ia (.tmp 16) (.tmp 17) 1, none, []⟩,
    ⟨(some 19), .ld (.tmp 18) 1 false, none, []⟩,
    ⟨(some 20), .ia (.tmp 14) (.tmp 15) 1, none, []⟩,
    ⟨none, .sto (.tmp 20) (.tmp 19) 1, none, []⟩] [0, 3, 4]
def m_laws_toIntS_8 : Unit → MCode := fun _ => .block 1 m_laws_toIntS_7
def m_laws_toIntS_9 : Unit → MCode := fun _ => .region [] [⟨(some 12), .mv (.tmp 4), none, []⟩,
    ⟨(some 13), .bin .add (.tmp 12) (.const (.int .i64 1)), none, []⟩,
    ⟨(some 4), .mv (.tmp 13), none, []⟩] [0, 3, 4]
def m_laws_toIntS_10 : Unit → MCode := fun _ => .seq m_laws_toIntS_8 m_laws_toIntS_9
def m_laws_toIntS_11 : Unit → MCode := fun _ => .seq m_laws_toIntS_6 m_laws_toIntS_10
def m_laws_toIntS_12 : Unit → MCode := fun _ => .loop m_laws_toIntS_11
def m_laws_toIntS_13 : Unit → MCode := fun _ => .block 0 m_laws_toIntS_12
def m_laws_toIntS_14 : Unit → MCode := fun _ => .seq m_laws_toIntS_3 m_laws_toIntS_13
def m_laws_toIntS_15 : Unit → MCode := fun _ => .region [] [⟨(some 21), .mv (.tmp 3), none, []⟩,
    ⟨(some 2), .mv (.tmp 21), none, []⟩] [2]
def m_laws_toIntS_16 : Unit → MCode := fun _ => .seq m_laws_toIntS_15 (fun _ => .ret)
def m_laws_toIntS_17 : Unit → MCode := fun _ => .seq m_laws_toIntS_14 m_laws_toIntS_16
def m_laws_toIntS_18 : Unit → MCode := fun _ => .seq m_laws_toIntS_2 m_laws_toIntS_17
def m_laws_toIntS_19 : Unit → MCode := fun _ => .seq m_laws_toIntS_1 m_laws_toIntS_18
def m_laws_toIntS : MCode := m_laws_toIntS_19 ()
def h_laws_toIntS : Hints := [(0, [0], [], [], []), (1, [0, 3], [], [], []), (2, [0, 3, 4], [], [], []), (3, [0, 3, 4, 11], [], [], []), (5, [0, 3, 4], [], [], []), (4, [0, 3, 4], [], [], []), (6, [2], [], [], [])]
def r_laws_toIntS : List RV := [.t 2]
abbrev n_laws_toIntS : Nat := 12
theorem k_laws_toIntS : Known Pr mu n_laws_toIntS m_laws_toIntS r_laws_toIntS Go.Proofs.Try.f12.ntmps := .of h_laws_toIntS hm Go.Proofs.Try.func12 (by kernel_rfl) (by kernel_rfl) (by kernel_rfl) (by kernel_rfl)
def m_impl_PlanMembers_1 : Unit → MCode := fun _ => .region [] [⟨(some 8), .mv (.const (.slice none 0 0)), none, []⟩] [0, 1, 2, 3]
def m_impl_PlanMembers_2 : Unit → MCode := fun _ => .region [] [⟨(some 12), .mv (.tmp 0), none, []⟩,
    ⟨(some 13), .call 62 [(.tmp 12)], none, []⟩,
    ⟨(some 14), .not (.tmp 13), none, []⟩,
    ⟨(some 15), .mv (.tmp 14), none, []⟩,
    ⟨(some 16), .mv (.tmp 1), (some (15, false)), []⟩,
    ⟨(some 17), .call 63 [(.tmp 16)], (some (15, false)), []⟩,
    ⟨(some 18), .not (.tmp 17), (some (15, false)), []⟩,
    ⟨(some 19), .pick (.tmp 15) (.const (.bool true)) (.tmp 18), none, []⟩,
    ⟨(some 20), .mv (.tmp 19), none, []⟩,
    ⟨(some 21), .mv (.tmp 2), (some (20, false)), []⟩,
    ⟨(some 22), .call 63 [(.tmp 21)], (some (20, false)), []⟩,
    ⟨(some 23), .not (.tmp 22), (some (20, false)), []⟩,
    ⟨(some 24), .pick (.tmp 20) (.const (.bool true)) (.tmp 23), none, []⟩,
    ⟨(some 25), .mv (.tmp 24), none, []⟩,
    ⟨(some 26), .mv (.tmp 3), (some (25, false)), []⟩,
    ⟨(some 27), .call 64 [(.tmp 26), (.const (.int .i64 0)), (.const (.int .i64 5))], (some (25, false)), []⟩,
    ⟨(some 28), .not (.tmp 27), (some (25, false)), []⟩,
    ⟨(some 29), .pick (.tmp 25) (.const (.bool true)) (.tmp 28), none, []⟩] [0, 1, 2, 3, 29]
def m_impl_PlanMembers_3 : Unit → MCode := fun _ => .region [] [⟨(some 30), .bsl 1 0 [.int .i64 0] [], none, []⟩,
    ⟨(some 8), .mv (.tmp 30), none, []⟩] [8]
def m_impl_PlanMembers_4 : Unit → MCode := fun _ => .seq m_impl_PlanMembers_3 (fun _ => .ret)
def m_impl_PlanMembers_5 : Unit → MCode := fun _ => .cond (.tmp 29) m_impl_PlanMembers_4 (fun _ => .skip)
def m_impl_PlanMembers_6 : Unit → MCode := fun _ => .seq m_impl_PlanMembers_2 m_impl_PlanMembers_5
def m_impl_PlanMembers_7 : Unit → MCode := fun _ => .region [] [⟨(some 31), .mv (.tmp 1), none, []⟩,
    ⟨(some 32), .mv (.tmp 2), none, []⟩,
    ⟨(some 33), .call 65 [(.tmp 31), (.tmp 32)], none, []⟩,
    ⟨(some 34), .call 67 [], none, []⟩,
    ⟨(some 35), .mv (.tmp 2), none, []⟩,
    ⟨(some 36), .call 66 [(.tmp 34), (.tmp 35)], none, []⟩,
    ⟨(some 9), .mv (.tmp 33), none, []⟩,
    ⟨(some 10), .mv (.tmp 36), none, []⟩] [0, 3, 9, 10]
def m_impl_PlanMembers_8 : Unit → MCode := fun _ => .region [] [⟨(some 37), .mv (.tmp 9), none, []⟩,
    ⟨(some 38), .len false (.tmp 37), none, []⟩,
    ⟨(some 39), .mv (.tmp 3), none, []⟩,
    ⟨(some 40), .bin .lss (.tmp 38) (.tmp 39), none, []⟩] [0, 3, 9, 10, 40]
def m_impl_PlanMembers_9 : Unit → MCode := fun _ => .cond (.tmp 40) (fun _ => .skip) (fun _ => .exit 0)
def m_impl_PlanMembers_10 : Unit → MCode := fun _ => .seq m_impl_PlanMembers_8 m_impl_PlanMembers_9
def m_impl_PlanMembers_11 : Unit → MCode := fun _ => .region [] [⟨(some 41), .mv (.tmp 0), none, []⟩,
    ⟨(some 42), .mv (.tmp 9), none, []⟩,
    ⟨(some 43), .mv (.tmp 10), none, []⟩,
    ⟨(some 44), .call 30 [(.tmp 41), (.tmp 42), (.tmp 43)], none, []⟩,
    ⟨(some 11), .mv (.tmp 44), none, []⟩] [0, 3, 9, 10, 11]
def m_impl_PlanMembers_12 : Unit → MCode := fun _ => .region [] [⟨(some 45), .mv (.tmp 11), none, []⟩,
    ⟨(some 46), .bin .lss (.tmp 45) (.const (.int .i64 0)), none, []⟩] [0, 3, 9, 10, 11, 46]
def m_impl_PlanMembers_13 : Unit → MCode := fun _ => .cond (.tmp 46) (fun _ => .exit 0) (fun _ => .skip)
def m_impl_PlanMembers_14 : Unit → MCode := fun _ => .seq m_impl_PlanMembers_12 m_impl_PlanMembers_13
def m_impl_PlanMembers_15 : Unit → MCode := fun _ => .region [] [⟨(some 47), .mv (.tmp 9), none, []⟩,
    ⟨(some 48), .mv (.tmp 11), none, []⟩,
    ⟨(some 49), .bsl 1 1 [.int .i64 0] [(0, (.tmp 48))], none, []⟩,
    ⟨(some 50), .call 68 [(.tmp 47), (.tmp 49)], none, []⟩,
    ⟨(some 9), .mv (.tmp 50), none, []⟩] [0, 3, 9, 10]
def m_impl_PlanMembers_16 : Unit → MCode := fun _ => .seq m_impl_PlanMembers_14 m_impl_PlanMembers_15
def m_impl_PlanMembers_17 : Unit → MCode := fun _ => .seq m_impl_PlanMembers_11 m_impl_PlanMembers_16
def m_impl_PlanMembers_18 : Unit → MCode := fun _ => .block 1 m_impl_PlanMembers_17
def m_impl_PlanMembers_19 : Unit → MCode := fun _ => .seq m_impl_PlanMembers_10 m_impl_PlanMembers_18
def m_impl_PlanMembers_20 : Unit → MCode := fun _ => .loop m_impl_PlanMembers_19
def m_impl_PlanMembers_21 : Unit → MCode := fun _ => .block 0 m_impl_PlanMembers_20
def m_impl_PlanMembers_22 : Unit → MCode := fun _ => .region [] [⟨(some 51), .mv (.tmp 9), none, []⟩,
    ⟨(some 8), .mv (.tmp 51), none, []⟩] [8]
def m_impl_PlanMembers_23 : Unit → MCode := fun _ => .seq m_impl_PlanMembers_22 (fun _ => .ret)
def m_impl_PlanMembers_24 : Unit → MCode := fun _ => .seq m_impl_PlanMembers_21 m_impl_PlanMembers_23
def m_impl_PlanMembers_25 : Unit → MCode := fun _ => .seq m_impl_PlanMembers_7 m_impl_PlanMembers_24
def m_impl_PlanMembers_26 : Unit → MCode := fun _ => .seq m_impl_PlanMembers_6 m_impl_PlanMembers_25
def m_impl_PlanMembers_27 : Unit → MCode := fun _ => .seq m_impl_PlanMembers_1 m_impl_PlanMembers_26
def m_impl_PlanMembers : MCode := m_impl_PlanMembers_27 ()
def h_impl_PlanMembers : Hints := [(0, [0, 1, 2, 3], [], [], []), (1, [0, 1, 2, 3, 29], [], [], []), (2, [8], [], [], []), (3, [0, 3, 9, 10], [], [], []), (4, [0, 3, 9, 10, 40], [], [], []), (5, [0, 3, 9, 10, 11], [], [], []), (6, [0, 3, 9, 10, 11, 46], [], [], []), (7, [0, 3, 9, 10], [], [], []), (8, [8], [], [], [])]
def r_impl_PlanMembers : List RV := [.t 8]
abbrev n_impl_PlanMembers : Nat := 13
theorem k_impl_PlanMembers : Known Pr mu n_impl_PlanMembers m_impl_PlanMembers r_impl_PlanMembers Go.Proofs.Try.f13.ntmps := .of h_impl_PlanMembers hm Go.Proofs.Try.func13 (by kernel_rfl) (by kernel_rfl) (by kernel_rfl) (by kernel_rfl)
def m_laws_eqIntS_1 : Unit → MCode := fun _ => .region [] [⟨(some 4), .mv (.const (.bool false)), none, []⟩] [0, 1]
def m_laws_eqIntS_2 : Unit → MCode := fun _ => .region [] [⟨(some 6), .mv (.tmp 0), none, []⟩,
    ⟨(some 7), .len false (.tmp 6), none, []⟩,
    ⟨(some 8), .mv (.tmp 1), none, []⟩,
    ⟨(some 9), .len false (.tmp 8), none, []⟩,
    ⟨(some 10), .bin .neq (.tmp 7) (.tmp 9), none, []⟩] [0, 1, 10]
def m_laws_eqIntS_3 : Unit → MCode := fun _ => .region [] [⟨(some 4), .mv (.const (.bool false)), none, []⟩] [4]
def m_laws_eqIntS_4 : Unit → MCode := fun _ => .seq m_laws_eqIntS_3 (fun _ => .ret)
def m_laws_eqIntS_5 : Unit → MCode := fun _ => .cond (.tmp 10) m_laws_eqIntS_4 (fun _ => .skip)
def m_laws_eqIntS_6 : Unit → MCode := fun _ => .seq m_laws_eqIntS_2 m_laws_eqIntS_5
def m_laws_eqIntS_7 : Unit → MCode := fun _ => .region [] [⟨(some 5), .mv (.const (.int .i64 0)), none, []⟩] [0, 1, 5]
def m_laws_eqIntS_8 : Unit → MCode := fun _ => .region [] [⟨(some 11), .mv (.tmp 5), none, []⟩,
    ⟨(some 12), .mv (.tmp 0), none, []⟩,
    ⟨(some 13), .len false (.tmp 12), none, []⟩,
    ⟨(some 14), .bin .lss (.tmp 11) (.tmp 13), none, []⟩] [0, 1, 5, 14]
def m_laws_eqIntS_9 : Unit → MCode := fun _ => .cond (.tmp 14) (fun _ => .skip) (fun _ => .exit 0)
def m_laws_eqIntS_10 : Unit → MCode := fun _ => .seq m_laws_eqIntS_8 m_laws_eqIntS_9
def m_laws_eqIntS_11 : Unit → MCode := fun _ => .region [] [⟨(some 17), .mv (.tmp 0), none, []⟩,
    ⟨(some 18), .mv (.tmp 5), none, []⟩,
    ⟨(some 19), .ia (.tmp 17) (.tmp 18) 1, none, []⟩,
    ⟨(some 20), .ld (.tmp 19) 1 false, none, []⟩,
    ⟨(some 21), .mv (.tmp 1), none, []⟩,
    ⟨(some 22), .mv (.tmp 5), none, []⟩,
    ⟨(some 23), .ia (.tmp 21) (.tmp 22) 1, none, [0, 1, 2, 3]⟩,
    ⟨(some 24), .ld (.tmp 23) 1 false, none, [0, 1, 2, 3]⟩,
    ⟨(some 25), .bin .neq (.tmp 20) (.tmp 24), none, []⟩] [0, 1, 5, 25]
def m_laws_eqIntS_12 : Unit → MCode := fun _ => .region [] [⟨(some 4), .mv (.const (.bool false)), none, []⟩] [4]
def m_laws_eqIntS_13 : Unit → MCode := fun _ => .seq m_laws_eqIntS_12 (fun _ => .ret)
def m_laws_eqIntS_14 : Unit → MCode := fun _ => .cond (.tmp 25) m_laws_eqIntS_13 (fun _ => .skip)
def m_laws_eqIntS_15 : Unit → MCode := fun _ => .seq m_laws_eqIntS_11 m_laws_eqIntS_14
def m_laws_eqIntS_16 : Unit → MCode := fun _ => .block 1 m_laws_eqIntS_15
def m_laws_eqIntS_17 : Unit → MCode := fun _ => .region [] [⟨(some 15), .mv (.tmp 5), none, []⟩,
    ⟨(some 16), .bin .add (.tmp 15) (.const (.int .i64 1)), none, []⟩,
    ⟨(some 5), .mv (.tmp 16), none, []⟩] [0, 1, 5]
def m_laws_eqIntS_18 : Unit → MCode := fun _ => .seq m_laws_eqIntS_16 m_laws_eqIntS_17
def m_laws_eqIntS_19 : Unit → MCode := fun _ => .seq m_laws_eqIntS_10 m_laws_eqIntS_18
def m_laws_eqIntS_20 : Unit → MCode := fun _ => .loop m_laws_eqIntS_19
def m_laws_eqIntS_21 : Unit → MCode := fun _ => .block 0 m_laws_eqIntS_20
def m_laws_eqIntS_22 : Unit → MCode := fun _ => .seq m_laws_eqIntS_7 m_laws_eqIntS_21
def m_laws_eqIntS_23 : Unit → MCode := fun _ => .region [] [⟨(some 4), .mv (.const (.bool true)), none, []⟩] [4]
def m_laws_eqIntS_24 : Unit → MCode := fun _ => .seq m_laws_eqIntS_23 (fun _ => .ret)
def m_laws_eqIntS_25 : Unit → MCode := fun _ => .seq m_laws_eqIntS_22 m_laws_eqIntS_24
def m_laws_eqIntS_26 : Unit → MCode := fun _ => .seq m_laws_eqIntS_6 m_laws_eqIntS_25
def m_laws_eqIntS_27 : Unit → MCode := fun _ => .seq m_laws_eqIntS_1 m_laws_eqIntS_26
def m_laws_eqIntS : MCode := m_laws_eqIntS_27 ()
def h_laws_eqIntS : Hints := [(0, [0, 1], [], [], []), (1, [0, 1, 10], [], [], []), (2, [4], [], [], []), (3, [0, 1, 5], [], [], []), (4, [0, 1, 5, 14], [], [], []), (6, [0, 1, 5, 25], [[], [], [], [], [], [], [0, 1, 2, 3], [0, 1, 2, 3]], [], []), (7, [4], [], [], []), (5, [0, 1, 5], [], [], []), (8, [4], [], [], [])]
def r_laws_eqIntS : List RV := [.t 4]
abbrev n_laws_eqIntS : Nat := 14
theorem k_laws_eqIntS : Known Pr mu n_laws_eqIntS m_laws_eqIntS r_laws_eqIntS Go.Proofs.Try.f14.ntmps := .of h_laws_eqIntS hm Go.Proofs.Try.func14 (by kernel_rfl) (by kernel_rfl) (by kernel_rfl) (by kernel_rfl)
def m_laws_eqPlaceS_1 : Unit → MCode := fun _ => .region [] [⟨(some 4), .mv (.const (.bool false)), none, []⟩] [0, 1]
def m_laws_eqPlaceS_2 : Unit → MCode := fun _ => .region [] [⟨(some 6), .mv (.tmp 0), none, []⟩,
    ⟨(some 7), .len false (.tmp 6), none, []⟩,
    ⟨(some 8), .mv (.tmp 1), none, []⟩,
    ⟨(some 9), .len false (.tmp 8), none, []⟩,
    ⟨(some 10), .bin .neq (.tmp 7) (.tmp 9), none, []⟩] [0, 1, 10]
def m_laws_eqPlaceS_3 : Unit → MCode := fun _ => .region [] [⟨(some 4), .mv (.const (.bool false)), none, []⟩] [4]
def m_laws_eqPlaceS_4 : Unit → MCode := fun _ => .seq m_laws_eqPlaceS_3 (fun _ => .ret)
def m_laws_eqPlaceS_5 : Unit → MCode := fun _ => .cond (.tmp 10) m_laws_eqPlaceS_4 (fun _ => .skip)
def m_laws_eqPlaceS_6 : Unit → MCode := fun _ => .seq m_laws_eqPlaceS_2 m_laws_eqPlaceS_5
def m_laws_eqPlaceS_7 : Unit → MCode := fun _ => .region [] [⟨(some 5), .mv (.const (.int .i64 0)), none, []⟩] [0, 1, 5]
def m_laws_eqPlaceS_8 : Unit → MCode := fun _ => .region [] [⟨(some 11), .mv (.tmp 5), none, []⟩,
    ⟨(some 12), .mv (.tmp 0), none, []⟩,
    ⟨(some 13), .len false (.tmp 12), none, []⟩,
    ⟨(some 14), .bin .lss (.tmp 11) (.tmp 13), none, []⟩] [0, 1, 5, 14]
def m_laws_eqPlaceS_9 : Unit → MCode := fun _ => .cond (.tmp 14) (fun _ => .skip) (fun _ => .exit 0)
def m_laws_eqPlaceS_10 : Unit → MCode := fun _ => .seq m_laws_eqPlaceS_8 m_laws_eqPlaceS_9
def m_laws_eqPlaceS_11 : Unit → MCode := fun _ => .region [] [⟨(some 17), .mv (.tmp 0), none, []⟩,
    ⟨(some 18), .mv (.tmp 5), none, []⟩,
    ⟨(some 19), .ia (.tmp 17) (.tmp 18) 3, none, []⟩,
    ⟨(some 20), .ld (.tmp 19) 3 true, none, []⟩,
    ⟨(some 21), .mv (.tmp 1), none, []⟩,
    ⟨(some 22), .mv (.tmp 5), none, []⟩,
    ⟨(some 23), .ia (.tmp 21) (.tmp 22) 3, none, [0, 1, 2, 3]⟩,
    ⟨(some 24), .ld (.tmp 23) 3 true, none, [0, 1, 2, 3]⟩,
    ⟨(some 25), .call 69 [(.tmp 20), (.tmp 24)], none, []⟩,
    ⟨(some 26), .not (.tmp 25), none, []⟩] [0, 1, 5, 26]
def m_laws_eqPlaceS_12 : Unit → MCode := fun _ => .region [] [⟨(some 4), .mv (.const (.bool false)), none, []⟩] [4]
def m_laws_eqPlaceS_13 : Unit → MCode := fun _ => .seq m_laws_eqPlaceS_12 (fun _ => .ret)
def m_laws_eqPlaceS_14 : Unit → MCode := fun _ => .cond (.tmp 26) m_laws_eqPlaceS_13 (fun _ => .skip)
def m_laws_eqPlaceS_15 : Unit → MCode := fun _ => .seq m_laws_eqPlaceS_11 m_laws_eqPlaceS_14
def m_laws_eqPlaceS_16 : Unit → MCode := fun _ => .block 1 m_laws_eqPlaceS_15
def m_laws_eqPlaceS_17 : Unit → MCode := fun _ => .region [] [⟨(some 15), .mv (.tmp 5), none, []⟩,
    ⟨(some 16), .bin .add (.tmp 15) (.const (.int .i64 1)), none, []⟩,
    ⟨(some 5), .mv (.tmp 16), none, []⟩] [0, 1, 5]
def m_laws_eqPlaceS_18 : Unit → MCode := fun _ => .seq m_laws_eqPlaceS_16 m_laws_eqPlaceS_17
def m_laws_eqPlaceS_19 : Unit → MCode := fun _ => .seq m_laws_eqPlaceS_10 m_laws_eqPlaceS_18
def m_laws_eqPlaceS_20 : Unit → MCode := fun _ => .loop m_laws_eqPlaceS_19
def m_laws_eqPlaceS_21 : Unit → MCode := fun _ => .block 0 m_laws_eqPlaceS_20
def m_laws_eqPlaceS_22 : Unit → MCode := fun _ => .seq m_laws_eqPlaceS_7 m_laws_eqPlaceS_21
def m_laws_eqPlaceS_23 : Unit → MCode := fun _ => .region [] [⟨(some 4), .mv (.const (.bool true)), none, []⟩] [4]
def m_laws_eqPlaceS_24 : Unit → MCode := fun _ => .seq m_laws_eqPlaceS_23 (fun _ => .ret)
def m_laws_eqPlaceS_25 : Unit → MCode := fun _ => .seq m_laws_eqPlaceS_22 m_laws_eqPlaceS_24
def m_laws_eqPlaceS_26 : Unit → MCode := fun _ => .seq m_laws_eqPlaceS_6 m_laws_eqPlaceS_25
def m_laws_eqPlaceS_27 : Unit → MCode := fun _ => .seq m_laws_eqPlaceS_1 m_laws_eqPlaceS_26
def m_laws_eqPlaceS : MCode := m_laws_eqPlaceS_27 ()
def h_laws_eqPlaceS : Hints := [(0, [0, 1], [], [], []), (1, [0, 1, 10], [], [], []), (2, [4], [], [], []), (3, [0, 1, 5], [], [], []), (4, [0, 1, 5, 14], [], [], []), (6, [0, 1, 5, 26], [[], [], [], [], [], [], [0, 1, 2, 3], [0, 1, 2, 3]], [], []), (7, [4], [], [], []), (5, [0, 1, 5], [], [], []), (8, [4], [], [], [])]
def r_laws_eqPlaceS : List RV := [.t 4]
abbrev n_laws_eqPlaceS : Nat := 15
theorem k_laws_eqPlaceS : Known Pr mu n_laws_eqPlaceS m_laws_eqPlaceS r_laws_eqPlaceS Go.Proofs.Try.f15.ntmps := .of h_laws_eqPlaceS hm Go.Proofs.Try.func15 (by kernel_rfl) (by kernel_rfl) (by kernel_rfl) (by kernel_rfl)
def m_laws_markPlaceS_1 : Unit → MCode := fun _ => .region [] [⟨(some 4), .mv (.const (.int .i64 0)), none, []⟩] [0, 1]
def m_laws_markPlaceS_2 : Unit → MCode := fun _ => .region [] [⟨(some 5), .mv (.const (.int .i64 0)), none, []⟩] [0, 1, 5]
def m_laws_markPlaceS_3 : Unit → MCode := fun _ => .region [] [⟨(some 6), .mv (.tmp 5), none, []⟩,
    ⟨(some 7), .mv (.tmp 0), none, []⟩,
    ⟨(some 8), .len false (.tmp 7), none, []⟩,
    ⟨(some 9), .bin .lss (.tmp 6) (.tmp 8), none, []⟩] [0, 1, 5, 9]
def m_laws_markPlaceS_4 : Unit → MCode := fun _ => .cond (.tmp 9) (fun _ => .skip) (fun _ => .exit 0)
def m_laws_markPlaceS_5 : Unit → MCode := fun _ => .seq m_laws_markPlaceS_3 m_laws_markPlaceS_4
def m_laws_markPlaceS_6 : Unit → MCode := fun _ => .region [] [⟨(some 12), .mv (.tmp 0), none, []⟩,
    ⟨(some 13), .mv (.tmp 5), none, []⟩,
    ⟨(some 14), .mv (.tmp 1), none, []⟩,
    ⟨(some 15), .ia (.tmp 12) (.tmp 13) 3, none, []⟩,
    ⟨(some 16), .fa (.tmp 15) 0, none, []⟩,
    ⟨none, .sto (.tmp 16) (.tmp 14) 1, none, []⟩] [0, 1, 5]
def m_laws_markPlaceS_7 : Unit → MCode := fun _ => .region [] [⟨(some 17), .mv (.tmp 1), none, []⟩,
    ⟨(some 18), .bin .add (.tmp 17) (.const (.int .i64 1)), none, []⟩,
    ⟨(some 1), .mv (.tmp 18), none, []⟩] [0, 1, 5]
def m_laws_markPlaceS_8 : Unit → MCode := fun _ => .region [] [⟨(some 19), .mv (.tmp 0), none, []⟩,
    ⟨(some 20), .mv (.tmp 5), none, []⟩,
    ⟨(some 21), .mv (.tmp 1), none, []⟩,
    ⟨(some 22), .ia (.tmp 19) (.tmp 20) 3, none, []⟩,
    ⟨(some 23), .fa (.tmp 22) 1, none, []⟩,
    ⟨none, .sto (.tmp 23) (.tmp 21) 1, none, []⟩] [0, 1, 5]
def m_laws_markPlaceS_9 : Unit → MCode := fun _ => .region [] [⟨(some 24), .mv (.tmp 1), none, []⟩,
    ⟨(some 25), .bin .add (.tmp 24) (.const (.int .i64 1)), none, []⟩,
    ⟨(some 1), .mv (.tmp 25), none, []⟩] [0, 1, 5]
def m_laws_markPlaceS_10 : Unit → MCode := fun _ => .region [] [⟨(some 26), .mv (.tmp 0), none, []⟩,
    ⟨(some 27), .mv (.tmp 5), none, []⟩,
    ⟨(some 28), .mv (.tmp 1), none, []⟩,
    ⟨(some 29), .ia (.tmp 26) (.tmp 27) 3, none, []⟩,
    ⟨(some 30), .fa (.tmp 29) 2, none, []⟩,
    ⟨none, .sto (.tmp 30) (.tmp 28) 1, none, []⟩] [0, 1, 5]
def m_laws_markPlaceS_11 : Unit → MCode := fun _ => .region [] [⟨(some 31), .mv (.tmp 1), none, []⟩,
    ⟨(some 32), .bin .add (.tmp 31) (.const (.int .i64 1)), none, []⟩,
    ⟨(some 1), .mv (.tmp 32), none, []⟩] [0, 1, 5]
def m_laws_markPlaceS_12 : Unit → MCode := fun _ => .seq m_laws_markPlaceS_10 m_laws_markPlaceS_11
def m_laws_markPlaceS_13 : Unit → MCode := fun _ => .seq m_laws_markPlaceS_9 m_laws_markPlaceS_12
def m_laws_markPlaceS_14 : Unit → MCode := fun _ => .seq m_laws_markPlaceS_8 m_laws_markPlaceS_13
def m_laws_markPlaceS_15 : Unit → MCode := fun _ => .seq m_laws_markPlaceS_7 m_laws_markPlaceS_14
def m_laws_markPlaceS_16 : Unit → MCode := fun _ => .seq m_laws_markPlaceS_6 m_laws_markPlaceS_15
def m_laws_markPlaceS_17 : Unit → MCode := fun _ => .block 1 m_laws_markPlaceS_16
def m_laws_markPlaceS_18 : Unit → MCode := fun _ => .region [] [⟨(some 10), .mv (.tmp 5), none, []⟩,
    ⟨(some 11), .bin .add (.tmp 10) (.const (.int .i64 1)), none, []⟩,
    ⟨(some 5), .mv (.tmp 11), none, []⟩] [0, 1, 5]
def m_laws_markPlaceS_19 : Unit → MCode := fun _ => .seq m_laws_markPlaceS_17 m_laws_markPlaceS_18
def m_laws_markPlaceS_20 : Unit → MCode := fun _ => .seq m_laws_markPlaceS_5 m_laws_markPlaceS_19
def m_laws_markPlaceS_21 : Unit → MCode := fun _ => .loop m_laws_markPlaceS_20
def m_laws_markPlaceS_22 : Unit → MCode := fun _ => .block 0 m_laws_markPlaceS_21
def m_laws_markPlaceS_23 : Unit → MCode := fun _ => .seq m_laws_markPlaceS_2 m_laws_markPlaceS_22
def m_laws_markPlaceS_24 : Unit → MCode := fun _ => .region [] [⟨(some 33), .mv (.tmp 1), none, []⟩,
    ⟨(some 4), .mv (.tmp 33), none, []⟩] [4]
def m_laws_markPlaceS_25 : Unit → MCode := fun _ => .seq m_laws_markPlaceS_24 (fun _ => .ret)
def m_laws_markPlaceS_26 : Unit → MCode := fun _ => .seq m_laws_markPlaceS_23 m_laws_markPlaceS_25
def m_laws_markPlaceS_27 : Unit → MCode := fun _ => .seq m_laws_markPlaceS_1 m_laws_markPlaceS_26
def m_laws_markPlaceS : MCode := m_laws_markPlaceS_27 ()
def h_laws_markPlaceS : Hints := [(0, [0, 1], [], [], []), (1, [0, 1, 5], [], [], []), (2, [0, 1, 5, 9], [], [], []), (4, [0, 1, 5], [], [], []), (5, [0, 1, 5], [], [], []), (6, [0, 1, 5], [], [], []), (7, [0, 1, 5], [], [], []), (8, [0, 1, 5], [], [], []), (9, [0, 1, 5], [], [], []), (3, [0, 1, 5], [], [], []), (10, [4], [], [], [])]
def r_laws_markPlaceS : List RV := [.t 4]
abbrev n_laws_markPlaceS : Nat := 16
theorem k_laws_markPlaceS : Known Pr mu n_laws_markPlaceS m_laws_markPlaceS r_laws_markPlaceS Go.Proofs.Try.f16.ntmps := .of h_laws_markPlaceS hm Go.Proofs.Try.func16 (by kernel_rfl) (by kernel_rfl) (by kernel_rfl) (by kernel_rfl)
def m_laws_markIntS_1 : Unit → MCode := fun _ => .region [] [⟨(some 4), .mv (.const (.int .i64 0)), none, []⟩] [0, 1]
def m_laws_markIntS_2 : Unit → MCode := fun _ => .region [] [⟨(some 5), .mv (.const (.int .i64 0)), none, []⟩] [0, 1, 5]
def m_laws_markIntS_3 : Unit → MCode := fun _ => .region [] [⟨(some 6), .mv (.tmp 5), none, []⟩,
    ⟨(some 7), .mv (.tmp 0), none, []⟩,
    ⟨(some 8), .len false (.tmp 7), none, []⟩,
    ⟨(some 9), .bin .lss (.tmp 6) (.tmp 8), none, []⟩] [0, 1, 5, 9]
def m_laws_markIntS_4 : Unit → MCode := fun _ => .cond (.tmp 9) (fun _ => .skip) (fun _ => .exit 0)
def m_laws_markIntS_5 : Unit → MCode := fun _ => .seq m_laws_markIntS_3 m_laws_markIntS_4
def m_laws_markIntS_6 : Unit → MCode := fun _ => .region [] [⟨(some 12), .mv (.tmp 0), none, []⟩,
    ⟨(some 13), .mv (.tmp 5), none, []⟩,
    ⟨(some 14), .mv (.tmp 1), none, []⟩,
    ⟨(some 15), .ia (.tmp 12) (.tmp 13) 1, none, []⟩,
    ⟨none, .sto (.tmp 15) (.tmp 14) 1, none, []⟩] [0, 1, 5]
def m_laws_markIntS_7 : Unit → MCode := fun _ => .region [] [⟨(some 16), .mv (.tmp 1), none, []⟩,
    ⟨(some 17), .bin .add (.tmp 16) (.const (.int .i64 1)), none, []⟩,
    ⟨(some 1), .mv (.tmp 17), none, []⟩] [0, 1, 5]
def m_laws_markIntS_8 : Unit → MCode := fun _ => .seq m_laws_markIntS_6 m_laws_markIntS_7
def m_laws_markIntS_9 : Unit → MCode := fun _ => .block 1 m_laws_markIntS_8
def m_laws_markIntS_10 : Unit → MCode := fun _ => .region [] [⟨(some 10), .mv (.tmp 5), none, []⟩,
    ⟨(some 11), .bin .add (.tmp 10) (.const (.int .i64 1)), none, []⟩,
    ⟨(some 5), .mv (.tmp 11), none, []⟩] [0, 1, 5]
def m_laws_markIntS_11 : Unit → MCode := fun _ => .seq m_laws_markIntS_9 m_laws_markIntS_10
def m_laws_markIntS_12 : Unit → MCode := fun _ => .seq m_laws_markIntS_5 m_laws_markIntS_11
def m_laws_markIntS_13 : Unit → MCode := fun _ => .loop m_laws_markIntS_12
def m_laws_markIntS_14 : Unit → MCode := fun _ => .block 0 m_laws_markIntS_13
def m_laws_markIntS_15 : Unit → MCode := fun _ => .seq m_laws_markIntS_2 m_laws_markIntS_14
def m_laws_markIntS_16 : Unit → MCode := fun _ => .region [] [⟨(some 18), .mv (.tmp 1), none, []⟩,
    ⟨(some 4), .mv (.tmp 18), none, []⟩] [4]
def m_laws_markIntS_17 : Unit → MCode := fun _ => .seq m_laws_markIntS_16 (fun _ => .ret)
def m_laws_markIntS_18 : Unit → MCode := fun _ => .seq m_laws_markIntS_15 m_laws_markIntS_17
def m_laws_markIntS_19 : Unit → MCode := fun _ => .seq m_laws_markIntS_1 m_laws_markIntS_18
def m_laws_markIntS : MCode := m_laws_markIntS_19 ()
def h_laws_markIntS : Hints := [(0, [0, 1], [], [], []), (1, [0, 1, 5], [], [], []), (2, [0, 1, 5, 9], [], [], []), (4, [0, 1, 5], [], [], []), (5, [0, 1, 5], [], [], []), (3, [0, 1, 5], [], [], []), (6, [4], [], [], [])]
def r_laws_markIntS : List RV := [.t 4]
abbrev n_laws_markIntS : Nat := 17
theorem k_laws_markIntS : Known Pr mu n_laws_markIntS m_laws_markIntS r_laws_markIntS Go.Proofs.Try.f17.ntmps := .of h_laws_markIntS hm Go.Proofs.Try.func17 (by kernel_rfl) (by kernel_rfl) (by kernel_rfl) (by kernel_rfl)
def m_laws_heldIntS_1 : Unit → MCode := fun _ => .region [] [⟨(some 4), .mv (.const (.int .i64 0)), none, []⟩] [0, 1]
def m_laws_heldIntS_2 : Unit → MCode := fun _ => .region [] [⟨(some 5), .mv (.const (.int .i64 0)), none, []⟩] [0, 1, 5]
def m_laws_heldIntS_3 : Unit → MCode := fun _ => .region [] [⟨(some 6), .mv (.tmp 5), none, []⟩,
    ⟨(some 7), .mv (.tmp 0), none, []⟩,
    ⟨(some 8), .len false (.tmp 7), none, []⟩,
    ⟨(some 9), .bin .lss (.tmp 6) (.tmp 8), none, []⟩] [0, 1, 5, 9]
def m_laws_heldIntS_4 : Unit → MCode := fun _ => .cond (.tmp 9) (fun _ => .skip) (fun _ => .exit 0)
def m_laws_heldIntS_5 : Unit → MCode := fun _ => .seq m_laws_heldIntS_3 m_laws_heldIntS_4
def m_laws_heldIntS_6 : Unit → MCode := fun _ => .region [] [⟨(some 12), .mv (.tmp 0), none, []⟩,
    ⟨(some 13), .mv (.tmp 5), none, []⟩,
    ⟨(some 14), .ia (.tmp 12) (.tmp 13) 1, none, []⟩,
    ⟨(some 15), .ld (.tmp 14) 1 false, none, []⟩,
    ⟨(some 16), .mv (.tmp 1), none, []⟩,
    ⟨(some 17), .bin .neq (.tmp 15) (.tmp 16), none, []⟩] [0, 1, 5, 17]
def m_laws_heldIntS_7 : Unit → MCode := fun _ => .region [] [⟨(some 4), .mv (.const (.int .i64 (-1))), none, []⟩] [4]
def m_laws_heldIntS_8 : Unit → MCode := fun _ => .seq m_laws_heldIntS_7 (fun _ => .ret)
def m_laws_heldIntS_9 : Unit → MCode := fun _ => .cond (.tmp 17) m_laws_heldIntS_8 (fun _ => .skip)
def m_laws_heldIntS_10 : Unit → MCode := fun _ => .seq m_laws_heldIntS_6 m_laws_heldIntS_9
def m_laws_heldIntS_11 : Unit → MCode := fun _ => .region [] [⟨(some 18), .mv (.tmp 1), none, []⟩,
    ⟨(some 19), .bin .add (.tmp 18) (.const (.int .i64 1)), none, []⟩,
    ⟨(some 1), .mv (.tmp 19), none, []⟩] [0, 1, 5]
def m_laws_heldIntS_12 : Unit → MCode := fun _ => .seq m_laws_heldIntS_10 m_laws_heldIntS_11
def m_laws_heldIntS_13 : Unit → MCode := fun _ => .block 1 m_laws_heldIntS_12
def m_laws_heldIntS_14 : Unit → MCode := fun _ => .region [] [⟨(some 10), .mv (.tmp 5), none, []⟩,
    ⟨(some 11), .bin .add (.tmp 10) (.const (.int .i64 1)), none, []⟩,
    ⟨(some 5), .mv (.tmp 11), none, []⟩] [0, 1, 5]
def m_laws_heldIntS_15 : Unit → MCode := fun _ => .seq m_laws_heldIntS_13 m_laws_heldIntS_14
def m_laws_heldIntS_16 : Unit → MCode := fun _ => .seq m_laws_heldIntS_5 m_laws_heldIntS_15
def m_laws_heldIntS_17 : Unit → MCode := fun _ => .loop m_laws_heldIntS_16
def m_laws_heldIntS_18 : Unit → MCode := fun _ => .block 0 m_laws_heldIntS_17
def m_laws_heldIntS_19 : Unit → MCode := fun _ => .seq m_laws_heldIntS_2 m_laws_heldIntS_18
def m_laws_heldIntS_20 : Unit → MCode := fun _ => .region [] [⟨(some 20), .mv (.tmp 1), none, []⟩,
    ⟨(some 4), .mv (.tmp 20), none, []⟩] [4]
def m_laws_heldIntS_21 : Unit → MCode := fun _ => .seq m_laws_heldIntS_20 (fun _ => .ret)
def m_laws_heldIntS_22 : Unit → MCode := fun _ => .seq m_laws_heldIntS_19 m_laws_heldIntS_21
def m_laws_heldIntS_23 : Unit → MCode := fun _ => .seq m_laws_heldIntS_1 m_laws_heldIntS_22
def m_laws_heldIntS : MCode := m_laws_heldIntS_23 ()
def h_laws_heldIntS : Hints := [(0, [0, 1], [], [], []), (1, [0, 1, 5], [], [], []), (2, [0, 1, 5, 9], [], [], []), (4, [0, 1, 5, 17], [], [], []), (5, [4], [], [], []), (6, [0, 1, 5], [], [], []), (3, [0, 1, 5], [], [], []), (7, [4], [], [], [])]
def r_laws_heldIntS : List RV := [.t 4]
abbrev n_laws_heldIntS : Nat := 18
theorem k_laws_heldIntS : Known Pr mu n_laws_heldIntS m_laws_heldIntS r_laws_heldIntS Go.Proofs.Try.f18.ntmps := .of h_laws_heldIntS hm Go.Proofs.Try.func18 (by kernel_rfl) (by kernel_rfl) (by kernel_rfl) (by kernel_rfl)
def m_spec_ArePlaces_1 : Unit → MCode := fun _ => .region [] [⟨(some 2), .mv (.const (.bool false)), none, []⟩] [0]
def m_spec_ArePlaces_2 : Unit → MCode := fun _ => .region [] [⟨(some 3), .mv (.const (.int .i64 0)), none, []⟩] [0, 3]
def m_spec_ArePlaces_3 : Unit → MCode := fun _ => .region [] [⟨(some 4), .mv (.tmp 3), none, []⟩,
    ⟨(some 5), .mv (.tmp 0), none, []⟩,
    ⟨(some 6), .len false (.tmp 5), none, []⟩,
    ⟨(some 7), .bin .lss (.tmp 4) (.tmp 6), none, []⟩] [0, 3, 7]
def m_spec_ArePlaces_4 : Unit → MCode := fun _ => .cond (.tmp 7) (fun _ => .skip) (fun _ => .exit 0)
def m_spec_ArePlaces_5 : Unit → MCode := fun _ => .seq m_spec_ArePlaces_3 m_spec_ArePlaces_4
def m_spec_ArePlaces_6 : Unit → MCode := fun _ => .region [] [⟨(some 10), .mv (.tmp 0), none, []⟩,
    ⟨(some 11), .mv (.tmp 3), none, []⟩,
    ⟨(some 12), .ia (.tmp 10) (.tmp 11) 3, none, []⟩,
    ⟨(some 13), .fa (.tmp 12) 0, none, []⟩,
    ⟨(some 14), .ld (.tmp 13) 1 false, none, []⟩,
    ⟨(some 15), .call 59 [(.tmp 14), (.const (.int .i64 0)), (.const (.int .i64 9))], none, []⟩,
    ⟨(some 16), .not (.tmp 15), none, []⟩,
    ⟨(some 17), .mv (.tmp 16), none, []⟩,
    ⟨(some 18), .mv (.tmp 0), (some (17, false)), []⟩,
    ⟨(some 19), .mv (.tmp 3), (some (17, false)), []⟩,
    ⟨(some 20), .ia (.tmp 18) (.tmp 19) 3, (some (17, false)), []⟩,
    ⟨(some 21), .fa (.tmp 20) 1, (some (17, false)), []⟩,
    ⟨(some 22), .ld (.tmp 21) 1 false, (some (17, false)), []⟩,
    ⟨(some 23), .call 59 [(.tmp 22), (.const (.int .i64 0)), (.const (.int .i64 9))], (some (17, false)), []⟩,
    ⟨(some 24), .not (.tmp 23), (some (17, false)), []⟩,
    ⟨(some 25), .pick (.tmp 17) (.const (.bool true)) (.tmp 24), none, []⟩,
    ⟨(some 26), .mv (.tmp 25), none, []⟩,
    ⟨(some 27), .mv (.tmp 0), (some (26, false)), []⟩,
    ⟨(some 28), .mv (.tmp 3), (some (26, false)), []⟩,
    ⟨(some 29), .ia (.tmp 27) (.tmp 28) 3, (some (26, false)), []⟩,
    ⟨(some 30), .fa (.tmp 29) 2, (some (26, false)), []⟩,
    ⟨(some 31), .ld (.tmp 30) 1 false, (some (26, false)), []⟩,
    ⟨(some 32), .call 59 [(.tmp 31), (.const (.int .i64 0)), (.const (.int .i64 99))], (some (26, false)), []⟩,
    ⟨(some 33), .not (.tmp 32), (some (26, false)), []⟩,
    ⟨(some 34), .pick (.tmp 26) (.const (.bool true)) (.tmp 33), none, []⟩] [0, 3, 34]
def m_spec_ArePlaces_7 : Unit → MCode := fun _ => .region [] [⟨(some 2), .mv (.const (.bool false)), none, []⟩] [2]
def m_spec_ArePlaces_8 : Unit → MCode := fun _ => .seq m_spec_ArePlaces_7 (fun _ => .ret)
def m_spec_ArePlaces_9 : Unit → MCode := fun _ => .cond (.tmp 34) m_spec_ArePlaces_8 (fun _ => .skip)
def m_spec_ArePlaces_10 : Unit → MCode := fun _ => .seq m_spec_ArePlaces_6 m_spec_ArePlaces_9
def m_spec_ArePlaces_11 : Unit → MCode := fun _ => .block 1 m_spec_ArePlaces_10
def m_spec_ArePlaces_12 : Unit → MCode := fun _ => .region [] [⟨(some 8), .mv (.tmp 3), none, []⟩,
    ⟨(some 9), .bin .add (.tmp 8) (.const (.int .i64 1)), none, []⟩,
    ⟨(some 3), .mv (.tmp 9), none, []⟩] [0, 3]
def m_spec_ArePlaces_13 : Unit → MCode := fun _ => .seq m_spec_ArePlaces_11 m_spec_ArePlaces_12
def m_spec_ArePlaces_14 : Unit → MCode := fun _ => .seq m_spec_ArePlaces_5 m_spec_ArePlaces_13
def m_spec_ArePlaces_15 : Unit → MCode := fun _ => .loop m_spec_ArePlaces_14
def m_spec_ArePlaces_16 : Unit → MCode := fun _ => .block 0 m_spec_ArePlaces_15
def m_spec_ArePlaces_17 : Unit → MCode := fun _ => .seq m_spec_ArePlaces_2 m_spec_ArePlaces_16
def m_spec_ArePlaces_18 : Unit → MCode := fun _ => .region [] [⟨(some 35), .mv (.tmp 0), none, []⟩,
    ⟨(some 36), .len false (.tmp 35), none, []⟩,
    ⟨(some 37), .bin .eql (.tmp 36) (.const (.int .i64 5)), none, []⟩,
    ⟨(some 2), .mv (.tmp 37), none, []⟩] [2]
def m_spec_ArePlaces_19 : Unit → MCode := fun _ => .seq m_spec_ArePlaces_18 (fun _ => .ret)
def m_spec_ArePlaces_20 : Unit → MCode := fun _ => .seq m_spec_ArePlaces_17 m_spec_ArePlaces_19
def m_spec_ArePlaces_21 : Unit → MCode := fun _ => .seq m_spec_ArePlaces_1 m_spec_ArePlaces_20
def m_spec_ArePlaces : MCode := m_spec_ArePlaces_21 ()
def h_spec_ArePlaces : Hints := [(0, [0], [], [], []), (1, [0, 3], [], [], []), (2, [0, 3, 7], [], [], []), (4, [0, 3, 34], [], [], []), (5, [2], [], [], []), (3, [0, 3], [], [], []), (6, [2], [], [], [])]
def r_spec_ArePlaces : List RV := [.t 2]
abbrev n_spec_ArePlaces : Nat := 22
theorem k_spec_ArePlaces : Known Pr mu n_spec_ArePlaces m_spec_ArePlaces r_spec_ArePlaces Go.Proofs.Try.f22.ntmps := .of h_spec_ArePlaces hm Go.Proofs.Try.func22 (by kernel_rfl) (by kernel_rfl) (by kernel_rfl) (by kernel_rfl)
def m_spec_AreServers_1 : Unit → MCode := fun _ => .region [] [⟨(some 2), .mv (.const (.bool false)), none, []⟩] [0]
def m_spec_AreServers_2 : Unit → MCode := fun _ => .region [] [⟨(some 3), .mv (.const (.int .i64 0)), none, []⟩] [0, 3]
def m_spec_AreServers_3 : Unit → MCode := fun _ => .region [] [⟨(some 4), .mv (.tmp 3), none, []⟩,
    ⟨(some 5), .mv (.tmp 0), none, []⟩,
    ⟨(some 6), .len false (.tmp 5), none, []⟩,
    ⟨(some 7), .bin .lss (.tmp 4) (.tmp 6), none, []⟩] [0, 3, 7]
def m_spec_AreServers_4 : Unit → MCode := fun _ => .cond (.tmp 7) (fun _ => .skip) (fun _ => .exit 0)
def m_spec_AreServers_5 : Unit → MCode := fun _ => .seq m_spec_AreServers_3 m_spec_AreServers_4
def m_spec_AreServers_6 : Unit → MCode := fun _ => .region [] [⟨(some 10), .mv (.tmp 0), none, []⟩,
    ⟨(some 11), .mv (.tmp 3), none, []⟩,
    ⟨(some 12), .ia (.tmp 10) (.tmp 11) 1, none, []⟩,
    ⟨(some 13), .ld (.tmp 12) 1 false, none, []⟩,
    ⟨(some 14), .call 59 [(.tmp 13), (.const (.int .i64 0)), (.const (.int .i64 4))], none, []⟩,
    ⟨(some 15), .not (.tmp 14), none, []⟩,
    ⟨(some 16), .mv (.tmp 15), none, []⟩,
    ⟨(some 17), .mv (.tmp 3), (some (16, false)), []⟩,
    ⟨(some 18), .bin .gtr (.tmp 17) (.const (.int .i64 0)), (some (16, false)), []⟩,
    ⟨(some 19), .mv (.tmp 18), (some (16, false)), []⟩,
    ⟨(some 20), .mv (.tmp 0), (some (19, true)), []⟩,
    ⟨(some 21), .mv (.tmp 3), (some (19, true)), []⟩,
    ⟨(some 22), .bin .sub (.tmp 21) (.const (.int .i64 1)), (some (19, true)), []⟩,
    ⟨(some 23), .ia (.tmp 20) (.tmp 22) 1, (some (19, true)), []⟩,
    ⟨(some 24), .ld (.tmp 23) 1 false, (some (19, true)), []⟩,
    ⟨(some 25), .mv (.tmp 0), (some (19, true)), []⟩,
    ⟨(some 26), .mv (.tmp 3), (some (19, true)), []⟩,
    ⟨(some 27), .ia (.tmp 25) (.tmp 26) 1, (some (19, true)), [10, 11, 12, 13, 14]⟩,
    ⟨(some 28), .ld (.tmp 27) 1 false, (some (19, true)), [10, 11, 12, 13, 14]⟩,
    ⟨(some 29), .bin .geq (.tmp 24) (.tmp 28), (some (19, true)), []⟩,
    ⟨(some 30), .pick (.tmp 19) (.tmp 29) (.const (.bool false)), (some (16, false)), []⟩,
    ⟨(some 31), .pick (.tmp 16) (.const (.bool true)) (.tmp 30), none, []⟩] [0, 3, 31]
def m_spec_AreServers_7 : Unit → MCode := fun _ => .region [] [⟨(some 2), .mv (.const (.bool false)), none, []⟩] [2]
def m_spec_AreServers_8 : Unit → MCode := fun _ => .seq m_spec_AreServers_7 (fun _ => .ret)
def m_spec_AreServers_9 : Unit → MCode := fun _ => .cond (.tmp 31) m_spec_AreServers_8 (fun _ => .skip)
def m_spec_AreServers_10 : Unit → MCode := fun _ => .seq m_spec_AreServers_6 m_spec_AreServers_9
def m_spec_AreServers_11 : Unit → MCode := fun _ => .block 1 m_spec_AreServers_10
def m_spec_AreServers_12 : Unit → MCode := fun _ => .region [] [⟨(some 8), .mv (.tmp 3), none, []⟩,
    ⟨(some 9), .bin .add (.tmp 8) (.const (.int .i64 1)), none, []⟩,
    ⟨(some 3), .mv (.tmp 9), none, []⟩] [0, 3]
def m_spec_AreServers_13 : Unit → MCode := fun _ => .seq m_spec_AreServers_11 m_spec_AreServers_12
def m_spec_AreServers_14 : Unit → MCode := fun _ => .seq m_spec_AreServers_5 m_spec_AreServers_13
def m_spec_AreServers_15 : Unit → MCode := fun _ => .loop m_spec_AreServers_14
def m_spec_AreServers_16 : Unit → MCode := fun _ => .block 0 m_spec_AreServers_15
def m_spec_AreServers_17 : Unit → MCode := fun _ => .seq m_spec_AreServers_2 m_spec_AreServers_16
def m_spec_AreServers_18 : Unit → MCode := fun _ => .region [] [⟨(some 2), .mv (.const (.bool true)), none, []⟩] [2]
def m_spec_AreServers_19 : Unit → MCode := fun _ => .seq m_spec_AreServers_18 (fun _ => .ret)
def m_spec_AreServers_20 : Unit → MCode := fun _ => .seq m_spec_AreServers_17 m_spec_AreServers_19
def m_spec_AreServers_21 : Unit → MCode := fun _ => .seq m_spec_AreServers_1 m_spec_AreServers_20
def m_spec_AreServers : MCode := m_spec_AreServers_21 ()
def h_spec_AreServers : Hints := [(0, [0], [], [], []), (1, [0, 3], [], [], []), (2, [0, 3, 7], [], [], []), (4, [0, 3, 31], [[], [], [], [], [], [], [], [], [], [], [], [], [], [], [], [], [], [10, 11, 12, 13, 14], [10, 11, 12, 13, 14]], [], []), (5, [2], [], [], []), (3, [0, 3], [], [], []), (6, [2], [], [], [])]
def r_spec_AreServers : List RV := [.t 2]
abbrev n_spec_AreServers : Nat := 23
theorem k_spec_AreServers : Known Pr mu n_spec_AreServers m_spec_AreServers r_spec_AreServers Go.Proofs.Try.f23.ntmps := .of h_spec_AreServers hm Go.Proofs.Try.func23 (by kernel_rfl) (by kernel_rfl) (by kernel_rfl) (by kernel_rfl)
def m_spec_CommonServers_1 : Unit → MCode := fun _ => .region [] [⟨(some 4), .mv (.const (.slice none 0 0)), none, []⟩] [0, 1]
def m_spec_CommonServers_2 : Unit → MCode := fun _ => .region [] [⟨(some 7), .bsl 1 0 [.int .i64 0] [], none, []⟩,
    ⟨(some 5), .mv (.tmp 7), none, []⟩] [0, 1, 5]
def m_spec_CommonServers_3 : Unit → MCode := fun _ => .region [] [⟨(some 6), .mv (.const (.int .i64 0)), none, []⟩] [0, 1, 5, 6]
def m_spec_CommonServers_4 : Unit → MCode := fun _ => .region [] [⟨(some 8), .mv (.tmp 6), none, []⟩,
    ⟨(some 9), .mv (.tmp 0), none, []⟩,
    ⟨(some 10), .len false (.tmp 9), none, []⟩,
    ⟨(some 11), .bin .lss (.tmp 8) (.tmp 10), none, []⟩] [0, 1, 5, 6, 11]
def m_spec_CommonServers_5 : Unit → MCode := fun _ => .cond (.tmp 11) (fun _ => .skip) (fun _ => .exit 0)
def m_spec_CommonServers_6 : Unit → MCode := fun _ => .seq m_spec_CommonServers_4 m_spec_CommonServers_5
def m_spec_CommonServers_7 : Unit → MCode := fun _ => .region [] [⟨(some 14), .mv (.tmp 1), none, []⟩,
    ⟨(some 15), .mv (.tmp 0), none, []⟩,
    ⟨(some 16), .mv (.tmp 6), none, []⟩,
    ⟨(some 17), .ia (.tmp 15) (.tmp 16) 1, none, []⟩,
    ⟨(some 18), .ld (.tmp 17) 1 false, none, []⟩,
    ⟨(some 19), .call 28 [(.tmp 14), (.tmp 18)], none, []⟩] [0, 1, 5, 6, 19]
def m_spec_CommonServers_8 : Unit → MCode := fun _ => .region [] [⟨(some 20), .mv (.tmp 5), none, []⟩,
    ⟨(some 21), .mv (.tmp 0), none, []⟩,
    ⟨(some 22), .mv (.tmp 6), none, []⟩,
    ⟨(some 23), .ia (.tmp 21) (.tmp 22) 1, none, []⟩,
    ⟨(some 24), .ld (.tmp 23) 1 false, none, []⟩,
    ⟨(some 25), .call 60 [(.tmp 20), (.tmp 24)], none, []⟩,
    ⟨(some 5), .mv (.tmp 25), none, []⟩] [0, 1, 5, 6]
def m_spec_CommonServers_9 : Unit → MCode := fun _ => .cond (.tmp 19) m_spec_CommonServers_8 (fun _ => .skip)
def m_spec_CommonServers_10 : Unit → MCode := fun _ => .seq m_spec_CommonServers_7 m_spec_CommonServers_9
def m_spec_CommonServers_11 : Unit → MCode := fun _ => .block 1 m_spec_CommonServers_10
def m_spec_CommonServers_12 : Unit → MCode := fun _ => .region [] [⟨(some 12), .mv (.tmp 6), none, []⟩,
    ⟨(some 13), .bin .add (.tmp 12) (.const (.int .i64 1)), none, []⟩,
    ⟨(some 6), .mv (.tmp 13), none, []⟩] [0, 1, 5, 6]
def m_spec_CommonServers_13 : Unit → MCode := fun _ => .seq m_spec_CommonServers_11 m_spec_CommonServers_12
def m_spec_CommonServers_14 : Unit → MCode := fun _ => .seq m_spec_CommonServers_6 m_spec_CommonServers_13
def m_spec_CommonServers_15 : Unit → MCode := fun _ => .loop m_spec_CommonServers_14
def m_spec_CommonServers_16 : Unit → MCode := fun _ => .block 0 m_spec_CommonServers_15
def m_spec_CommonServers_17 : Unit → MCode := fun _ => .seq m_spec_CommonServers_3 m_spec_CommonServers_16
def m_spec_CommonServers_18 : Unit → MCode := fun _ => .region [] [⟨(some 26), .mv (.tmp 5), none, []⟩,
    ⟨(some 4), .mv (.tmp 26), none, []⟩] [4]
def m_spec_CommonServers_19 : Unit → MCode := fun _ => .seq m_spec_CommonServers_18 (fun _ => .ret)
def m_spec_CommonServers_20 : Unit → MCode := fun _ => .seq m_spec_CommonServers_17 m_spec_CommonServers_19
def m_spec_CommonServers_21 : Unit → MCode := fun _ => .seq m_spec_CommonServers_2 m_spec_CommonServers_20
def m_spec_CommonServers_22 : Unit → MCode := fun _ => .seq m_spec_CommonServers_1 m_spec_CommonServers_21
def m_spec_CommonServers : MCode := m_spec_CommonServers_22 ()
def h_spec_CommonServers : Hints := [(0, [0, 1], [], [], []), (1, [0, 1, 5], [], [], []), (2, [0, 1, 5, 6], [], [], []), (3, [0, 1, 5, 6, 11], [], [], []), (5, [0, 1, 5, 6, 19], [], [], []), (6, [0, 1, 5, 6], [], [], []), (4, [0, 1, 5, 6], [], [], []), (7, [4], [], [], [])]
def r_spec_CommonServers : List RV := [.t 4]
abbrev n_spec_CommonServers : Nat := 24
theorem k_spec_CommonServers : Known Pr mu n_spec_CommonServers m_spec_CommonServers r_spec_CommonServers Go.Proofs.Try.f24.ntmps := .of h_spec_CommonServers hm Go.Proofs.Try.func24 (by kernel_rfl) (by kernel_rfl) (by kernel_rfl) (by kernel_rfl)
def m_spec_WithoutServers_1 : Unit → MCode := fun _ => .region [] [⟨(some 4), .mv (.const (.slice none 0 0)), none, []⟩] [0, 1]
def m_spec_WithoutServers_2 : Unit → MCode := fun _ => .region [] [⟨(some 7), .bsl 1 0 [.int .i64 0] [], none, []⟩,
    ⟨(some 5), .mv (.tmp 7), none, []⟩] [0, 1, 5]
def m_spec_WithoutServers_3 : Unit → MCode := fun _ => .region [] [⟨(some 6), .mv (.const (.int .i64 0)), none, []⟩] [0, 1, 5, 6]
def m_spec_WithoutServers_4 : Unit → MCode := fun _ => .region [] [⟨(some 8), .mv (.tmp 6), none, []⟩,
    ⟨(some 9), .mv (.tmp 0), none, []⟩,
    ⟨(some 10), .len false (.tmp 9), none, []⟩,
    ⟨(some 11), .bin .lss (.tmp 8) (.tmp 10), none, []⟩] [0, 1, 5, 6, 11]
def m_spec_WithoutServers_5 : Unit → MCode := fun _ => .cond (.tmp 11) (fun _ => .skip) (fun _ => .exit 0)
def m_spec_WithoutServers_6 : Unit → MCode := fun _ => .seq m_spec_WithoutServers_4 m_spec_WithoutServers_5
def m_spec_WithoutServers_7 : Unit → MCode := fun _ => .region [] [⟨(some 14), .mv (.tmp 1), none, []⟩,
    ⟨(some 15), .mv (.tmp 0), none, []⟩,
    ⟨(some 16), .mv (.tmp 6), none, []⟩,
    ⟨(some 17), .ia (.tmp 15) (.tmp 16) 1, none, []⟩,
    ⟨(some 18), .ld (.tmp 17) 1 false, none, []⟩,
    ⟨(some 19), .call 28 [(.tmp 14), (.tmp 18)], none, []⟩,
    ⟨(some 20), .not (.tmp 19), none, []⟩] [0, 1, 5, 6, 20]
def m_spec_WithoutServers_8 : Unit → MCode := fun _ => .region [] [⟨(some 21), .mv (.tmp 5), none, []⟩,
    ⟨(some 22), .mv (.tmp 0), none, []⟩,
    ⟨(some 23), .mv (.tmp 6), none, []⟩,
    ⟨(some 24), .ia (.tmp 22) (.tmp 23) 1, none, []⟩,
    ⟨(some 25), .ld (.tmp 24) 1 false, none, []⟩,
    ⟨(some 26), .call 60 [(.tmp 21), (.tmp 25)], none, []⟩,
    ⟨(some 5), .mv (.tmp 26), none, []⟩] [0, 1, 5, 6]
def m_spec_WithoutServers_9 : Unit → MCode := fun _ => .cond (.tmp 20) m_spec_WithoutServers_8 (fun _ => .skip)
def m_spec_WithoutServers_10 : Unit → MCode := fun _ => .seq m_spec_WithoutServers_7 m_spec_WithoutServers_9
def m_spec_WithoutServers_11 : Unit → MCode := fun _ => .block 1 m_spec_WithoutServers_10
def m_spec_WithoutServers_12 : Unit → MCode := fun _ => .region [] [⟨(some 12), .mv (.tmp 6), none, []⟩,
    ⟨(some 13), .bin .add (.tmp 12) (.const (.int .i64 1)), none, []⟩,
    ⟨(some 6), .mv (.tmp 13), none, []⟩] [0, 1, 5, 6]
def m_spec_WithoutServers_13 : Unit → MCode := fun _ => .seq m_spec_WithoutServers_11 m_spec_WithoutServers_12
def m_spec_WithoutServers_14 : Unit → MCode := fun _ => .seq m_spec_WithoutServers_6 m_spec_WithoutServers_13
def m_spec_WithoutServers_15 : Unit → MCode := fun _ => .loop m_spec_WithoutServers_14
def m_spec_WithoutServers_16 : Unit → MCode := fun _ => .block 0 m_spec_WithoutServers_15
def m_spec_WithoutServers_17 : Unit → MCode := fun _ => .seq m_spec_WithoutServers_3 m_spec_WithoutServers_16
def m_spec_WithoutServers_18 : Unit → MCode := fun _ => .region [] [⟨(some 27), .mv (.tmp 5), none, []⟩,
    ⟨(some 4), .mv (.tmp 27), none, []⟩] [4]
def m_spec_WithoutServers_19 : Unit → MCode := fun _ => .seq m_spec_WithoutServers_18 (fun _ => .ret)
def m_spec_WithoutServers_20 : Unit → MCode := fun _ => .seq m_spec_WithoutServers_17 m_spec_WithoutServers_19
def m_spec_WithoutServers_21 : Unit → MCode := fun _ => .seq m_spec_WithoutServers_2 m_spec_WithoutServers_20
def m_spec_WithoutServers_22 : Unit → MCode := fun _ => .seq m_spec_WithoutServers_1 m_spec_WithoutServers_21
def m_spec_WithoutServers : MCode := m_spec_WithoutServers_22 ()
def h_spec_WithoutServers : Hints := [(0, [0, 1], [], [], []), (1, [0, 1, 5], [], [], []), (2, [0, 1, 5, 6], [], [], []), (3, [0, 1, 5, 6, 11], [], [], []), (5, [0, 1, 5, 6, 20], [], [], []), (6, [0, 1, 5, 6], [], [], []), (4, [0, 1, 5, 6], [], [], []), (7, [4], [], [], [])]
def r_spec_WithoutServers : List RV := [.t 4]
abbrev n_spec_WithoutServers : Nat := 25
theorem k_spec_WithoutServers : Known Pr mu n_spec_WithoutServers m_spec_WithoutServers r_spec_WithoutServers Go.Proofs.Try.f25.ntmps := .of h_spec_WithoutServers hm Go.Proofs.Try.func25 (by kernel_rfl) (by kernel_rfl) (by kernel_rfl) (by kernel_rfl)
def m_impl_HasRoom_1 : Unit → MCode := fun _ => .region [] [⟨(some 4), .mv (.const (.bool false)), none, []⟩] [0, 1]
def m_impl_HasRoom_2 : Unit → MCode := fun _ => .region [] [⟨(some 5), .mv (.tmp 0), none, []⟩,
    ⟨(some 6), .call 62 [(.tmp 5)], none, []⟩,
    ⟨(some 7), .mv (.tmp 6), none, []⟩,
    ⟨(some 8), .mv (.tmp 1), (some (7, true)), []⟩,
    ⟨(some 9), .call 64 [(.tmp 8), (.const (.int .i64 0)), (.const (.int .i64 4))], (some (7, true)), []⟩,
    ⟨(some 10), .pick (.tmp 7) (.tmp 9) (.const (.bool false)), none, []⟩,
    ⟨(some 11), .mv (.tmp 10), none, []⟩,
    ⟨(some 12), .mv (.tmp 0), (some (11, true)), []⟩,
    ⟨(some 13), .mv (.tmp 1), (some (11, true)), []⟩,
    ⟨(some 14), .ia (.tmp 12) (.tmp 13) 3, (some (11, true)), []⟩,
    ⟨(some 15), .fa (.tmp 14) 2, (some (11, true)), []⟩,
    ⟨(some 16), .ld (.tmp 15) 1 false, (some (11, true)), []⟩,
    ⟨(some 17), .mv (.tmp 0), (some (11, true)), []⟩,
    ⟨(some 18), .mv (.tmp 1), (some (11, true)), []⟩,
    ⟨(some 19), .ia (.tmp 17) (.tmp 18) 3, (some (11, true)), [7, 8, 9, 10, 11]⟩,
    ⟨(some 20), .fa (.tmp 19) 1, (some (11, true)), [7, 8, 9, 10, 11]⟩,
    ⟨(some 21), .ld (.tmp 20) 1 false, (some (11, true)), [7, 8, 9, 10, 11]⟩,
    ⟨(some 22), .bin .lss (.tmp 16) (.tmp 21), (some (11, true)), []⟩,
    ⟨(some 23), .pick (.tmp 11) (.tmp 22) (.const (.bool false)), none, []⟩,
    ⟨(some 4), .mv (.tmp 23), none, []⟩] [4]
def m_impl_HasRoom_3 : Unit → MCode := fun _ => .seq m_impl_HasRoom_2 (fun _ => .ret)
def m_impl_HasRoom_4 : Unit → MCode := fun _ => .seq m_impl_HasRoom_1 m_impl_HasRoom_3
def m_impl_HasRoom : MCode := m_impl_HasRoom_4 ()
def h_impl_HasRoom : Hints := [(0, [0, 1], [], [], []), (1, [4], [[], [], [], [], [], [], [], [], [], [], [], [], [], [], [7, 8, 9, 10, 11], [7, 8, 9, 10, 11], [7, 8, 9, 10, 11]], [], [])]
def r_impl_HasRoom : List RV := [.t 4]
abbrev n_impl_HasRoom : Nat := 27
theorem k_impl_HasRoom : Known Pr mu n_impl_HasRoom m_impl_HasRoom r_impl_HasRoom Go.Proofs.Try.f27.ntmps := .of h_impl_HasRoom hm Go.Proofs.Try.func27 (by kernel_rfl) (by kernel_rfl) (by kernel_rfl) (by kernel_rfl)
def m_spec_HasServer_1 : Unit → MCode := fun _ => .region [] [⟨(some 4), .mv (.const (.bool false)), none, []⟩] [0, 1]
def m_spec_HasServer_2 : Unit → MCode := fun _ => .region [] [⟨(some 5), .mv (.const (.int .i64 0)), none, []⟩] [0, 1, 5]
def m_spec_HasServer_3 : Unit → MCode := fun _ => .region [] [⟨(some 6), .mv (.tmp 5), none, []⟩,
    ⟨(some 7), .mv (.tmp 0), none, []⟩,
    ⟨(some 8), .len false (.tmp 7), none, []⟩,
    ⟨(some 9), .bin .lss (.tmp 6) (.tmp 8), none, []⟩] [0, 1, 5, 9]
def m_spec_HasServer_4 : Unit → MCode := fun _ => .cond (.tmp 9) (fun _ => .skip) (fun _ => .exit 0)
def m_spec_HasServer_5 : Unit → MCode := fun _ => .seq m_spec_HasServer_3 m_spec_HasServer_4
def m_spec_HasServer_6 : Unit → MCode := fun _ => .region [] [⟨(some 12), .mv (.tmp 0), none, []⟩,
    ⟨(some 13), .mv (.tmp 5), none, []⟩,
    ⟨(some 14), .ia (.tmp 12) (.tmp 13) 1, none, []⟩,
    ⟨(some 15), .ld (.tmp 14) 1 false, none, []⟩,
    ⟨(some 16), .mv (.tmp 1), none, []⟩,
    ⟨(some 17), .bin .eql (.tmp 15) (.tmp 16), none, []⟩] [0, 1, 5, 17]
def m_spec_HasServer_7 : Unit → MCode := fun _ => .region [] [⟨(some 4), .mv (.const (.bool true)), none, []⟩] [4]
def m_spec_HasServer_8 : Unit → MCode := fun _ => .seq m_spec_HasServer_7 (fun _ => .ret)
def m_spec_HasServer_9 : Unit → MCode := fun _ => .cond (.tmp 17) m_spec_HasServer_8 (fun _ => .skip)
def m_spec_HasServer_10 : Unit → MCode := fun _ => .seq m_spec_HasServer_6 m_spec_HasServer_9
def m_spec_HasServer_11 : Unit → MCode := fun _ => .block 1 m_spec_HasServer_10
def m_spec_HasServer_12 : Unit → MCode := fun _ => .region [] [⟨(some 10), .mv (.tmp 5), none, []⟩,
    ⟨(some 11), .bin .add (.tmp 10) (.const (.int .i64 1)), none, []⟩,
    ⟨(some 5), .mv (.tmp 11), none, []⟩] [0, 1, 5]
def m_spec_HasServer_13 : Unit → MCode := fun _ => .seq m_spec_HasServer_11 m_spec_HasServer_12
def m_spec_HasServer_14 : Unit → MCode := fun _ => .seq m_spec_HasServer_5 m_spec_HasServer_13
def m_spec_HasServer_15 : Unit → MCode := fun _ => .loop m_spec_HasServer_14
def m_spec_HasServer_16 : Unit → MCode := fun _ => .block 0 m_spec_HasServer_15
def m_spec_HasServer_17 : Unit → MCode := fun _ => .seq m_spec_HasServer_2 m_spec_HasServer_16
def m_spec_HasServer_18 : Unit → MCode := fun _ => .region [] [⟨(some 4), .mv (.const (.bool false)), none, []⟩] [4]
def m_spec_HasServer_19 : Unit → MCode := fun _ => .seq m_spec_HasServer_18 (fun _ => .ret)
def m_spec_HasServer_20 : Unit → MCode := fun _ => .seq m_spec_HasServer_17 m_spec_HasServer_19
def m_spec_HasServer_21 : Unit → MCode := fun _ => .seq m_spec_HasServer_1 m_spec_HasServer_20
def m_spec_HasServer : MCode := m_spec_HasServer_21 ()
def h_spec_HasServer : Hints := [(0, [0, 1], [], [], []), (1, [0, 1, 5], [], [], []), (2, [0, 1, 5, 9], [], [], []), (4, [0, 1, 5, 17], [], [], []), (5, [4], [], [], []), (3, [0, 1, 5], [], [], []), (6, [4], [], [], [])]
def r_spec_HasServer : List RV := [.t 4]
abbrev n_spec_HasServer : Nat := 28
theorem k_spec_HasServer : Known Pr mu n_spec_HasServer m_spec_HasServer r_spec_HasServer Go.Proofs.Try.f28.ntmps := .of h_spec_HasServer hm Go.Proofs.Try.func28 (by kernel_rfl) (by kernel_rfl) (by kernel_rfl) (by kernel_rfl)
def m_impl_PickSpare_1 : Unit → MCode := fun _ => .region [] [⟨(some 6), .mv (.const (.int .i64 0)), none, []⟩] [0, 1, 2]
def m_impl_PickSpare_2 : Unit → MCode := fun _ => .region [] [⟨(some 7), .mv (.const (.int .i64 (-1))), none, []⟩] [0, 1, 2, 7]
def m_impl_PickSpare_3 : Unit → MCode := fun _ => .region [] [⟨(some 12), .mv (.tmp 1), none, []⟩,
    ⟨(some 13), .call 63 [(.tmp 12)], none, []⟩,
    ⟨(some 14), .not (.tmp 13), none, []⟩] [0, 1, 2, 7, 14]
def m_impl_PickSpare_4 : Unit → MCode := fun _ => .region [] [⟨(some 15), .mv (.tmp 7), none, []⟩,
    ⟨(some 6), .mv (.tmp 15), none, []⟩] [6]
def m_impl_PickSpare_5 : Unit → MCode := fun _ => .seq m_impl_PickSpare_4 (fun _ => .ret)
def m_impl_PickSpare_6 : Unit → MCode := fun _ => .cond (.tmp 14) m_impl_PickSpare_5 (fun _ => .skip)
def m_impl_PickSpare_7 : Unit → MCode := fun _ => .seq m_impl_PickSpare_3 m_impl_PickSpare_6
def m_impl_PickSpare_8 : Unit → MCode := fun _ => .region [] [⟨(some 16), .mv (.tmp 0), none, []⟩,
    ⟨(some 17), .mv (.tmp 1), none, []⟩,
    ⟨(some 18), .call 32 [(.tmp 16), (.tmp 17)], none, []⟩,
    ⟨(some 8), .mv (.tmp 18), none, []⟩] [0, 1, 2, 7, 8]
def m_impl_PickSpare_9 : Unit → MCode := fun _ => .region [] [⟨(some 19), .mv (.const (.int .i64 0)), none, []⟩] [0, 1, 2, 7, 8, 19]
def m_impl_PickSpare_10 : Unit → MCode := fun _ => .region [] [⟨(some 20), .bin .lss (.tmp 19) (.const (.int .i64 5)), none, []⟩] [0, 1, 2, 7, 8, 19, 20]
def m_impl_PickSpare_11 : Unit → MCode := fun _ => .cond (.tmp 20) (fun _ => .skip) (fun _ => .exit 0)
def m_impl_PickSpare_12 : Unit → MCode := fun _ => .region [] [⟨(some 21), .mv (.tmp 19), none, []⟩,
    ⟨(some 9), .mv (.tmp 21), none, []⟩] [0, 1, 2, 7, 8, 9, 19]
def m_impl_PickSpare_13 : Unit → MCode := fun _ => .region [] [⟨(some 22), .mv (.tmp 0), none, []⟩,
    ⟨(some 23), .mv (.tmp 9), none, []⟩,
    ⟨(some 24), .call 27 [(.tmp 22), (.tmp 23)], none, []⟩,
    ⟨(some 25), .not (.tmp 24), none, []⟩,
    ⟨(some 26), .mv (.tmp 25), none, []⟩,
    ⟨(some 27), .mv (.tmp 1), (some (26, false)), []⟩,
    ⟨(some 28), .mv (.tmp 9), (some (26, false)), []⟩,
    ⟨(some 29), .call 75 [(.tmp 27), (.tmp 28)], (some (26, false)), []⟩,
    ⟨(some 30), .pick (.tmp 26) (.const (.bool true)) (.tmp 29), none, []⟩,
    ⟨(some 31), .mv (.tmp 30), none, []⟩,
    ⟨(some 32), .mv (.tmp 2), (some (31, false)), []⟩,
    ⟨(some 33), .mv (.tmp 9), (some (31, false)), []⟩,
    ⟨(some 34), .call 75 [(.tmp 32), (.tmp 33)], (some (31, false)), []⟩,
    ⟨(some 35), .pick (.tmp 31) (.const (.bool true)) (.tmp 34), none, []⟩] [0, 1, 2, 7, 8, 9, 19, 35]
def m_impl_PickSpare_14 : Unit → MCode := fun _ => .cond (.tmp 35) (fun _ => .exit 1) (fun _ => .skip)
def m_impl_PickSpare_15 : Unit → MCode := fun _ => .seq m_impl_PickSpare_13 m_impl_PickSpare_14
def m_impl_PickSpare_16 : Unit → MCode := fun _ => .region [] [⟨(some 36), .mv (.tmp 7), none, []⟩,
    ⟨(some 37), .bin .lss (.tmp 36) (.const (.int .i64 0)), none, []⟩] [0, 1, 2, 7, 8, 9, 19, 37]
def m_impl_PickSpare_17 : Unit → MCode := fun _ => .region [] [⟨(some 38), .mv (.tmp 9), none, []⟩,
    ⟨(some 7), .mv (.tmp 38), none, []⟩] [0, 1, 2, 7, 8, 19]
def m_impl_PickSpare_18 : Unit → MCode := fun _ => .seq m_impl_PickSpare_17 (fun _ => .exit 1)
def m_impl_PickSpare_19 : Unit → MCode := fun _ => .cond (.tmp 37) m_impl_PickSpare_18 (fun _ => .skip)
def m_impl_PickSpare_20 : Unit → MCode := fun _ => .seq m_impl_PickSpare_16 m_impl_PickSpare_19
def m_impl_PickSpare_21 : Unit → MCode := fun _ => .region [] [⟨(some 39), .mv (.tmp 8), none, []⟩,
    ⟨(some 40), .mv (.tmp 0), none, []⟩,
    ⟨(some 41), .mv (.tmp 7), none, []⟩,
    ⟨(some 42), .ia (.tmp 40) (.tmp 41) 3, none, [0]⟩,
    ⟨(some 43), .fa (.tmp 42) 0, none, [0]⟩,
    ⟨(some 44), .ld (.tmp 43) 1 false, none, [0]⟩,
    ⟨(some 45), .call 75 [(.tmp 39), (.tmp 44)], none, []⟩,
    ⟨(some 46), .mv (.tmp 8), none, []⟩,
    ⟨(some 47), .mv (.tmp 0), none, []⟩,
    ⟨(some 48), .mv (.tmp 9), none, []⟩,
    ⟨(some 49), .ia (.tmp 47) (.tmp 48) 3, none, [0, 1, 2, 3, 4, 5, 6, 7]⟩,
    ⟨(some 50), .fa (.tmp 49) 0, none, [0, 1, 2, 3, 4, 5, 6, 7]⟩,
    ⟨(some 51), .ld (.tmp 50) 1 false, none, [0, 1, 2, 3, 4, 5, 6, 7]⟩,
    ⟨(some 52), .call 75 [(.tmp 46), (.tmp 51)], none, []⟩,
    ⟨(some 10), .mv (.tmp 45), none, []⟩,
    ⟨(some 11), .mv (.tmp 52), none, []⟩] [0, 1, 2, 7, 8, 9, 10, 11, 19]
def m_impl_PickSpare_22 : Unit → MCode := fun _ => .region [] [⟨(some 53), .mv (.tmp 10), none, []⟩,
    ⟨(some 54), .mv (.tmp 53), none, []⟩,
    ⟨(some 55), .mv (.tmp 11), (some (54, true)), []⟩,
    ⟨(some 56), .not (.tmp 55), (some (54, true)), []⟩,
    ⟨(some 57), .pick (.tmp 54) (.tmp 56) (.const (.bool false)), none, []⟩,
    ⟨(some 58), .mv (.tmp 57), none, []⟩,
    ⟨(some 59), .mv (.tmp 10), (some (58, false)), []⟩,
    ⟨(some 60), .mv (.tmp 11), (some (58, false)), []⟩,
    ⟨(some 61), .bbin .eql (.tmp 59) (.tmp 60), (some (58, false)), []⟩,
    ⟨(some 62), .mv (.tmp 61), (some (58, false)), []⟩,
    ⟨(some 63), .mv (.tmp 0), (some (62, true)), []⟩,
    ⟨(some 64), .mv (.tmp 9), (some (62, true)), []⟩,
    ⟨(some 65), .ia (.tmp 63) (.tmp 64) 3, (some (62, true)), []⟩,
    ⟨(some 66), .fa (.tmp 65) 2, (some (62, true)), []⟩,
    ⟨(some 67), .ld (.tmp 66) 1 false, (some (62, true)), []⟩,
    ⟨(some 68), .mv (.tmp 0), (some (62, true)), []⟩,
    ⟨(some 69), .mv (.tmp 7), (some (62, true)), []⟩,
    ⟨(some 70), .ia (.tmp 68) (.tmp 69) 3, (some (62, true)), [10, 11, 12, 13, 14]⟩,
    ⟨(some 71), .fa (.tmp 70) 2, (some (62, true)), [10, 11, 12, 13, 14]⟩,
    ⟨(some 72), .ld (.tmp 71) 1 false, (some (62, true)), [10, 11, 12, 13, 14]⟩,
    ⟨(some 73), .bin .lss (.tmp 67) (.tmp 72), (some (62, true)), []⟩,
    ⟨(some 74), .pick (.tmp 62) (.tmp 73) (.const (.bool false)), (some (58, false)), []⟩,
    ⟨(some 75), .pick (.tmp 58) (.const (.bool true)) (.tmp 74), none, []⟩] [0, 1, 2, 7, 8, 9, 19, 75]
def m_impl_PickSpare_23 : Unit → MCode := fun _ => .region [] [⟨(some 76), .mv (.tmp 9), none, []⟩,
    ⟨(some 7), .mv (.tmp 76), none, []⟩] [0, 1, 2, 7, 8, 19]
def m_impl_PickSpare_24 : Unit → MCode := fun _ => .cond (.tmp 75) m_impl_PickSpare_23 (fun _ => .skip)
def m_impl_PickSpare_25 : Unit → MCode := fun _ => .seq m_impl_PickSpare_22 m_impl_PickSpare_24
def m_impl_PickSpare_26 : Unit → MCode := fun _ => .seq m_impl_PickSpare_21 m_impl_PickSpare_25
def m_impl_PickSpare_27 : Unit → MCode := fun _ => .seq m_impl_PickSpare_20 m_impl_PickSpare_26
def m_impl_PickSpare_28 : Unit → MCode := fun _ => .seq m_impl_PickSpare_15 m_impl_PickSpare_27
def m_impl_PickSpare_29 : Unit → MCode := fun _ => .seq m_impl_PickSpare_12 m_impl_PickSpare_28
def m_impl_PickSpare_30 : Unit → MCode := fun _ => .block 1 m_impl_PickSpare_29
def m_impl_PickSpare_31 : Unit → MCode := fun _ => .region [] [⟨(some 77), .bin .add (.tmp 19) (.const (.int .i64 1)), none, []⟩,
    ⟨(some 19), .mv (.tmp 77), none, []⟩] [0, 1, 2, 7, 8, 19]
def m_impl_PickSpare_32 : Unit → MCode := fun _ => .seq m_impl_PickSpare_30 m_impl_PickSpare_31
def m_impl_PickSpare_33 : Unit → MCode := fun _ => .seq m_impl_PickSpare_11 m_impl_PickSpare_32
def m_impl_PickSpare_34 : Unit → MCode := fun _ => .seq m_impl_PickSpare_10 m_impl_PickSpare_33
def m_impl_PickSpare_35 : Unit → MCode := fun _ => .loop m_impl_PickSpare_34
def m_impl_PickSpare_36 : Unit → MCode := fun _ => .block 0 m_impl_PickSpare_35
def m_impl_PickSpare_37 : Unit → MCode := fun _ => .seq m_impl_PickSpare_9 m_impl_PickSpare_36
def m_impl_PickSpare_38 : Unit → MCode := fun _ => .region [] [⟨(some 78), .mv (.tmp 7), none, []⟩,
    ⟨(some 6), .mv (.tmp 78), none, []⟩] [6]
def m_impl_PickSpare_39 : Unit → MCode := fun _ => .seq m_impl_PickSpare_38 (fun _ => .ret)
def m_impl_PickSpare_40 : Unit → MCode := fun _ => .seq m_impl_PickSpare_37 m_impl_PickSpare_39
def m_impl_PickSpare_41 : Unit → MCode := fun _ => .seq m_impl_PickSpare_8 m_impl_PickSpare_40
def m_impl_PickSpare_42 : Unit → MCode := fun _ => .seq m_impl_PickSpare_7 m_impl_PickSpare_41
def m_impl_PickSpare_43 : Unit → MCode := fun _ => .seq m_impl_PickSpare_2 m_impl_PickSpare_42
def m_impl_PickSpare_44 : Unit → MCode := fun _ => .seq m_impl_PickSpare_1 m_impl_PickSpare_43
def m_impl_PickSpare : MCode := m_impl_PickSpare_44 ()
def h_impl_PickSpare : Hints := [(0, [0, 1, 2], [], [], []), (1, [0, 1, 2, 7], [], [], []), (2, [0, 1, 2, 7, 14], [], [], []), (3, [6], [], [], []), (4, [0, 1, 2, 7, 8], [], [], []), (5, [0, 1, 2, 7, 8, 19], [], [], []), (6, [0, 1, 2, 7, 8, 19, 20], [], [], []), (7, [0, 1, 2, 7, 8, 9, 19], [], [], []), (8, [0, 1, 2, 7, 8, 9, 19, 35], [], [], []), (9, [0, 1, 2, 7, 8, 9, 19, 37], [], [], []), (10, [0, 1, 2, 7, 8, 19], [], [], []), (11, [0, 1, 2, 7, 8, 9, 10, 11, 19], [[], [], [], [0], [0], [0], [], [], [], [], [0, 1, 2, 3, 4, 5, 6, 7], [0, 1, 2, 3, 4, 5, 6, 7], [0, 1, 2, 3, 4, 5, 6, 7]], [], []), (12, [0, 1, 2, 7, 8, 9, 19, 75], [[], [], [], [], [], [], [], [], [], [], [], [], [], [], [], [], [], [10, 11, 12, 13, 14], [10, 11, 12, 13, 14], [10, 11, 12, 13, 14]], [], []), (13, [0, 1, 2, 7, 8, 19], [], [], []), (14, [0, 1, 2, 7, 8, 19], [], [], []), (15, [6], [], [], [])]
def r_impl_PickSpare : List RV := [.t 6]
abbrev n_impl_PickSpare : Nat := 30
theorem k_impl_PickSpare : Known Pr mu n_impl_PickSpare m_impl_PickSpare r_impl_PickSpare Go.Proofs.Try.f30.ntmps := .of h_impl_PickSpare hm Go.Proofs.Try.func30 (by kernel_rfl) (by kernel_rfl) (by kernel_rfl) (by kernel_rfl)
def m_spec_PickSpare_1 : Unit → MCode := fun _ => .region [] [⟨(some 6), .mv (.const (.int .i64 0)), none, []⟩] [0, 1, 2]
def m_spec_PickSpare_2 : Unit → MCode := fun _ => .region [] [⟨(some 7), .mv (.const (.int .i64 (-1))), none, []⟩] [0, 1, 2, 7]
def m_spec_PickSpare_3 : Unit → MCode := fun _ => .region [] [⟨(some 10), .mv (.tmp 0), none, []⟩,
    ⟨(some 11), .mv (.tmp 1), none, []⟩,
    ⟨(some 12), .call 33 [(.tmp 10), (.tmp 11)], none, []⟩,
    ⟨(some 8), .mv (.tmp 12), none, []⟩] [0, 1, 2, 7, 8]
def m_spec_PickSpare_4 : Unit → MCode := fun _ => .region [] [⟨(some 9), .mv (.const (.int .i64 0)), none, []⟩] [0, 1, 2, 7, 8, 9]
def m_spec_PickSpare_5 : Unit → MCode := fun _ => .region [] [⟨(some 13), .mv (.tmp 9), none, []⟩,
    ⟨(some 14), .bin .lss (.tmp 13) (.const (.int .i64 5)), none, []⟩,
    ⟨(some 15), .mv (.tmp 14), none, []⟩,
    ⟨(some 16), .mv (.tmp 1), (some (15, true)), []⟩,
    ⟨(some 17), .call 23 [(.tmp 16)], (some (15, true)), []⟩,
    ⟨(some 18), .pick (.tmp 15) (.tmp 17) (.const (.bool false)), none, []⟩] [0, 1, 2, 7, 8, 9, 18]
def m_spec_PickSpare_6 : Unit → MCode := fun _ => .cond (.tmp 18) (fun _ => .skip) (fun _ => .exit 0)
def m_spec_PickSpare_7 : Unit → MCode := fun _ => .seq m_spec_PickSpare_5 m_spec_PickSpare_6
def m_spec_PickSpare_8 : Unit → MCode := fun _ => .region [] [⟨(some 21), .mv (.tmp 0), none, []⟩,
    ⟨(some 22), .mv (.tmp 9), none, []⟩,
    ⟨(some 23), .call 76 [(.tmp 21), (.tmp 22)], none, []⟩,
    ⟨(some 24), .not (.tmp 23), none, []⟩,
    ⟨(some 25), .mv (.tmp 24), none, []⟩,
    ⟨(some 26), .mv (.tmp 1), (some (25, false)), []⟩,
    ⟨(some 27), .mv (.tmp 9), (some (25, false)), []⟩,
    ⟨(some 28), .call 28 [(.tmp 26), (.tmp 27)], (some (25, false)), []⟩,
    ⟨(some 29), .pick (.tmp 25) (.const (.bool true)) (.tmp 28), none, []⟩,
    ⟨(some 30), .mv (.tmp 29), none, []⟩,
    ⟨(some 31), .mv (.tmp 2), (some (30, false)), []⟩,
    ⟨(some 32), .mv (.tmp 9), (some (30, false)), []⟩,
    ⟨(some 33), .call 28 [(.tmp 31), (.tmp 32)], (some (30, false)), []⟩,
    ⟨(some 34), .pick (.tmp 30) (.const (.bool true)) (.tmp 33), none, []⟩] [0, 1, 2, 7, 8, 9, 34]
def m_spec_PickSpare_9 : Unit → MCode := fun _ => .cond (.tmp 34) (fun _ => .exit 1) (fun _ => .skip)
def m_spec_PickSpare_10 : Unit → MCode := fun _ => .seq m_spec_PickSpare_8 m_spec_PickSpare_9
def m_spec_PickSpare_11 : Unit → MCode := fun _ => .region [] [⟨(some 35), .mv (.tmp 7), none, []⟩,
    ⟨(some 36), .bin .lss (.tmp 35) (.const (.int .i64 0)), none, []⟩,
    ⟨(some 37), .mv (.tmp 36), none, []⟩,
    ⟨(some 38), .mv (.tmp 0), (some (37, false)), []⟩,
    ⟨(some 39), .mv (.tmp 8), (some (37, false)), []⟩,
    ⟨(some 40), .mv (.tmp 9), (some (37, false)), []⟩,
    ⟨(some 41), .mv (.tmp 7), (some (37, false)), []⟩,
    ⟨(some 42), .call 77 [(.tmp 38), (.tmp 39), (.tmp 40), (.tmp 41)], (some (37, false)), []⟩,
    ⟨(some 43), .pick (.tmp 37) (.const (.bool true)) (.tmp 42), none, []⟩] [0, 1, 2, 7, 8, 9, 43]
def m_spec_PickSpare_12 : Unit → MCode := fun _ => .region [] [⟨(some 44), .mv (.tmp 9), none, []⟩,
    ⟨(some 7), .mv (.tmp 44), none, []⟩] [0, 1, 2, 7, 8, 9]
def m_spec_PickSpare_13 : Unit → MCode := fun _ => .cond (.tmp 43) m_spec_PickSpare_12 (fun _ => .skip)
def m_spec_PickSpare_14 : Unit → MCode := fun _ => .seq m_spec_PickSpare_11 m_spec_PickSpare_13
def m_spec_PickSpare_15 : Unit → MCode := fun _ => .seq m_spec_PickSpare_10 m_spec_PickSpare_14
def m_spec_PickSpare_16 : Unit → MCode := fun _ => .block 1 m_spec_PickSpare_15
def m_spec_PickSpare_17 : Unit → MCode := fun _ => .region [] [⟨(some 19), .mv (.tmp 9), none, []⟩,
    ⟨(some 20), .bin .add (.tmp 19) (.const (.int .i64 1)), none, []⟩,
    ⟨(some 9), .mv (.tmp 20), none, []⟩] [0, 1, 2, 7, 8, 9]
def m_spec_PickSpare_18 : Unit → MCode := fun _ => .seq m_spec_PickSpare_16 m_spec_PickSpare_17
def m_spec_PickSpare_19 : Unit → MCode := fun _ => .seq m_spec_PickSpare_7 m_spec_PickSpare_18
def m_spec_PickSpare_20 : Unit → MCode := fun _ => .loop m_spec_PickSpare_19
def m_spec_PickSpare_21 : Unit → MCode := fun _ => .block 0 m_spec_PickSpare_20
def m_spec_PickSpare_22 : Unit → MCode := fun _ => .seq m_spec_PickSpare_4 m_spec_PickSpare_21
def m_spec_PickSpare_23 : Unit → MCode := fun _ => .region [] [⟨(some 45), .mv (.tmp 7), none, []⟩,
    ⟨(some 6), .mv (.tmp 45), none, []⟩] [6]
def m_spec_PickSpare_24 : Unit → MCode := fun _ => .seq m_spec_PickSpare_23 (fun _ => .ret)
def m_spec_PickSpare_25 : Unit → MCode := fun _ => .seq m_spec_PickSpare_22 m_spec_PickSpare_24
def m_spec_PickSpare_26 : Unit → MCode := fun _ => .seq m_spec_PickSpare_3 m_spec_PickSpare_25
def m_spec_PickSpare_27 : Unit → MCode := fun _ => .seq m_spec_PickSpare_2 m_spec_PickSpare_26
def m_spec_PickSpare_28 : Unit → MCode := fun _ => .seq m_spec_PickSpare_1 m_spec_PickSpare_27
def m_spec_PickSpare : MCode := m_spec_PickSpare_28 ()
def h_spec_PickSpare : Hints := [(0, [0, 1, 2], [], [], []), (1, [0, 1, 2, 7], [], [], []), (2, [0, 1, 2, 7, 8], [], [], []), (3, [0, 1, 2, 7, 8, 9], [], [], []), (4, [0, 1, 2, 7, 8, 9, 18], [], [], []), (6, [0, 1, 2, 7, 8, 9, 34], [], [], []), (7, [0, 1, 2, 7, 8, 9, 43], [], [], []), (8, [0, 1, 2, 7, 8, 9], [], [], []), (5, [0, 1, 2, 7, 8, 9], [], [], []), (9, [6], [], [], [])]
def r_spec_PickSpare : List RV := [.t 6]
abbrev n_spec_PickSpare : Nat := 31
theorem k_spec_PickSpare : Known Pr mu n_spec_PickSpare m_spec_PickSpare r_spec_PickSpare Go.Proofs.Try.f31.ntmps := .of h_spec_PickSpare hm Go.Proofs.Try.func31 (by kernel_rfl) (by kernel_rfl) (by kernel_rfl) (by kernel_rfl)
def m_impl_RacksOf_1 : Unit → MCode := fun _ => .region [] [⟨(some 4), .mv (.const (.slice none 0 0)), none, []⟩] [0, 1]
def m_impl_RacksOf_2 : Unit → MCode := fun _ => .region [] [⟨(some 8), .bsl 1 0 [.int .i64 0] [], none, []⟩,
    ⟨(some 5), .mv (.tmp 8), none, []⟩] [0, 1, 5]
def m_impl_RacksOf_3 : Unit → MCode := fun _ => .region [] [⟨(some 9), .mv (.tmp 0), none, []⟩,
    ⟨(some 10), .call 62 [(.tmp 9)], none, []⟩,
    ⟨(some 11), .not (.tmp 10), none, []⟩,
    ⟨(some 12), .mv (.tmp 11), none, []⟩,
    ⟨(some 13), .mv (.tmp 1), (some (12, false)), []⟩,
    ⟨(some 14), .call 63 [(.tmp 13)], (some (12, false)), []⟩,
    ⟨(some 15), .not (.tmp 14), (some (12, false)), []⟩,
    ⟨(some 16), .pick (.tmp 12) (.const (.bool true)) (.tmp 15), none, []⟩] [0, 1, 5, 16]
def m_impl_RacksOf_4 : Unit → MCode := fun _ => .region [] [⟨(some 17), .mv (.tmp 5), none, []⟩,
    ⟨(some 4), .mv (.tmp 17), none, []⟩] [4]
def m_impl_RacksOf_5 : Unit → MCode := fun _ => .seq m_impl_RacksOf_4 (fun _ => .ret)
def m_impl_RacksOf_6 : Unit → MCode := fun _ => .cond (.tmp 16) m_impl_RacksOf_5 (fun _ => .skip)
def m_impl_RacksOf_7 : Unit → MCode := fun _ => .seq m_impl_RacksOf_3 m_impl_RacksOf_6
def m_impl_RacksOf_8 : Unit → MCode := fun _ => .region [] [⟨(some 18), .mv (.tmp 1), none, []⟩,
    ⟨(some 19), .len false (.tmp 18), none, []⟩,
    ⟨(some 20), .mv (.const (.int .i64 0)), none, []⟩] [0, 5, 18, 19, 20]
def m_impl_RacksOf_9 : Unit → MCode := fun _ => .region [] [⟨(some 21), .bin .lss (.tmp 20) (.tmp 19), none, []⟩] [0, 5, 18, 19, 20, 21]
def m_impl_RacksOf_10 : Unit → MCode := fun _ => .cond (.tmp 21) (fun _ => .skip) (fun _ => .exit 0)
def m_impl_RacksOf_11 : Unit → MCode := fun _ => .region [] [⟨(some 22), .ia (.tmp 18) (.tmp 20) 1, none, []⟩,
    ⟨(some 23), .ld (.tmp 22) 1 false, none, []⟩,
    ⟨(some 7), .mv (.tmp 23), none, []⟩] [0, 5, 7, 18, 19, 20]
def m_impl_RacksOf_12 : Unit → MCode := fun _ => .region [] [⟨(some 24), .mv (.tmp 5), none, []⟩,
    ⟨(some 25), .mv (.tmp 0), none, []⟩,
    ⟨(some 26), .mv (.tmp 7), none, []⟩,
    ⟨(some 27), .ia (.tmp 25) (.tmp 26) 3, none, []⟩,
    ⟨(some 28), .fa (.tmp 27) 0, none, []⟩,
    ⟨(some 29), .ld (.tmp 28) 1 false, none, []⟩,
    ⟨(some 30), .bsl 1 1 [.int .i64 0] [(0, (.tmp 29))], none, []⟩,
    ⟨(some 31), .app (.tmp 24) (.tmp 30) 1 8, none, []⟩,
    ⟨(some 5), .mv (.tmp 31), none, []⟩] [0, 5, 18, 19, 20]
def m_impl_RacksOf_13 : Unit → MCode := fun _ => .seq m_impl_RacksOf_11 m_impl_RacksOf_12
def m_impl_RacksOf_14 : Unit → MCode := fun _ => .block 1 m_impl_RacksOf_13
def m_impl_RacksOf_15 : Unit → MCode := fun _ => .region [] [⟨(some 32), .bin .add (.tmp 20) (.const (.int .i64 1)), none, []⟩,
    ⟨(some 20), .mv (.tmp 32), none, []⟩] [0, 5, 18, 19, 20]
def m_impl_RacksOf_16 : Unit → MCode := fun _ => .seq m_impl_RacksOf_14 m_impl_RacksOf_15
def m_impl_RacksOf_17 : Unit → MCode := fun _ => .seq m_impl_RacksOf_10 m_impl_RacksOf_16
def m_impl_RacksOf_18 : Unit → MCode := fun _ => .seq m_impl_RacksOf_9 m_impl_RacksOf_17
def m_impl_RacksOf_19 : Unit → MCode := fun _ => .loop m_impl_RacksOf_18
def m_impl_RacksOf_20 : Unit → MCode := fun _ => .block 0 m_impl_RacksOf_19
def m_impl_RacksOf_21 : Unit → MCode := fun _ => .seq m_impl_RacksOf_8 m_impl_RacksOf_20
def m_impl_RacksOf_22 : Unit → MCode := fun _ => .region [] [⟨(some 33), .mv (.tmp 5), none, []⟩,
    ⟨(some 34), .call 78 [(.tmp 33)], none, []⟩,
    ⟨(some 4), .mv (.tmp 34), none, []⟩] [4]
def m_impl_RacksOf_23 : Unit → MCode := fun _ => .seq m_impl_RacksOf_22 (fun _ => .ret)
def m_impl_RacksOf_24 : Unit → MCode := fun _ => .seq m_impl_RacksOf_21 m_impl_RacksOf_23
def m_impl_RacksOf_25 : Unit → MCode := fun _ => .seq m_impl_RacksOf_7 m_impl_RacksOf_24
def m_impl_RacksOf_26 : Unit → MCode := fun _ => .seq m_impl_RacksOf_2 m_impl_RacksOf_25
def m_impl_RacksOf_27 : Unit → MCode := fun _ => .seq m_impl_RacksOf_1 m_impl_RacksOf_26
def m_impl_RacksOf : MCode := m_impl_RacksOf_27 ()
def h_impl_RacksOf : Hints := [(0, [0, 1], [], [], []), (1, [0, 1, 5], [], [], []), (2, [0, 1, 5, 16], [], [], []), (3, [4], [], [], []), (4, [0, 5, 18, 19, 20], [], [], []), (5, [0, 5, 18, 19, 20, 21], [], [], []), (6, [0, 5, 7, 18, 19, 20], [], [], []), (7, [0, 5, 18, 19, 20], [], [], []), (8, [0, 5, 18, 19, 20], [], [], []), (9, [4], [], [], [])]
def r_impl_RacksOf : List RV := [.t 4]
abbrev n_impl_RacksOf : Nat := 32
theorem k_impl_RacksOf : Known Pr mu n_impl_RacksOf m_impl_RacksOf r_impl_RacksOf Go.Proofs.Try.f32.ntmps := .of h_impl_RacksOf hm Go.Proofs.Try.func32 (by kernel_rfl) (by kernel_rfl) (by kernel_rfl) (by kernel_rfl)
def m_spec_RacksOf_1 : Unit → MCode := fun _ => .region [] [⟨(some 4), .mv (.const (.slice none 0 0)), none, []⟩] [0, 1]
def m_spec_RacksOf_2 : Unit → MCode := fun _ => .region [] [⟨(some 7), .bsl 1 0 [.int .i64 0] [], none, []⟩,
    ⟨(some 5), .mv (.tmp 7), none, []⟩] [0, 1, 5]
def m_spec_RacksOf_3 : Unit → MCode := fun _ => .region [] [⟨(some 6), .mv (.const (.int .i64 0)), none, []⟩] [0, 1, 5, 6]
def m_spec_RacksOf_4 : Unit → MCode := fun _ => .region [] [⟨(some 8), .mv (.tmp 6), none, []⟩,
    ⟨(some 9), .mv (.tmp 1), none, []⟩,
    ⟨(some 10), .len false (.tmp 9), none, []⟩,
    ⟨(some 11), .bin .lss (.tmp 8) (.tmp 10), none, []⟩,
    ⟨(some 12), .mv (.tmp 11), none, []⟩,
    ⟨(some 13), .mv (.tmp 0), (some (12, true)), []⟩,
    ⟨(some 14), .call 22 [(.tmp 13)], (some (12, true)), []⟩,
    ⟨(some 15), .pick (.tmp 12) (.tmp 14) (.const (.bool false)), none, []⟩,
    ⟨(some 16), .mv (.tmp 15), none, []⟩,
    ⟨(some 17), .mv (.tmp 1), (some (16, true)), []⟩,
    ⟨(some 18), .call 23 [(.tmp 17)], (some (16, true)), []⟩,
    ⟨(some 19), .pick (.tmp 16) (.tmp 18) (.const (.bool false)), none, []⟩] [0, 1, 5, 6, 19]
def m_spec_RacksOf_5 : Unit → MCode := fun _ => .cond (.tmp 19) (fun _ => .skip) (fun _ => .exit 0)
def m_spec_RacksOf_6 : Unit → MCode := fun _ => .seq m_spec_RacksOf_4 m_spec_RacksOf_5
def m_spec_RacksOf_7 : Unit → MCode := fun _ => .region [] [⟨(some 22), .mv (.tmp 5), none, []⟩,
    ⟨(some 23), .mv (.tmp 0), none, []⟩,
    ⟨(some 24), .mv (.tmp 1), none, []⟩,
    ⟨(some 25), .mv (.tmp 6), none, []⟩,
    ⟨(some 26), .ia (.tmp 24) (.tmp 25) 1, none, []⟩,
    ⟨(some 27), .ld (.tmp 26) 1 false, none, []⟩,
    ⟨(some 28), .ia (.tmp 23) (.tmp 27) 3, none, []⟩,
    ⟨(some 29), .fa (.tmp 28) 0, none, []⟩,
    ⟨(some 30), .ld (.tmp 29) 1 false, none, []⟩,
    ⟨(some 31), .call 60 [(.tmp 22), (.tmp 30)], none, []⟩,
    ⟨(some 5), .mv (.tmp 31), none, []⟩] [0, 1, 5, 6]
def m_spec_RacksOf_8 : Unit → MCode := fun _ => .block 1 m_spec_RacksOf_7
def m_spec_RacksOf_9 : Unit → MCode := fun _ => .region [] [⟨(some 20), .mv (.tmp 6), none, []⟩,
    ⟨(some 21), .bin .add (.tmp 20) (.const (.int .i64 1)), none, []⟩,
    ⟨(some 6), .mv (.tmp 21), none, []⟩] [0, 1, 5, 6]
def m_spec_RacksOf_10 : Unit → MCode := fun _ => .seq m_spec_RacksOf_8 m_spec_RacksOf_9
def m_spec_RacksOf_11 : Unit → MCode := fun _ => .seq m_spec_RacksOf_6 m_spec_RacksOf_10
def m_spec_RacksOf_12 : Unit → MCode := fun _ => .loop m_spec_RacksOf_11
def m_spec_RacksOf_13 : Unit → MCode := fun _ => .block 0 m_spec_RacksOf_12
def m_spec_RacksOf_14 : Unit → MCode := fun _ => .seq m_spec_RacksOf_3 m_spec_RacksOf_13
def m_spec_RacksOf_15 : Unit → MCode := fun _ => .region [] [⟨(some 32), .mv (.tmp 5), none, []⟩,
    ⟨(some 4), .mv (.tmp 32), none, []⟩] [4]
def m_spec_RacksOf_16 : Unit → MCode := fun _ => .seq m_spec_RacksOf_15 (fun _ => .ret)
def m_spec_RacksOf_17 : Unit → MCode := fun _ => .seq m_spec_RacksOf_14 m_spec_RacksOf_16
def m_spec_RacksOf_18 : Unit → MCode := fun _ => .seq m_spec_RacksOf_2 m_spec_RacksOf_17
def m_spec_RacksOf_19 : Unit → MCode := fun _ => .seq m_spec_RacksOf_1 m_spec_RacksOf_18
def m_spec_RacksOf : MCode := m_spec_RacksOf_19 ()
def h_spec_RacksOf : Hints := [(0, [0, 1], [], [], []), (1, [0, 1, 5], [], [], []), (2, [0, 1, 5, 6], [], [], []), (3, [0, 1, 5, 6, 19], [], [], []), (5, [0, 1, 5, 6], [], [], []), (4, [0, 1, 5, 6], [], [], []), (6, [4], [], [], [])]
def r_spec_RacksOf : List RV := [.t 4]
abbrev n_spec_RacksOf : Nat := 33
theorem k_spec_RacksOf : Known Pr mu n_spec_RacksOf m_spec_RacksOf r_spec_RacksOf Go.Proofs.Try.f33.ntmps := .of h_spec_RacksOf hm Go.Proofs.Try.func33 (by kernel_rfl) (by kernel_rfl) (by kernel_rfl) (by kernel_rfl)
def m_spec_l1In_1 : Unit → MCode := fun _ => .region [] [⟨(some 6), .mv (.const (.bool false)), none, []⟩] [0, 1, 2]
def m_spec_l1In_2 : Unit → MCode := fun _ => .region [] [⟨(some 7), .mv (.tmp 0), none, []⟩,
    ⟨(some 8), .mv (.tmp 1), none, []⟩,
    ⟨(some 9), .bin .geq (.tmp 7) (.tmp 8), none, []⟩,
    ⟨(some 10), .mv (.tmp 9), none, []⟩,
    ⟨(some 11), .mv (.tmp 0), (some (10, true)), []⟩,
    ⟨(some 12), .mv (.tmp 2), (some (10, true)), []⟩,
    ⟨(some 13), .bin .leq (.tmp 11) (.tmp 12), (some (10, true)), []⟩,
    ⟨(some 14), .pick (.tmp 10) (.tmp 13) (.const (.bool false)), none, []⟩,
    ⟨(some 6), .mv (.tmp 14), none, []⟩] [6]
def m_spec_l1In_3 : Unit → MCode := fun _ => .seq m_spec_l1In_2 (fun _ => .ret)
def m_spec_l1In_4 : Unit → MCode := fun _ => .seq m_spec_l1In_1 m_spec_l1In_3
def m_spec_l1In : MCode := m_spec_l1In_4 ()
def h_spec_l1In : Hints := [(0, [0, 1, 2], [], [], []), (1, [6], [], [], [])]
def r_spec_l1In : List RV := [.t 6]
abbrev n_spec_l1In : Nat := 59
theorem k_spec_l1In : Known Pr mu n_spec_l1In m_spec_l1In r_spec_l1In Go.Proofs.Try.f59.ntmps := .of h_spec_l1In hm Go.Proofs.Try.func59 (by kernel_rfl) (by kernel_rfl) (by kernel_rfl) (by kernel_rfl)
def m_spec_l2Put_1 : Unit → MCode := fun _ => .region [] [⟨(some 4), .mv (.const (.slice none 0 0)), none, []⟩] [0, 1]
def m_spec_l2Put_2 : Unit → MCode := fun _ => .region [] [⟨(some 5), .mv (.const (.int .i64 0)), none, []⟩] [0, 1, 5]
def m_spec_l2Put_3 : Unit → MCode := fun _ => .region [] [⟨(some 6), .mv (.tmp 5), none, []⟩,
    ⟨(some 7), .mv (.tmp 0), none, []⟩,
    ⟨(some 8), .len false (.tmp 7), none, []⟩,
    ⟨(some 9), .bin .lss (.tmp 6) (.tmp 8), none, []⟩,
    ⟨(some 10), .mv (.tmp 9), none, []⟩,
    ⟨(some 11), .mv (.tmp 0), (some (10, true)), []⟩,
    ⟨(some 12), .mv (.tmp 5), (some (10, true)), []⟩,
    ⟨(some 13), .ia (.tmp 11) (.tmp 12) 1, (some (10, true)), []⟩,
    ⟨(some 14), .ld (.tmp 13) 1 false, (some (10, true)), []⟩,
    ⟨(some 15), .mv (.tmp 1), (some (10, true)), []⟩,
    ⟨(some 16), .bin .lss (.tmp 14) (.tmp 15), (some (10, true)), []⟩,
    ⟨(some 17), .pick (.tmp 10) (.tmp 16) (.const (.bool false)), none, []⟩] [0, 1, 5, 17]
def m_spec_l2Put_4 : Unit → MCode := fun _ => .cond (.tmp 17) (fun _ => .skip) (fun _ => .exit 0)
def m_spec_l2Put_5 : Unit → MCode := fun _ => .seq m_spec_l2Put_3 m_spec_l2Put_4
def m_spec_l2Put_6 : Unit → MCode := fun _ => .region [] [⟨(some 18), .mv (.tmp 5), none, []⟩,
    ⟨(some 19), .bin .add (.tmp 18) (.const (.int .i64 1)), none, []⟩,
    ⟨(some 5), .mv (.tmp 19), none, []⟩] [0, 1, 5]
def m_spec_l2Put_7 : Unit → MCode := fun _ => .block 1 m_spec_l2Put_6
def m_spec_l2Put_8 : Unit → MCode := fun _ => .seq m_spec_l2Put_5 m_spec_l2Put_7
def m_spec_l2Put_9 : Unit → MCode := fun _ => .loop m_spec_l2Put_8
def m_spec_l2Put_10 : Unit → MCode := fun _ => .block 0 m_spec_l2Put_9
def m_spec_l2Put_11 : Unit → MCode := fun _ => .region [] [⟨(some 20), .mv (.tmp 5), none, []⟩,
    ⟨(some 21), .mv (.tmp 0), none, []⟩,
    ⟨(some 22), .len false (.tmp 21), none, []⟩,
    ⟨(some 23), .bin .lss (.tmp 20) (.tmp 22), none, []⟩,
    ⟨(some 24), .mv (.tmp 23), none, []⟩,
    ⟨(some 25), .mv (.tmp 0), (some (24, true)), []⟩,
    ⟨(some 26), .mv (.tmp 5), (some (24, true)), []⟩,
    ⟨(some 27), .ia (.tmp 25) (.tmp 26) 1, (some (24, true)), []⟩,
    ⟨(some 28), .ld (.tmp 27) 1 false, (some (24, true)), []⟩,
    ⟨(some 29), .mv (.tmp 1), (some (24, true)), []⟩,
    ⟨(some 30), .bin .eql (.tmp 28) (.tmp 29), (some (24, true)), []⟩,
    ⟨(some 31), .pick (.tmp 24) (.tmp 30) (.const (.bool false)), none, []⟩] [0, 1, 5, 31]
def m_spec_l2Put_12 : Unit → MCode := fun _ => .region [] [⟨(some 32), .bsl 1 0 [.int .i64 0] [], none, []⟩,
    ⟨(some 33), .mv (.tmp 0), none, []⟩,
    ⟨(some 34), .app (.tmp 32) (.tmp 33) 1 8, none, []⟩,
    ⟨(some 4), .mv (.tmp 34), none, []⟩] [4]
def m_spec_l2Put_13 : Unit → MCode := fun _ => .seq m_spec_l2Put_12 (fun _ => .ret)
def m_spec_l2Put_14 : Unit → MCode := fun _ => .cond (.tmp 31) m_spec_l2Put_13 (fun _ => .skip)
def m_spec_l2Put_15 : Unit → MCode := fun _ => .seq m_spec_l2Put_11 m_spec_l2Put_14
def m_spec_l2Put_16 : Unit → MCode := fun _ => .region [⟨(some 43), .mv (.tmp 0), none, []⟩, ⟨(some 44), .mv (.tmp 5), none, []⟩, ⟨(some 45), .slf (.tmp 43) (some (.tmp 44)) none 1, none, []⟩] [⟨(some 35), .bsl 1 0 [.int .i64 0] [], none, []⟩,
    ⟨(some 36), .mv (.tmp 0), none, []⟩,
    ⟨(some 37), .mv (.tmp 5), none, []⟩,
    ⟨(some 38), .slc false (.tmp 36) none (some (.tmp 37)) none 1, none, [0]⟩,
    ⟨(some 39), .appn (.tmp 35) (.tmp 38) 1 8, none, [1000000]⟩,
    ⟨(some 40), .mv (.tmp 1), none, []⟩,
    ⟨(some 41), .bsl 1 1 [.int .i64 0] [(0, (.tmp 40))], none, []⟩,
    ⟨(some 42), .app (.tmp 39) (.tmp 41) 1 8, none, []⟩,
    ⟨(some 43), .mv (.tmp 43), none, []⟩,
    ⟨(some 44), .mv (.tmp 44), none, []⟩,
    ⟨(some 45), .mv (.tmp 45), none, []⟩,
    ⟨(some 46), .app (.tmp 42) (.tmp 45) 1 8, none, []⟩,
    ⟨(some 4), .mv (.tmp 46), none, []⟩] [4]
def m_spec_l2Put_17 : Unit → MCode := fun _ => .seq m_spec_l2Put_16 (fun _ => .ret)
def m_spec_l2Put_18 : Unit → MCode := fun _ => .seq m_spec_l2Put_15 m_spec_l2Put_17
def m_spec_l2Put_19 : Unit → MCode := fun _ => .seq m_spec_l2Put_10 m_spec_l2Put_18
def m_spec_l2Put_20 : Unit → MCode := fun _ => .seq m_spec_l2Put_2 m_spec_l2Put_19
def m_spec_l2Put_21 : Unit → MCode := fun _ => .seq m_spec_l2Put_1 m_spec_l2Put_20
def m_spec_l2Put : MCode := m_spec_l2Put_21 ()
def h_spec_l2Put : Hints := [(0, [0, 1], [], [], []), (1, [0, 1, 5], [], [], []), (2, [0, 1, 5, 17], [], [], []), (3, [0, 1, 5], [], [], []), (4, [0, 1, 5, 31], [], [], []), (5, [4], [], [], []), (6, [4], [[], [], [], [0], [1000000]], [8, 9, 10], [])]
def r_spec_l2Put : List RV := [.t 4]
abbrev n_spec_l2Put : Nat := 60
theorem k_spec_l2Put : Known Pr mu n_spec_l2Put m_spec_l2Put r_spec_l2Put Go.Proofs.Try.f60.ntmps := .of h_spec_l2Put hm Go.Proofs.Try.func60 (by kernel_rfl) (by kernel_rfl) (by kernel_rfl) (by kernel_rfl)
def m_laws_toPlace_1 : Unit → MCode := fun _ => .region [] [⟨(some 1), .box (.tmp 0), none, []⟩,
    ⟨(some 2), .alloc [.int .i64 0, .int .i64 0, .int .i64 0], none, []⟩] [1, 2]
def m_laws_toPlace_2 : Unit → MCode := fun _ => .region [] [⟨(some 3), .alloc [.int .i64 0, .int .i64 0, .int .i64 0], none, []⟩] [1, 2, 3]
def m_laws_toPlace_3 : Unit → MCode := fun _ => .region [] [⟨(some 4), .fa (.tmp 1) 0, none, []⟩,
    ⟨(some 5), .ld (.tmp 4) 1 false, none, []⟩,
    ⟨(some 6), .fa (.tmp 3) 0, none, []⟩,
    ⟨none, .sto (.tmp 6) (.tmp 5) 1, none, []⟩] [1, 2, 3]
def m_laws_toPlace_4 : Unit → MCode := fun _ => .region [] [⟨(some 7), .fa (.tmp 1) 1, none, []⟩,
    ⟨(some 8), .ld (.tmp 7) 1 false, none, []⟩,
    ⟨(some 9), .fa (.tmp 3) 1, none, []⟩,
    ⟨none, .sto (.tmp 9) (.tmp 8) 1, none, []⟩] [1, 2, 3]
def m_laws_toPlace_5 : Unit → MCode := fun _ => .region [] [⟨(some 10), .fa (.tmp 1) 2, none, []⟩,
    ⟨(some 11), .ld (.tmp 10) 1 false, none, []⟩,
    ⟨(some 12), .fa (.tmp 3) 2, none, []⟩,
    ⟨none, .sto (.tmp 12) (.tmp 11) 1, none, []⟩] [2, 3]
def m_laws_toPlace_6 : Unit → MCode := fun _ => .region [] [⟨(some 13), .ld (.tmp 3) 3 true, none, []⟩,
    ⟨none, .sto (.tmp 2) (.tmp 13) 3, none, []⟩] [2]
def m_laws_toPlace_7 : Unit → MCode := fun _ => .seq m_laws_toPlace_6 (fun _ => .ret)
def m_laws_toPlace_8 : Unit → MCode := fun _ => .seq m_laws_toPlace_5 m_laws_toPlace_7
def m_laws_toPlace_9 : Unit → MCode := fun _ => .seq m_laws_toPlace_4 m_laws_toPlace_8
def m_laws_toPlace_10 : Unit → MCode := fun _ => .seq m_laws_toPlace_3 m_laws_toPlace_9
def m_laws_toPlace_11 : Unit → MCode := fun _ => .seq m_laws_toPlace_2 m_laws_toPlace_10
def m_laws_toPlace_12 : Unit → MCode := fun _ => .seq m_laws_toPlace_1 m_laws_toPlace_11
def m_laws_toPlace : MCode := m_laws_toPlace_12 ()
def h_laws_toPlace : Hints := [(0, [1, 2], [], [], []), (1, [1, 2, 3], [], [], []), (2, [1, 2, 3], [], [], []), (3, [1, 2, 3], [], [], []), (4, [2, 3], [], [], []), (5, [2], [], [], [])]
def r_laws_toPlace : List RV := [.c 2 3 true]
abbrev n_laws_toPlace : Nat := 61
theorem k_laws_toPlace : Known Pr mu n_laws_toPlace m_laws_toPlace r_laws_toPlace Go.Proofs.Try.f61.ntmps := .of h_laws_toPlace hm Go.Proofs.Try.func61 (by kernel_rfl) (by kernel_rfl) (by kernel_rfl) (by kernel_rfl)
def m_impl_ArePlaces_1 : Unit → MCode := fun _ => .region [] [⟨(some 2), .mv (.const (.bool false)), none, []⟩] [0]
def m_impl_ArePlaces_2 : Unit → MCode := fun _ => .region [] [⟨(some 3), .mv (.tmp 0), none, []⟩,
    ⟨(some 4), .len false (.tmp 3), none, []⟩,
    ⟨(some 5), .bin .eql (.tmp 4) (.const (.int .i64 5)), none, []⟩,
    ⟨(some 6), .mv (.tmp 5), none, []⟩,
    ⟨(some 7), .mv (.tmp 0), (some (6, true)), []⟩,
    ⟨(some 8), .call 110 [(.tmp 7), (.func 111)], (some (6, true)), []⟩,
    ⟨(some 9), .not (.tmp 8), (some (6, true)), []⟩,
    ⟨(some 10), .pick (.tmp 6) (.tmp 9) (.const (.bool false)), none, []⟩,
    ⟨(some 2), .mv (.tmp 10), none, []⟩] [2]
def m_impl_ArePlaces_3 : Unit → MCode := fun _ => .seq m_impl_ArePlaces_2 (fun _ => .ret)
def m_impl_ArePlaces_4 : Unit → MCode := fun _ => .seq m_impl_ArePlaces_1 m_impl_ArePlaces_3
def m_impl_ArePlaces : MCode := m_impl_ArePlaces_4 ()
def h_impl_ArePlaces : Hints := [(0, [0], [], [], []), (1, [2], [], [], [])]
def r_impl_ArePlaces : List RV := [.t 2]
abbrev n_impl_ArePlaces : Nat := 62
theorem k_impl_ArePlaces : Known Pr mu n_impl_ArePlaces m_impl_ArePlaces r_impl_ArePlaces Go.Proofs.Try.f62.ntmps := .of h_impl_ArePlaces hm Go.Proofs.Try.func62 (by kernel_rfl) (by kernel_rfl) (by kernel_rfl) (by kernel_rfl)
def m_impl_AreServers_1 : Unit → MCode := fun _ => .region [] [⟨(some 2), .mv (.const (.bool false)), none, []⟩] [0]
def m_impl_AreServers_2 : Unit → MCode := fun _ => .region [] [⟨(some 5), .mv (.tmp 0), none, []⟩,
    ⟨(some 6), .len false (.tmp 5), none, []⟩,
    ⟨(some 7), .mv (.const (.int .i64 0)), none, []⟩] [0, 5, 6, 7]
def m_impl_AreServers_3 : Unit → MCode := fun _ => .region [] [⟨(some 8), .bin .lss (.tmp 7) (.tmp 6), none, []⟩] [0, 5, 6, 7, 8]
def m_impl_AreServers_4 : Unit → MCode := fun _ => .cond (.tmp 8) (fun _ => .skip) (fun _ => .exit 0)
def m_impl_AreServers_5 : Unit → MCode := fun _ => .region [] [⟨(some 9), .mv (.tmp 7), none, []⟩,
    ⟨(some 10), .ia (.tmp 5) (.tmp 7) 1, none, []⟩,
    ⟨(some 11), .ld (.tmp 10) 1 false, none, []⟩,
    ⟨(some 3), .mv (.tmp 9), none, []⟩,
    ⟨(some 4), .mv (.tmp 11), none, []⟩] [0, 3, 4, 5, 6, 7]
def m_impl_AreServers_6 : Unit → MCode := fun _ => .region [] [⟨(some 12), .mv (.tmp 4), none, []⟩,
    ⟨(some 13), .call 64 [(.tmp 12), (.const (.int .i64 0)), (.const (.int .i64 4))], none, []⟩,
    ⟨(some 14), .not (.tmp 13), none, []⟩,
    ⟨(some 15), .mv (.tmp 14), none, []⟩,
    ⟨(some 16), .mv (.tmp 3), (some (15, false)), []⟩,
    ⟨(some 17), .bin .gtr (.tmp 16) (.const (.int .i64 0)), (some (15, false)), []⟩,
    ⟨(some 18), .mv (.tmp 17), (some (15, false)), []⟩,
    ⟨(some 19), .mv (.tmp 4), (some (18, true)), []⟩,
    ⟨(some 20), .mv (.tmp 0), (some (18, true)), []⟩,
    ⟨(some 21), .mv (.tmp 3), (some (18, true)), []⟩,
    ⟨(some 22), .bin .sub (.tmp 21) (.const (.int .i64 1)), (some (18, true)), []⟩,
    ⟨(some 23), .ia (.tmp 20) (.tmp 22) 1, (some (18, true)), []⟩,
    ⟨(some 24), .ld (.tmp 23) 1 false, (some (18, true)), []⟩,
    ⟨(some 25), .bin .leq (.tmp 19) (.tmp 24), (some (18, true)), []⟩,
    ⟨(some 26), .pick (.tmp 18) (.tmp 25) (.const (.bool false)), (some (15, false)), []⟩,
    ⟨(some 27), .pick (.tmp 15) (.const (.bool true)) (.tmp 26), none, []⟩] [0, 5, 6, 7, 27]
def m_impl_AreServers_7 : Unit → MCode := fun _ => .region [] [⟨(some 2), .mv (.const (.bool false)), none, []⟩] [2]
def m_impl_AreServers_8 : Unit → MCode := fun _ => .seq m_impl_AreServers_7 (fun _ => .ret)
def m_impl_AreServers_9 : Unit → MCode := fun _ => .cond (.tmp 27) m_impl_AreServers_8 (fun _ => .skip)
def m_impl_AreServers_10 : Unit → MCode := fun _ => .seq m_impl_AreServers_6 m_impl_AreServers_9
def m_impl_AreServers_11 : Unit → MCode := fun _ => .seq m_impl_AreServers_5 m_impl_AreServers_10
def m_impl_AreServers_12 : Unit → MCode := fun _ => .block 1 m_impl_AreServers_11
def m_impl_AreServers_13 : Unit → MCode := fun _ => .region [] [⟨(some 28), .bin .add (.tmp 7) (.const (.int .i64 1)), none, []⟩,
    ⟨(some 7), .mv (.tmp 28), none, []⟩] [0, 5, 6, 7]
def m_impl_AreServers_14 : Unit → MCode := fun _ => .seq m_impl_AreServers_12 m_impl_AreServers_13
def m_impl_AreServers_15 : Unit → MCode := fun _ => .seq m_impl_AreServers_4 m_impl_AreServers_14
def m_impl_AreServers_16 : Unit → MCode := fun _ => .seq m_impl_AreServers_3 m_impl_AreServers_15
def m_impl_AreServers_17 : Unit → MCode := fun _ => .loop m_impl_AreServers_16
def m_impl_AreServers_18 : Unit → MCode := fun _ => .block 0 m_impl_AreServers_17
def m_impl_AreServers_19 : Unit → MCode := fun _ => .seq m_impl_AreServers_2 m_impl_AreServers_18
def m_impl_AreServers_20 : Unit → MCode := fun _ => .region [] [⟨(some 2), .mv (.const (.bool true)), none, []⟩] [2]
def m_impl_AreServers_21 : Unit → MCode := fun _ => .seq m_impl_AreServers_20 (fun _ => .ret)
def m_impl_AreServers_22 : Unit → MCode := fun _ => .seq m_impl_AreServers_19 m_impl_AreServers_21
def m_impl_AreServers_23 : Unit → MCode := fun _ => .seq m_impl_AreServers_1 m_impl_AreServers_22
def m_impl_AreServers : MCode := m_impl_AreServers_23 ()
def h_impl_AreServers : Hints := [(0, [0], [], [], []), (1, [0, 5, 6, 7], [], [], []), (2, [0, 5, 6, 7, 8], [], [], []), (3, [0, 3, 4, 5, 6, 7], [], [], []), (4, [0, 5, 6, 7, 27], [], [], []), (5, [2], [], [], []), (6, [0, 5, 6, 7], [], [], []), (7, [2], [], [], [])]
def r_impl_AreServers : List RV := [.t 2]
abbrev n_impl_AreServers : Nat := 63
theorem k_impl_AreServers : Known Pr mu n_impl_AreServers m_impl_AreServers r_impl_AreServers Go.Proofs.Try.f63.ntmps := .of h_impl_AreServers hm Go.Proofs.Try.func63 (by kernel_rfl) (by kernel_rfl) (by kernel_rfl) (by kernel_rfl)
def m_impl_within_1 : Unit → MCode := fun _ => .region [] [⟨(some 6), .mv (.const (.bool false)), none, []⟩] [0, 1, 2]
def m_impl_within_2 : Unit → MCode := fun _ => .region [] [⟨(some 7), .mv (.tmp 1), none, []⟩,
    ⟨(some 8), .mv (.tmp 0), none, []⟩,
    ⟨(some 9), .bin .leq (.tmp 7) (.tmp 8), none, []⟩,
    ⟨(some 10), .mv (.tmp 9), none, []⟩,
    ⟨(some 11), .mv (.tmp 0), (some (10, true)), []⟩,
    ⟨(some 12), .mv (.tmp 2), (some (10, true)), []⟩,
    ⟨(some 13), .bin .leq (.tmp 11) (.tmp 12), (some (10, true)), []⟩,
    ⟨(some 14), .pick (.tmp 10) (.tmp 13) (.const (.bool false)), none, []⟩,
    ⟨(some 6), .mv (.tmp 14), none, []⟩] [6]
def m_impl_within_3 : Unit → MCode := fun _ => .seq m_impl_within_2 (fun _ => .ret)
def m_impl_within_4 : Unit → MCode := fun _ => .seq m_impl_within_1 m_impl_within_3
def m_impl_within : MCode := m_impl_within_4 ()
def h_impl_within : Hints := [(0, [0, 1, 2], [], [], []), (1, [6], [], [], [])]
def r_impl_within : List RV := [.t 6]
abbrev n_impl_within : Nat := 64
theorem k_impl_within : Known Pr mu n_impl_within m_impl_within r_impl_within Go.Proofs.Try.f64.ntmps := .of h_impl_within hm Go.Proofs.Try.func64 (by kernel_rfl) (by kernel_rfl) (by kernel_rfl) (by kernel_rfl)
def m_impl_CommonServers_1 : Unit → MCode := fun _ => .region [] [⟨(some 4), .mv (.const (.slice none 0 0)), none, []⟩] [0, 1]
def m_impl_CommonServers_2 : Unit → MCode := fun _ => .region [] [⟨(some 5), .mv (.tmp 0), none, []⟩,
    ⟨(some 6), .mv (.tmp 0), none, []⟩,
    ⟨(some 7), .mv (.tmp 1), none, []⟩,
    ⟨(some 8), .call 66 [(.tmp 6), (.tmp 7)], none, []⟩,
    ⟨(some 9), .call 66 [(.tmp 5), (.tmp 8)], none, []⟩,
    ⟨(some 4), .mv (.tmp 9), none, []⟩] [4]
def m_impl_CommonServers_3 : Unit → MCode := fun _ => .seq m_impl_CommonServers_2 (fun _ => .ret)
def m_impl_CommonServers_4 : Unit → MCode := fun _ => .seq m_impl_CommonServers_1 m_impl_CommonServers_3
def m_impl_CommonServers : MCode := m_impl_CommonServers_4 ()
def h_impl_CommonServers : Hints := [(0, [0, 1], [], [], []), (1, [4], [], [], [])]
def r_impl_CommonServers : List RV := [.t 4]
abbrev n_impl_CommonServers : Nat := 65
theorem k_impl_CommonServers : Known Pr mu n_impl_CommonServers m_impl_CommonServers r_impl_CommonServers Go.Proofs.Try.f65.ntmps := .of h_impl_CommonServers hm Go.Proofs.Try.func65 (by kernel_rfl) (by kernel_rfl) (by kernel_rfl) (by kernel_rfl)
def m_impl_WithoutServers_1 : Unit → MCode := fun _ => .region [] [⟨(some 3), .box (.tmp 1), none, []⟩,
    ⟨(some 4), .mv (.const (.slice none 0 0)), none, []⟩] [0, 3]
def m_impl_WithoutServers_2 : Unit → MCode := fun _ => .region [] [⟨(some 5), .mv (.tmp 0), none, []⟩,
    ⟨(some 6), .call 78 [(.tmp 5)], none, []⟩,
    ⟨(some 7), .mkf 113 [(.tmp 3)], none, []⟩,
    ⟨(some 8), .callm 112 [(.tmp 6), (.tmp 7)], none, []⟩,
    ⟨(some 4), .mv (.tmp 8), none, []⟩] [4]
def m_impl_WithoutServers_3 : Unit → MCode := fun _ => .seq m_impl_WithoutServers_2 (fun _ => .ret)
def m_impl_WithoutServers_4 : Unit → MCode := fun _ => .seq m_impl_WithoutServers_1 m_impl_WithoutServers_3
def m_impl_WithoutServers : MCode := m_impl_WithoutServers_4 ()
def h_impl_WithoutServers : Hints := [(0, [0, 3], [], [], []), (1, [4], [], [], [])]
def r_impl_WithoutServers : List RV := [.t 4]
abbrev n_impl_WithoutServers : Nat := 66
theorem k_impl_WithoutServers : Known Pr mu n_impl_WithoutServers m_impl_WithoutServers r_impl_WithoutServers Go.Proofs.Try.f66.ntmps := .of h_impl_WithoutServers hm Go.Proofs.Try.func66 (by kernel_rfl) (by kernel_rfl) (by kernel_rfl) (by kernel_rfl)
def m_impl_allServers_1 : Unit → MCode := fun _ => .region [] [⟨(some 0), .mv (.const (.slice none 0 0)), none, []⟩] []
def m_impl_allServers_2 : Unit → MCode := fun _ => .region [] [⟨(some 3), .bsl 1 0 [.int .i64 0] [], none, []⟩,
    ⟨(some 1), .mv (.tmp 3), none, []⟩] [1]
def m_impl_allServers_3 : Unit → MCode := fun _ => .region [] [⟨(some 4), .mv (.const (.int .i64 0)), none, []⟩] [1, 4]
def m_impl_allServers_4 : Unit → MCode := fun _ => .region [] [⟨(some 5), .bin .lss (.tmp 4) (.const (.int .i64 5)), none, []⟩] [1, 4, 5]
def m_impl_allServers_5 : Unit → MCode := fun _ => .cond (.tmp 5) (fun _ => .skip) (fun _ => .exit 0)
def m_impl_allServers_6 : Unit → MCode := fun _ => .region [] [⟨(some 6), .mv (.tmp 4), none, []⟩,
    ⟨(some 2), .mv (.tmp 6), none, []⟩] [1, 2, 4]
def m_impl_allServers_7 : Unit → MCode := fun _ => .region [] [⟨(some 7), .mv (.tmp 1), none, []⟩,
    ⟨(some 8), .mv (.tmp 2), none, []⟩,
    ⟨(some 9), .bsl 1 1 [.int .i64 0] [(0, (.tmp 8))], none, []⟩,
    ⟨(some 10), .app (.tmp 7) (.tmp 9) 1 8, none, []⟩,
    ⟨(some 1), .mv (.tmp 10), none, []⟩] [1, 4]
def m_impl_allServers_8 : Unit → MCode := fun _ => .seq m_impl_allServers_6 m_impl_allServers_7
def m_impl_allServers_9 : Unit → MCode := fun _ => .block 1 m_impl_allServers_8
def m_impl_allServers_10 : Unit → MCode := fun _ => .region [] [⟨(some 11), .bin .add (.tmp 4) (.const (.int .i64 1)), none, []⟩,
    ⟨(some 4), .mv (.tmp 11), none, []⟩] [1, 4]
def m_impl_allServers_11 : Unit → MCode := fun _ => .seq m_impl_allServers_9 m_impl_allServers_10
def m_impl_allServers_12 : Unit → MCode := fun _ => .seq m_impl_allServers_5 m_impl_allServers_11
def m_impl_allServers_13 : Unit → MCode := fun _ => .seq m_impl_allServers_4 m_impl_allServers_12
def m_impl_allServers_14 : Unit → MCode := fun _ => .loop m_impl_allServers_13
def m_impl_allServers_15 : Unit → MCode := fun _ => .block 0 m_impl_allServers_14
def m_impl_allServers_16 : Unit → MCode := fun _ => .seq m_impl_allServers_3 m_impl_allServers_15
def m_impl_allServers_17 : Unit → MCode := fun _ => .region [] [⟨(some 12), .mv (.tmp 1), none, []⟩,
    ⟨(some 0), .mv (.tmp 12), none, []⟩] [0]
def m_impl_allServers_18 : Unit → MCode := fun _ => .seq m_impl_allServers_17 (fun _ => .ret)
def m_impl_allServers_19 : Unit → MCode := fun _ => .seq m_impl_allServers_16 m_impl_allServers_18
def m_impl_allServers_20 : Unit → MCode := fun _ => .seq m_impl_allServers_2 m_impl_allServers_19
def m_impl_allServers_21 : Unit → MCode := fun _ => .seq m_impl_allServers_1 m_impl_allServers_20
def m_impl_allServers : MCode := m_impl_allServers_21 ()
def h_impl_allServers : Hints := [(0, [], [], [], []), (1, [1], [], [], []), (2, [1, 4], [], [], []), (3, [1, 4, 5], [], [], []), (4, [1, 2, 4], [], [], []), (5, [1, 4], [], [], []), (6, [1, 4], [], [], []), (7, [0], [], [], [])]
def r_impl_allServers : List RV := [.t 0]
abbrev n_impl_allServers : Nat := 67
theorem k_impl_allServers : Known Pr mu n_impl_allServers m_impl_allServers r_impl_allServers Go.Proofs.Try.f67.ntmps := .of h_impl_allServers hm Go.Proofs.Try.func67 (by kernel_rfl) (by kernel_rfl) (by kernel_rfl) (by kernel_rfl)
def m_impl_UniteServers_1 : Unit → MCode := fun _ => .region [] [⟨(some 4), .mv (.const (.slice none 0 0)), none, []⟩] [0, 1]
def m_impl_UniteServers_2 : Unit → MCode := fun _ => .region [] [⟨(some 5), .mv (.tmp 0), none, []⟩,
    ⟨(some 6), .mv (.tmp 1), none, []⟩,
    ⟨(some 7), .bsl 1 2 [.slice none 0 0] [(0, (.tmp 5)), (1, (.tmp 6))], none, []⟩,
    ⟨(some 8), .call 114 [(.tmp 7)], none, []⟩,
    ⟨(some 9), .call 78 [(.tmp 8)], none, []⟩,
    ⟨(some 4), .mv (.tmp 9), none, []⟩] [4]
def m_impl_UniteServers_3 : Unit → MCode := fun _ => .seq m_impl_UniteServers_2 (fun _ => .ret)
def m_impl_UniteServers_4 : Unit → MCode := fun _ => .seq m_impl_UniteServers_1 m_impl_UniteServers_3
def m_impl_UniteServers : MCode := m_impl_UniteServers_4 ()
def h_impl_UniteServers : Hints := [(0, [0, 1], [], [], []), (1, [4], [], [], [])]
def r_impl_UniteServers : List RV := [.t 4]
abbrev n_impl_UniteServers : Nat := 68
theorem k_impl_UniteServers : Known Pr mu n_impl_UniteServers m_impl_UniteServers r_impl_UniteServers Go.Proofs.Try.f68.ntmps := .of h_impl_UniteServers hm Go.Proofs.Try.func68 (by kernel_rfl) (by kernel_rfl) (by kernel_rfl) (by kernel_rfl)
def m_laws_eqPlace_1 : Unit → MCode := fun _ => .region [] [⟨(some 2), .box (.tmp 0), none, []⟩,
    ⟨(some 3), .box (.tmp 1), none, []⟩,
    ⟨(some 4), .mv (.const (.bool false)), none, []⟩] [2, 3]
def m_laws_eqPlace_2 : Unit → MCode := fun _ => .region [] [⟨(some 5), .fa (.tmp 2) 0, none, []⟩,
    ⟨(some 6), .ld (.tmp 5) 1 false, none, []⟩,
    ⟨(some 7), .fa (.tmp 3) 0, none, []⟩,
    ⟨(some 8), .ld (.tmp 7) 1 false, none, []⟩,
    ⟨(some 9), .bin .neq (.tmp 6) (.tmp 8), none, []⟩] [2, 3, 9]
def m_laws_eqPlace_3 : Unit → MCode := fun _ => .region [] [⟨(some 4), .mv (.const (.bool false)), none, []⟩] [4]
def m_laws_eqPlace_4 : Unit → MCode := fun _ => .seq m_laws_eqPlace_3 (fun _ => .ret)
def m_laws_eqPlace_5 : Unit → MCode := fun _ => .cond (.tmp 9) m_laws_eqPlace_4 (fun _ => .skip)
def m_laws_eqPlace_6 : Unit → MCode := fun _ => .seq m_laws_eqPlace_2 m_laws_eqPlace_5
def m_laws_eqPlace_7 : Unit → MCode := fun _ => .region [] [⟨(some 10), .fa (.tmp 2) 1, none, []⟩,
    ⟨(some 11), .ld (.tmp 10) 1 false, none, []⟩,
    ⟨(some 12), .fa (.tmp 3) 1, none, []⟩,
    ⟨(some 13), .ld (.tmp 12) 1 false, none, []⟩,
    ⟨(some 14), .bin .neq (.tmp 11) (.tmp 13), none, []⟩] [2, 3, 14]
def m_laws_eqPlace_8 : Unit → MCode := fun _ => .region [] [⟨(some 4), .mv (.const (.bool false)), none, []⟩] [4]
def m_laws_eqPlace_9 : Unit → MCode := fun _ => .seq m_laws_eqPlace_8 (fun _ => .ret)
def m_laws_eqPlace_10 : Unit → MCode := fun _ => .cond (.tmp 14) m_laws_eqPlace_9 (fun _ => .skip)
def m_laws_eqPlace_11 : Unit → MCode := fun _ => .seq m_laws_eqPlace_7 m_laws_eqPlace_10
def m_laws_eqPlace_12 : Unit → MCode := fun _ => .region [] [⟨(some 15), .fa (.tmp 2) 2, none, []⟩,
    ⟨(some 16), .ld (.tmp 15) 1 false, none, []⟩,
    ⟨(some 17), .fa (.tmp 3) 2, none, []⟩,
    ⟨(some 18), .ld (.tmp 17) 1 false, none, []⟩,
    ⟨(some 19), .bin .neq (.tmp 16) (.tmp 18), none, []⟩] [19]
def m_laws_eqPlace_13 : Unit → MCode := fun _ => .region [] [⟨(some 4), .mv (.const (.bool false)), none, []⟩] [4]
def m_laws_eqPlace_14 : Unit → MCode := fun _ => .seq m_laws_eqPlace_13 (fun _ => .ret)
def m_laws_eqPlace_15 : Unit → MCode := fun _ => .cond (.tmp 19) m_laws_eqPlace_14 (fun _ => .skip)
def m_laws_eqPlace_16 : Unit → MCode := fun _ => .seq m_laws_eqPlace_12 m_laws_eqPlace_15
def m_laws_eqPlace_17 : Unit → MCode := fun _ => .region [] [⟨(some 4), .mv (.const (.bool true)), none, []⟩] [4]
def m_laws_eqPlace_18 : Unit → MCode := fun _ => .seq m_laws_eqPlace_17 (fun _ => .ret)
def m_laws_eqPlace_19 : Unit → MCode := fun _ => .seq m_laws_eqPlace_16 m_laws_eqPlace_18
def m_laws_eqPlace_20 : Unit → MCode := fun _ => .seq m_laws_eqPlace_11 m_laws_eqPlace_19
def m_laws_eqPlace_21 : Unit → MCode := fun _ => .seq m_laws_eqPlace_6 m_laws_eqPlace_20
def m_laws_eqPlace_22 : Unit → MCode := fun _ => .seq m_laws_eqPlace_1 m_laws_eqPlace_21
def m_laws_eqPlace : MCode := m_laws_eqPlace_22 ()
def h_laws_eqPlace : Hints := [(0, [2, 3], [], [], []), (1, [2, 3, 9], [], [], []), (2, [4], [], [], []), (3, [2, 3, 14], [], [], []), (4, [4], [], [], []), (5, [19], [], [], []), (6, [4], [], [], []), (7, [4], [], [], [])]
def r_laws_eqPlace : List RV := [.t 4]
abbrev n_laws_eqPlace : Nat := 69
theorem k_laws_eqPlace : Known Pr mu n_laws_eqPlace m_laws_eqPlace r_laws_eqPlace Go.Proofs.Try.f69.ntmps := .of h_laws_eqPlace hm Go.Proofs.Try.func69 (by kernel_rfl) (by kernel_rfl) (by kernel_rfl) (by kernel_rfl)
def m_impl_HasServer_1 : Unit → MCode := fun _ => .region [] [⟨(some 4), .mv (.const (.bool false)), none, []⟩] [0, 1]
def m_impl_HasServer_2 : Unit → MCode := fun _ => .region [] [⟨(some 5), .mv (.tmp 0), none, []⟩,
    ⟨(some 6), .mv (.tmp 1), none, []⟩,
    ⟨(some 7), .call 119 [(.tmp 5), (.tmp 6)], none, []⟩,
    ⟨(some 4), .mv (.tmp 7), none, []⟩] [4]
def m_impl_HasServer_3 : Unit → MCode := fun _ => .seq m_impl_HasServer_2 (fun _ => .ret)
def m_impl_HasServer_4 : Unit → MCode := fun _ => .seq m_impl_HasServer_1 m_impl_HasServer_3
def m_impl_HasServer : MCode := m_impl_HasServer_4 ()
def h_impl_HasServer : Hints := [(0, [0, 1], [], [], []), (1, [4], [], [], [])]
def r_impl_HasServer : List RV := [.t 4]
abbrev n_impl_HasServer : Nat := 75
theorem k_impl_HasServer : Known Pr mu n_impl_HasServer m_impl_HasServer r_impl_HasServer Go.Proofs.Try.f75.ntmps := .of h_impl_HasServer hm Go.Proofs.Try.func75 (by kernel_rfl) (by kernel_rfl) (by kernel_rfl) (by kernel_rfl)
def m_spec_HasRoom_1 : Unit → MCode := fun _ => .region [] [⟨(some 4), .mv (.const (.bool false)), none, []⟩] [0, 1]
def m_spec_HasRoom_2 : Unit → MCode := fun _ => .region [] [⟨(some 5), .mv (.tmp 0), none, []⟩,
    ⟨(some 6), .call 22 [(.tmp 5)], none, []⟩,
    ⟨(some 7), .mv (.tmp 6), none, []⟩,
    ⟨(some 8), .mv (.tmp 1), (some (7, true)), []⟩,
    ⟨(some 9), .call 59 [(.tmp 8), (.const (.int .i64 0)), (.const (.int .i64 4))], (some (7, true)), []⟩,
    ⟨(some 10), .pick (.tmp 7) (.tmp 9) (.const (.bool false)), none, []⟩,
    ⟨(some 11), .mv (.tmp 10), none, []⟩,
    ⟨(some 12), .mv (.tmp 0), (some (11, true)), []⟩,
    ⟨(some 13), .mv (.tmp 1), (some (11, true)), []⟩,
    ⟨(some 14), .ia (.tmp 12) (.tmp 13) 3, (some (11, true)), []⟩,
    ⟨(some 15), .fa (.tmp 14) 2, (some (11, true)), []⟩,
    ⟨(some 16), .ld (.tmp 15) 1 false, (some (11, true)), []⟩,
    ⟨(some 17), .mv (.tmp 0), (some (11, true)), []⟩,
    ⟨(some 18), .mv (.tmp 1), (some (11, true)), []⟩,
    ⟨(some 19), .ia (.tmp 17) (.tmp 18) 3, (some (11, true)), [7, 8, 9, 10, 11]⟩,
    ⟨(some 20), .fa (.tmp 19) 1, (some (11, true)), [7, 8, 9, 10, 11]⟩,
    ⟨(some 21), .ld (.tmp 20) 1 false, (some (11, true)), [7, 8, 9, 10, 11]⟩,
    ⟨(some 22), .bin .lss (.tmp 16) (.tmp 21), (some (11, true)), []⟩,
    ⟨(some 23), .pick (.tmp 11) (.tmp 22) (.const (.bool false)), none, []⟩,
    ⟨(some 4), .mv (.tmp 23), none, []⟩] [4]
def m_spec_HasRoom_3 : Unit → MCode := fun _ => .seq m_spec_HasRoom_2 (fun _ => .ret)
def m_spec_HasRoom_4 : Unit → MCode := fun _ => .seq m_spec_HasRoom_1 m_spec_HasRoom_3
def m_spec_HasRoom : MCode := m_spec_HasRoom_4 ()
def h_spec_HasRoom : Hints := [(0, [0, 1], [], [], []), (1, [4], [[], [], [], [], [], [], [], [], [], [], [], [], [], [], [7, 8, 9, 10, 11], [7, 8, 9, 10, 11], [7, 8, 9, 10, 11]], [], [])]
def r_spec_HasRoom : List RV := [.t 4]
abbrev n_spec_HasRoom : Nat := 76
theorem k_spec_HasRoom : Known Pr mu n_spec_HasRoom m_spec_HasRoom r_spec_HasRoom Go.Proofs.Try.f76.ntmps := .of h_spec_HasRoom hm Go.Proofs.Try.func76 (by kernel_rfl) (by kernel_rfl) (by kernel_rfl) (by kernel_rfl)
def m_spec_l9Better_1 : Unit → MCode := fun _ => .region [] [⟨(some 8), .mv (.const (.bool false)), none, []⟩] [0, 1, 2, 3]
def m_spec_l9Better_2 : Unit → MCode := fun _ => .region [] [⟨(some 11), .mv (.tmp 1), none, []⟩,
    ⟨(some 12), .mv (.tmp 0), none, []⟩,
    ⟨(some 13), .mv (.tmp 2), none, []⟩,
    ⟨(some 14), .ia (.tmp 12) (.tmp 13) 3, none, []⟩,
    ⟨(some 15), .fa (.tmp 14) 0, none, []⟩,
    ⟨(some 16), .ld (.tmp 15) 1 false, none, []⟩,
    ⟨(some 17), .call 28 [(.tmp 11), (.tmp 16)], none, []⟩,
    ⟨(some 9), .mv (.tmp 17), none, []⟩] [0, 1, 2, 3, 9]
def m_spec_l9Better_3 : Unit → MCode := fun _ => .region [] [⟨(some 18), .mv (.tmp 1), none, []⟩,
    ⟨(some 19), .mv (.tmp 0), none, []⟩,
    ⟨(some 20), .mv (.tmp 3), none, []⟩,
    ⟨(some 21), .ia (.tmp 19) (.tmp 20) 3, none, []⟩,
    ⟨(some 22), .fa (.tmp 21) 0, none, []⟩,
    ⟨(some 23), .ld (.tmp 22) 1 false, none, []⟩,
    ⟨(some 24), .call 28 [(.tmp 18), (.tmp 23)], none, []⟩,
    ⟨(some 10), .mv (.tmp 24), none, []⟩] [0, 2, 3, 9, 10]
def m_spec_l9Better_4 : Unit → MCode := fun _ => .region [] [⟨(some 25), .mv (.tmp 9), none, []⟩,
    ⟨(some 26), .mv (.tmp 10), none, []⟩,
    ⟨(some 27), .bbin .neq (.tmp 25) (.tmp 26), none, []⟩] [0, 2, 3, 10, 27]
def m_spec_l9Better_5 : Unit → MCode := fun _ => .region [] [⟨(some 28), .mv (.tmp 10), none, []⟩,
    ⟨(some 8), .mv (.tmp 28), none, []⟩] [8]
def m_spec_l9Better_6 : Unit → MCode := fun _ => .seq m_spec_l9Better_5 (fun _ => .ret)
def m_spec_l9Better_7 : Unit → MCode := fun _ => .cond (.tmp 27) m_spec_l9Better_6 (fun _ => .skip)
def m_spec_l9Better_8 : Unit → MCode := fun _ => .seq m_spec_l9Better_4 m_spec_l9Better_7
def m_spec_l9Better_9 : Unit → MCode := fun _ => .region [] [⟨(some 29), .mv (.tmp 0), none, []⟩,
    ⟨(some 30), .mv (.tmp 2), none, []⟩,
    ⟨(some 31), .ia (.tmp 29) (.tmp 30) 3, none, []⟩,
    ⟨(some 32), .fa (.tmp 31) 2, none, []⟩,
    ⟨(some 33), .ld (.tmp 32) 1 false, none, []⟩,
    ⟨(some 34), .mv (.tmp 0), none, []⟩,
    ⟨(some 35), .mv (.tmp 3), none, []⟩,
    ⟨(some 36), .ia (.tmp 34) (.tmp 35) 3, none, [0, 1, 2, 3, 4]⟩,
    ⟨(some 37), .fa (.tmp 36) 2, none, [0, 1, 2, 3, 4]⟩,
    ⟨(some 38), .ld (.tmp 37) 1 false, none, [0, 1, 2, 3, 4]⟩,
    ⟨(some 39), .bin .lss (.tmp 33) (.tmp 38), none, []⟩,
    ⟨(some 8), .mv (.tmp 39), none, []⟩] [8]
def m_spec_l9Better_10 : Unit → MCode := fun _ => .seq m_spec_l9Better_9 (fun _ => .ret)
def m_spec_l9Better_11 : Unit → MCode := fun _ => .seq m_spec_l9Better_8 m_spec_l9Better_10
def m_spec_l9Better_12 : Unit → MCode := fun _ => .seq m_spec_l9Better_3 m_spec_l9Better_11
def m_spec_l9Better_13 : Unit → MCode := fun _ => .seq m_spec_l9Better_2 m_spec_l9Better_12
def m_spec_l9Better_14 : Unit → MCode := fun _ => .seq m_spec_l9Better_1 m_spec_l9Better_13
def m_spec_l9Better : MCode := m_spec_l9Better_14 ()
def h_spec_l9Better : Hints := [(0, [0, 1, 2, 3], [], [], []), (1, [0, 1, 2, 3, 9], [], [], []), (2, [0, 2, 3, 9, 10], [], [], []), (3, [0, 2, 3, 10, 27], [], [], []), (4, [8], [], [], []), (5, [8], [[], [], [], [], [], [], [], [0, 1, 2, 3, 4], [0, 1, 2, 3, 4], [0, 1, 2, 3, 4]], [], [])]
def r_spec_l9Better : List RV := [.t 8]
abbrev n_spec_l9Better : Nat := 77
theorem k_spec_l9Better : Known Pr mu n_spec_l9Better m_spec_l9Better r_spec_l9Better Go.Proofs.Try.f77.ntmps := .of h_spec_l9Better hm Go.Proofs.Try.func77 (by kernel_rfl) (by kernel_rfl) (by kernel_rfl) (by kernel_rfl)
def m_impl_ascending_1 : Unit → MCode := fun _ => .region [] [⟨(some 2), .mv (.const (.slice none 0 0)), none, []⟩] [0]
def m_impl_ascending_2 : Unit → MCode := fun _ => .region [] [⟨(some 4), .mv (.tmp 0), none, []⟩,
    ⟨(some 5), .call 120 [(.tmp 4)], none, []⟩,
    ⟨(some 3), .mv (.tmp 5), none, []⟩] [3]
def m_impl_ascending_3 : Unit → MCode := fun _ => .region [] [⟨(some 6), .mv (.tmp 3), none, []⟩,
    ⟨(some 7), .callm 121 [(.tmp 6)], none, []⟩] [3]
def m_impl_ascending_4 : Unit → MCode := fun _ => .region [] [⟨(some 8), .mv (.tmp 3), none, []⟩,
    ⟨(some 9), .callm 122 [(.tmp 8)], none, []⟩,
    ⟨(some 2), .mv (.tmp 9), none, []⟩] [2]
def m_impl_ascending_5 : Unit → MCode := fun _ => .seq m_impl_ascending_4 (fun _ => .ret)
def m_impl_ascending_6 : Unit → MCode := fun _ => .seq m_impl_ascending_3 m_impl_ascending_5
def m_impl_ascending_7 : Unit → MCode := fun _ => .seq m_impl_ascending_2 m_impl_ascending_6
def m_impl_ascending_8 : Unit → MCode := fun _ => .seq m_impl_ascending_1 m_impl_ascending_7
def m_impl_ascending : MCode := m_impl_ascending_8 ()
def h_impl_ascending : Hints := [(0, [0], [], [], []), (1, [3], [], [], []), (2, [3], [], [], []), (3, [2], [], [], [])]
def r_impl_ascending : List RV := [.t 2]
abbrev n_impl_ascending : Nat := 78
theorem k_impl_ascending : Known Pr mu n_impl_ascending m_impl_ascending r_impl_ascending Go.Proofs.Try.f78.ntmps := .of h_impl_ascending hm Go.Proofs.Try.func78 (by kernel_rfl) (by kernel_rfl) (by kernel_rfl) (by kernel_rfl)
def m_slices_ContainsFunc_implPlaceimplPlace_1 : Unit → MCode := fun _ => .region [] [⟨(some 4), .mv (.const (.bool false)), none, []⟩] [0, 1]
def m_slices_ContainsFunc_implPlaceimplPlace_2 : Unit → MCode := fun _ => .region [] [⟨(some 5), .mv (.tmp 0), none, []⟩,
    ⟨(some 6), .mv (.tmp 1), none, []⟩,
    ⟨(some 7), .call 135 [(.tmp 5), (.tmp 6)], none, []⟩,
    ⟨(some 8), .bin .geq (.tmp 7) (.const (.int .i64 0)), none, []⟩,
    ⟨(some 4), .mv (.tmp 8), none, []⟩] [4]
def m_slices_ContainsFunc_implPlaceimplPlace_3 : Unit → MCode := fun _ => .seq m_slices_ContainsFunc_implPlaceimplPlace_2 (fun _ => .ret)
def m_slices_ContainsFunc_implPlaceimplPlace_4 : Unit → MCode := fun _ => .seq m_slices_ContainsFunc_implPlaceimplPlace_1 m_slices_ContainsFunc_implPlaceimplPlace_3
def m_slices_ContainsFunc_implPlaceimplPlace : MCode := m_slices_ContainsFunc_implPlaceimplPlace_4 ()
def h_slices_ContainsFunc_implPlaceimplPlace : Hints := [(0, [0, 1], [], [], []), (1, [4], [], [], [])]
def r_slices_ContainsFunc_implPlaceimplPlace : List RV := [.t 4]
abbrev n_slices_ContainsFunc_implPlaceimplPlace : Nat := 110
theorem k_slices_ContainsFunc_implPlaceimplPlace : Known Pr mu n_slices_ContainsFunc_implPlaceimplPlace m_slices_ContainsFunc_implPlaceimplPlace r_slices_ContainsFunc_implPlaceimplPlace Go.Proofs.Try.f110.ntmps := .of h_slices_ContainsFunc_implPlaceimplPlace hm Go.Proofs.Try.func110 (by kernel_rfl) (by kernel_rfl) (by kernel_rfl) (by kernel_rfl)
def m_impl_ArePlaces_c1_1 : Unit → MCode := fun _ => .region [] [⟨(some 1), .box (.tmp 0), none, []⟩,
    ⟨(some 2), .mv (.const (.bool false)), none, []⟩] [1]
def m_impl_ArePlaces_c1_2 : Unit → MCode := fun _ => .region [] [⟨(some 3), .fa (.tmp 1) 0, none, []⟩,
    ⟨(some 4), .ld (.tmp 3) 1 false, none, []⟩,
    ⟨(some 5), .call 64 [(.tmp 4), (.const (.int .i64 0)), (.const (.int .i64 9))], none, []⟩,
    ⟨(some 6), .not (.tmp 5), none, []⟩,
    ⟨(some 7), .mv (.tmp 6), none, []⟩,
    ⟨(some 8), .fa (.tmp 1) 1, (some (7, false)), []⟩,
    ⟨(some 9), .ld (.tmp 8) 1 false, (some (7, false)), []⟩,
    ⟨(some 10), .call 64 [(.tmp 9), (.const (.int .i64 0)), (.const (.int .i64 9))], (some (7, false)), []⟩,
    ⟨(some 11), .not (.tmp 10), (some (7, false)), []⟩,
    ⟨(some 12), .pick (.tmp 7) (.const (.bool true)) (.tmp 11), none, []⟩,
    ⟨(some 13), .mv (.tmp 12), none, []⟩,
    ⟨(some 14), .fa (.tmp 1) 2, (some (13, false)), []⟩,
    ⟨(some 15), .ld (.tmp 14) 1 false, (some (13, false)), []⟩,
    ⟨(some 16), .call 64 [(.tmp 15), (.const (.int .i64 0)), (.const (.int .i64 99))], (some (13, false)), []⟩,
    ⟨(some 17), .not (.tmp 16), (some (13, false)), []⟩,
    ⟨(some 18), .pick (.tmp 13) (.const (.bool true)) (.tmp 17), none, []⟩,
    ⟨(some 2), .mv (.tmp 18), none, []⟩] [2]
def m_impl_ArePlaces_c1_3 : Unit → MCode := fun _ => .seq m_impl_ArePlaces_c1_2 (fun _ => .ret)
def m_impl_ArePlaces_c1_4 : Unit → MCode := fun _ => .seq m_impl_ArePlaces_c1_1 m_impl_ArePlaces_c1_3
def m_impl_ArePlaces_c1 : MCode := m_impl_ArePlaces_c1_4 ()
def h_impl_ArePlaces_c1 : Hints := [(0, [1], [], [], []), (1, [2], [], [], [])]
def r_impl_ArePlaces_c1 : List RV := [.t 2]
abbrev n_impl_ArePlaces_c1 : Nat := 111
theorem k_impl_ArePlaces_c1 : Known Pr mu n_impl_ArePlaces_c1 m_impl_ArePlaces_c1 r_impl_ArePlaces_c1 Go.Proofs.Try.f111.ntmps := .of h_impl_ArePlaces_c1 hm Go.Proofs.Try.func111 (by kernel_rfl) (by kernel_rfl) (by kernel_rfl) (by kernel_rfl)
def m_slices_DeleteFunc_intint_1 : Unit → MCode := fun _ => .region [] [⟨(some 4), .mv (.const (.slice none 0 0)), none, []⟩] [0, 1]
def m_slices_DeleteFunc_intint_2 : Unit → MCode := fun _ => .region [] [⟨(some 8), .mv (.tmp 0), none, []⟩,
    ⟨(some 9), .mv (.tmp 1), none, []⟩,
    ⟨(some 10), .call 136 [(.tmp 8), (.tmp 9)], none, []⟩,
    ⟨(some 5), .mv (.tmp 10), none, []⟩] [0, 1, 5]
def m_slices_DeleteFunc_intint_3 : Unit → MCode := fun _ => .region [] [⟨(some 11), .mv (.tmp 5), none, []⟩,
    ⟨(some 12), .bin .eql (.tmp 11) (.const (.int .i64 (-1))), none, []⟩] [0, 1, 5, 12]
def m_slices_DeleteFunc_intint_4 : Unit → MCode := fun _ => .region [] [⟨(some 13), .mv (.tmp 0), none, []⟩,
    ⟨(some 4), .mv (.tmp 13), none, []⟩] [4]
def m_slices_DeleteFunc_intint_5 : Unit → MCode := fun _ => .seq m_slices_DeleteFunc_intint_4 (fun _ => .ret)
def m_slices_DeleteFunc_intint_6 : Unit → MCode := fun _ => .cond (.tmp 12) m_slices_DeleteFunc_intint_5 (fun _ => .skip)
def m_slices_DeleteFunc_intint_7 : Unit → MCode := fun _ => .seq m_slices_DeleteFunc_intint_3 m_slices_DeleteFunc_intint_6
def m_slices_DeleteFunc_intint_8 : Unit → MCode := fun _ => .region [] [⟨(some 14), .mv (.tmp 5), none, []⟩,
    ⟨(some 15), .bin .add (.tmp 14) (.const (.int .i64 1)), none, []⟩,
    ⟨(some 6), .mv (.tmp 15), none, []⟩] [0, 1, 5, 6]
def m_slices_DeleteFunc_intint_9 : Unit → MCode := fun _ => .region [] [⟨(some 16), .mv (.tmp 6), none, []⟩,
    ⟨(some 17), .mv (.tmp 0), none, []⟩,
    ⟨(some 18), .len false (.tmp 17), none, []⟩,
    ⟨(some 19), .bin .lss (.tmp 16) (.tmp 18), none, []⟩] [0, 1, 5, 6, 19]
def m_slices_DeleteFunc_intint_10 : Unit → MCode := fun _ => .cond (.tmp 19) (fun _ => .skip) (fun _ => .exit 0)
def m_slices_DeleteFunc_intint_11 : Unit → MCode := fun _ => .seq m_slices_DeleteFunc_intint_9 m_slices_DeleteFunc_intint_10
def m_slices_DeleteFunc_intint_12 : Unit → MCode := fun _ => .region [] [⟨(some 22), .mv (.tmp 0), none, []⟩,
    ⟨(some 23), .mv (.tmp 6), none, []⟩,
    ⟨(some 24), .ia (.tmp 22) (.tmp 23) 1, none, []⟩,
    ⟨(some 25), .ld (.tmp 24) 1 false, none, []⟩,
    ⟨(some 7), .mv (.tmp 25), none, []⟩] [0, 1, 5, 6, 7]
def m_slices_DeleteFunc_intint_13 : Unit → MCode := fun _ => .region [] [⟨(some 26), .mv (.tmp 1), none, []⟩,
    ⟨(some 27), .mv (.tmp 7), none, []⟩,
    ⟨(some 28), .callv (.tmp 26) [(.tmp 27)], none, []⟩,
    ⟨(some 29), .not (.tmp 28), none, []⟩] [0, 1, 5, 6, 7, 29]
def m_slices_DeleteFunc_intint_14 : Unit → MCode := fun _ => .region [] [⟨(some 30), .mv (.tmp 0), none, []⟩,
    ⟨(some 31), .mv (.tmp 5), none, []⟩,
    ⟨(some 32), .mv (.tmp 7), none, []⟩,
    ⟨(some 33), .ia (.tmp 30) (.tmp 31) 1, none, []⟩,
    ⟨none, .sto (.tmp 33) (.tmp 32) 1, none, []⟩] [0, 1, 5, 6]
def m_slices_DeleteFunc_intint_15 : Unit → MCode := fun _ => .region [] [⟨(some 34), .mv (.tmp 5), none, []⟩,
    ⟨(some 35), .bin .add (.tmp 34) (.const (.int .i64 1)), none, []⟩,
    ⟨(some 5), .mv (.tmp 35), none, []⟩] [0, 1, 5, 6]
def m_slices_DeleteFunc_intint_16 : Unit → MCode := fun _ => .seq m_slices_DeleteFunc_intint_14 m_slices_DeleteFunc_intint_15
def m_slices_DeleteFunc_intint_17 : Unit → MCode := fun _ => .cond (.tmp 29) m_slices_DeleteFunc_intint_16 (fun _ => .skip)
def m_slices_DeleteFunc_intint_18 : Unit → MCode := fun _ => .seq m_slices_DeleteFunc_intint_13 m_slices_DeleteFunc_intint_17
def m_slices_DeleteFunc_intint_19 : Unit → MCode := fun _ => .seq m_slices_DeleteFunc_intint_12 m_slices_DeleteFunc_intint_18
def m_slices_DeleteFunc_intint_20 : Unit → MCode := fun _ => .block 1 m_slices_DeleteFunc_intint_19
def m_slices_DeleteFunc_intint_21 : Unit → MCode := fun _ => .region [] [⟨(some 20), .mv (.tmp 6), none, []⟩,
    ⟨(some 21), .bin .add (.tmp 20) (.const (.int .i64 1)), none, []⟩,
    ⟨(some 6), .mv (.tmp 21), none, []⟩] [0, 1, 5, 6]
def m_slices_DeleteFunc_intint_22 : Unit → MCode := fun _ => .seq m_slices_DeleteFunc_intint_20 m_slices_DeleteFunc_intint_21
def m_slices_DeleteFunc_intint_23 : Unit → MCode := fun _ => .seq m_slices_DeleteFunc_intint_11 m_slices_DeleteFunc_intint_22
def m_slices_DeleteFunc_intint_24 : Unit → MCode := fun _ => .loop m_slices_DeleteFunc_intint_23
def m_slices_DeleteFunc_intint_25 : Unit → MCode := fun _ => .block 0 m_slices_DeleteFunc_intint_24
def m_slices_DeleteFunc_intint_26 : Unit → MCode := fun _ => .seq m_slices_DeleteFunc_intint_8 m_slices_DeleteFunc_intint_25
def m_slices_DeleteFunc_intint_27 : Unit → MCode := fun _ => .region [] [⟨(some 36), .mv (.tmp 0), none, []⟩,
    ⟨(some 37), .mv (.tmp 5), none, []⟩,
    ⟨(some 38), .slc false (.tmp 36) (some (.tmp 37)) none none 1, none, []⟩,
    ⟨none, .clr (.tmp 38) 1 [.int .i64 0], none, []⟩] [0, 5]
def m_slices_DeleteFunc_intint_28 : Unit → MCode := fun _ => .region [] [⟨(some 39), .mv (.tmp 0), none, []⟩,
    ⟨(some 40), .mv (.tmp 5), none, []⟩,
    ⟨(some 41), .slc false (.tmp 39) none (some (.tmp 40)) none 1, none, []⟩,
    ⟨(some 4), .mv (.tmp 41), none, []⟩] [4]
def m_slices_DeleteFunc_intint_29 : Unit → MCode := fun _ => .seq m_slices_DeleteFunc_intint_28 (fun _ => .ret)
def m_slices_DeleteFunc_intint_30 : Unit → MCode := fun _ => .seq m_slices_DeleteFunc_intint_27 m_slices_DeleteFunc_intint_29
def m_slices_DeleteFunc_intint_31 : Unit → MCode := fun _ => .seq m_slices_DeleteFunc_intint_26 m_slices_DeleteFunc_intint_30
def m_slices_DeleteFunc_intint_32 : Unit → MCode := fun _ => .seq m_slices_DeleteFunc_intint_7 m_slices_DeleteFunc_intint_31
def m_slices_DeleteFunc_intint_33 : Unit → MCode := fun _ => .seq m_slices_DeleteFunc_intint_2 m_slices_DeleteFunc_intint_32
def m_slices_DeleteFunc_intint_34 : Unit → MCode := fun _ => .seq m_slices_DeleteFunc_intint_1 m_slices_DeleteFunc_intint_33
def m_slices_DeleteFunc_intint : MCode := m_slices_DeleteFunc_intint_34 ()
def h_slices_DeleteFunc_intint : Hints := [(0, [0, 1], [], [], []), (1, [0, 1, 5], [], [], []), (2, [0, 1, 5, 12], [], [], []), (3, [4], [], [], []), (4, [0, 1, 5, 6], [], [], []), (5, [0, 1, 5, 6, 19], [], [], []), (7, [0, 1, 5, 6, 7], [], [], []), (8, [0, 1, 5, 6, 7, 29], [], [], []), (9, [0, 1, 5, 6], [], [], []), (10, [0, 1, 5, 6], [], [], []), (6, [0, 1, 5, 6], [], [], []), (11, [0, 5], [], [], []), (12, [4], [], [], [])]
def r_slices_DeleteFunc_intint : List RV := [.t 4]
abbrev n_slices_DeleteFunc_intint : Nat := 112
theorem k_slices_DeleteFunc_intint : Known Pr mu n_slices_DeleteFunc_intint m_slices_DeleteFunc_intint r_slices_DeleteFunc_intint Go.Proofs.Try.f112.ntmps := .of h_slices_DeleteFunc_intint hm Go.Proofs.Try.func112 (by kernel_rfl) (by kernel_rfl) (by kernel_rfl) (by kernel_rfl)
def m_impl_WithoutServers_c1_1 : Unit → MCode := fun _ => .region [] [⟨(some 3), .mv (.const (.bool false)), none, []⟩] [0, 1]
def m_impl_WithoutServers_c1_2 : Unit → MCode := fun _ => .region [] [⟨(some 4), .ld (.tmp 1) 1 false, none, []⟩,
    ⟨(some 5), .mv (.tmp 0), none, []⟩,
    ⟨(some 6), .call 75 [(.tmp 4), (.tmp 5)], none, []⟩,
    ⟨(some 3), .mv (.tmp 6), none, []⟩] [3]
def m_impl_WithoutServers_c1_3 : Unit → MCode := fun _ => .seq m_impl_WithoutServers_c1_2 (fun _ => .ret)
def m_impl_WithoutServers_c1_4 : Unit → MCode := fun _ => .seq m_impl_WithoutServers_c1_1 m_impl_WithoutServers_c1_3
def m_impl_WithoutServers_c1 : MCode := m_impl_WithoutServers_c1_4 ()
def h_impl_WithoutServers_c1 : Hints := [(0, [0, 1], [], [], []), (1, [3], [], [], [])]
def r_impl_WithoutServers_c1 : List RV := [.t 3]
abbrev n_impl_WithoutServers_c1 : Nat := 113
theorem k_impl_WithoutServers_c1 : Known Pr mu n_impl_WithoutServers_c1 m_impl_WithoutServers_c1 r_impl_WithoutServers_c1 Go.Proofs.Try.f113.ntmps := .of h_impl_WithoutServers_c1 hm Go.Proofs.Try.func113 (by kernel_rfl) (by kernel_rfl) (by kernel_rfl) (by kernel_rfl)
def m_slices_Concat_intint_1 : Unit → MCode := fun _ => .region [] [⟨(some 2), .mv (.const (.slice none 0 0)), none, []⟩] [0]
def m_slices_Concat_intint_2 : Unit → MCode := fun _ => .region [] [⟨(some 3), .mv (.const (.int .i64 0)), none, []⟩] [0, 3]
def m_slices_Concat_intint_3 : Unit → MCode := fun _ => .region [] [⟨(some 9), .mv (.tmp 0), none, []⟩,
    ⟨(some 10), .len false (.tmp 9), none, []⟩,
    ⟨(some 11), .mv (.const (.int .i64 0)), none, []⟩] [0, 3, 9, 10, 11]
def m_slices_Concat_intint_4 : Unit → MCode := fun _ => .region [] [⟨(some 12), .bin .lss (.tmp 11) (.tmp 10), none, []⟩] [0, 3, 9, 10, 11, 12]
def m_slices_Concat_intint_5 : Unit → MCode := fun _ => .cond (.tmp 12) (fun _ => .skip) (fun _ => .exit 0)
def m_slices_Concat_intint_6 : Unit → MCode := fun _ => .region [] [⟨(some 13), .ia (.tmp 9) (.tmp 11) 1, none, []⟩,
    ⟨(some 14), .ld (.tmp 13) 1 false, none, []⟩,
    ⟨(some 5), .mv (.tmp 14), none, []⟩] [0, 3, 5, 9, 10, 11]
def m_slices_Concat_intint_7 : Unit → MCode := fun _ => .region [] [⟨(some 15), .mv (.tmp 3), none, []⟩,
    ⟨(some 16), .mv (.tmp 5), none, []⟩,
    ⟨(some 17), .len false (.tmp 16), none, []⟩,
    ⟨(some 18), .bin .add (.tmp 15) (.tmp 17), none, []⟩,
    ⟨(some 3), .mv (.tmp 18), none, []⟩] [0, 3, 9, 10, 11]
def m_slices_Concat_intint_8 : Unit → MCode := fun _ => .region [] [⟨(some 19), .mv (.tmp 3), none, []⟩,
    ⟨(some 20), .bin .lss (.tmp 19) (.const (.int .i64 0)), none, []⟩] [0, 3, 9, 10, 11, 20]
def m_slices_Concat_intint_9 : Unit → MCode := fun _ => .region [] [⟨(some 21), .no, none, []⟩,
    ⟨none, .no, none, []⟩] [0, 3, 9, 10, 11]
def m_slices_Concat_intint_10 : Unit → MCode := fun _ => .cond (.tmp 20) m_slices_Concat_intint_9 (fun _ => .skip)
def m_slices_Concat_intint_11 : Unit → MCode := fun _ => .seq m_slices_Concat_intint_8 m_slices_Concat_intint_10
def m_slices_Concat_intint_12 : Unit → MCode := fun _ => .seq m_slices_Concat_intint_7 m_slices_Concat_intint_11
def m_slices_Concat_intint_13 : Unit → MCode := fun _ => .seq m_slices_Concat_intint_6 m_slices_Concat_intint_12
def m_slices_Concat_intint_14 : Unit → MCode := fun _ => .block 1 m_slices_Concat_intint_13
def m_slices_Concat_intint_15 : Unit → MCode := fun _ => .region [] [⟨(some 22), .bin .add (.tmp 11) (.const (.int .i64 1)), none, []⟩,
    ⟨(some 11), .mv (.tmp 22), none, []⟩] [0, 3, 9, 10, 11]
def m_slices_Concat_intint_16 : Unit → MCode := fun _ => .seq m_slices_Concat_intint_14 m_slices_Concat_intint_15
def m_slices_Concat_intint_17 : Unit → MCode := fun _ => .seq m_slices_Concat_intint_5 m_slices_Concat_intint_16
def m_slices_Concat_intint_18 : Unit → MCode := fun _ => .seq m_slices_Concat_intint_4 m_slices_Concat_intint_17
def m_slices_Concat_intint_19 : Unit → MCode := fun _ => .loop m_slices_Concat_intint_18
def m_slices_Concat_intint_20 : Unit → MCode := fun _ => .block 0 m_slices_Concat_intint_19
def m_slices_Concat_intint_21 : Unit → MCode := fun _ => .seq m_slices_Concat_intint_3 m_slices_Concat_intint_20
def m_slices_Concat_intint_22 : Unit → MCode := fun _ => .region [] [⟨(some 23), .mv (.tmp 3), none, []⟩,
    ⟨(some 24), .call 137 [(.const (.slice none 0 0)), (.tmp 23)], none, []⟩,
    ⟨(some 6), .mv (.tmp 24), none, []⟩] [0, 6]
def m_slices_Concat_intint_23 : Unit → MCode := fun _ => .region [] [⟨(some 25), .mv (.tmp 0), none, []⟩,
    ⟨(some 26), .len false (.tmp 25), none, []⟩,
    ⟨(some 27), .mv (.const (.int .i64 0)), none, []⟩] [6, 25, 26, 27]
def m_slices_Concat_intint_24 : Unit → MCode := fun _ => .region [] [⟨(some 28), .bin .lss (.tmp 27) (.tmp 26), none, []⟩] [6, 25, 26, 27, 28]
def m_slices_Concat_intint_25 : Unit → MCode := fun _ => .cond (.tmp 28) (fun _ => .skip) (fun _ => .exit 2)
def m_slices_Concat_intint_26 : Unit → MCode := fun _ => .region [] [⟨(some 29), .ia (.tmp 25) (.tmp 27) 1, none, []⟩,
    ⟨(some 30), .ld (.tmp 29) 1 false, none, []⟩,
    ⟨(some 8), .mv (.tmp 30), none, []⟩] [6, 8, 25, 26, 27]
def m_slices_Concat_intint_27 : Unit → MCode := fun _ => .region [] [⟨(some 31), .mv (.tmp 6), none, []⟩,
    ⟨(some 32), .mv (.tmp 8), none, []⟩,
    ⟨(some 33), .app (.tmp 31) (.tmp 32) 1 8, none, []⟩,
    ⟨(some 6), .mv (.tmp 33), none, []⟩] [6, 25, 26, 27]
def m_slices_Concat_intint_28 : Unit → MCode := fun _ => .seq m_slices_Concat_intint_26 m_slices_Concat_intint_27
def m_slices_Concat_intint_29 : Unit → MCode := fun _ => .block 3 m_slices_Concat_intint_28
def m_slices_Concat_intint_30 : Unit → MCode := fun _ => .region [] [⟨(some 34), .bin .add (.tmp 27) (.const (.int .i64 1)), none, []⟩,
    ⟨(some 27), .mv (.tmp 34), none, []⟩] [6, 25, 26, 27]
def m_slices_Concat_intint_31 : Unit → MCode := fun _ => .seq m_slices_Concat_intint_29 m_slices_Concat_intint_30
def m_slices_Concat_intint_32 : Unit → MCode := fun _ => .seq m_slices_Concat_intint_25 m_slices_Concat_intint_31
def m_slices_Concat_intint_33 : Unit → MCode := fun _ => .seq m_slices_Concat_intint_24 m_slices_Concat_intint_32
def m_slices_Concat_intint_34 : Unit → MCode := fun _ => .loop m_slices_Concat_intint_33
def m_slices_Concat_intint_35 : Unit → MCode := fun _ => .block 2 m_slices_Concat_intint_34
def m_slices_Concat_intint_36 : Unit → MCode := fun _ => .seq m_slices_Concat_intint_23 m_slices_Concat_intint_35
def m_slices_Concat_intint_37 : Unit → MCode := fun _ => .region [] [⟨(some 35), .mv (.tmp 6), none, []⟩,
    ⟨(some 2), .mv (.tmp 35), none, []⟩] [2]
def m_slices_Concat_intint_38 : Unit → MCode := fun _ => .seq m_slices_Concat_intint_37 (fun _ => .ret)
def m_slices_Concat_intint_39 : Unit → MCode := fun _ => .seq m_slices_Concat_intint_36 m_slices_Concat_intint_38
def m_slices_Concat_intint_40 : Unit → MCode := fun _ => .seq m_slices_Concat_intint_22 m_slices_Concat_intint_39
def m_slices_Concat_intint_41 : Unit → MCode := fun _ => .seq m_slices_Concat_intint_21 m_slices_Concat_intint_40
def m_slices_Concat_intint_42 : Unit → MCode := fun _ => .seq m_slices_Concat_intint_2 m_slices_Concat_intint_41
def m_slices_Concat_intint_43 : Unit → MCode := fun _ => .seq m_slices_Concat_intint_1 m_slices_Concat_intint_42
def m_slices_Concat_intint : MCode := m_slices_Concat_intint_43 ()
def h_slices_Concat_intint : Hints := [(0, [0], [], [], []), (1, [0, 3], [], [], []), (2, [0, 3, 9, 10, 11], [], [], []), (3, [0, 3, 9, 10, 11, 12], [], [], []), (4, [0, 3, 5, 9, 10, 11], [], [], []), (5, [0, 3, 9, 10, 11], [], [], []), (6, [0, 3, 9, 10, 11, 20], [], [], []), (7, [0, 3, 9, 10, 11], [], [], []), (8, [0, 3, 9, 10, 11], [], [], []), (9, [0, 6], [], [], []), (10, [6, 25, 26, 27], [], [], []), (11, [6, 25, 26, 27, 28], [], [], []), (12, [6, 8, 25, 26, 27], [], [], []), (13, [6, 25, 26, 27], [], [], []), (14, [6, 25, 26, 27], [], [], []), (15, [2], [], [], [])]
def r_slices_Concat_intint : List RV := [.t 2]
abbrev n_slices_Concat_intint : Nat := 114
theorem k_slices_Concat_intint : Known Pr mu n_slices_Concat_intint m_slices_Concat_intint r_slices_Concat_intint Go.Proofs.Try.f114.ntmps := .of h_slices_Concat_intint hm Go.Proofs.Try.func114 (by kernel_rfl) (by kernel_rfl) (by kernel_rfl) (by kernel_rfl)
def m_slices_Contains_intint_1 : Unit → MCode := fun _ => .region [] [⟨(some 4), .mv (.const (.bool false)), none, []⟩] [0, 1]
def m_slices_Contains_intint_2 : Unit → MCode := fun _ => .region [] [⟨(some 5), .mv (.tmp 0), none, []⟩,
    ⟨(some 6), .mv (.tmp 1), none, []⟩,
    ⟨(some 7), .call 138 [(.tmp 5), (.tmp 6)], none, []⟩,
    ⟨(some 8), .bin .geq (.tmp 7) (.const (.int .i64 0)), none, []⟩,
    ⟨(some 4), .mv (.tmp 8), none, []⟩] [4]
def m_slices_Contains_intint_3 : Unit → MCode := fun _ => .seq m_slices_Contains_intint_2 (fun _ => .ret)
def m_slices_Contains_intint_4 : Unit → MCode := fun _ => .seq m_slices_Contains_intint_1 m_slices_Contains_intint_3
def m_slices_Contains_intint : MCode := m_slices_Contains_intint_4 ()
def h_slices_Contains_intint : Hints := [(0, [0, 1], [], [], []), (1, [4], [], [], [])]
def r_slices_Contains_intint : List RV := [.t 4]
abbrev n_slices_Contains_intint : Nat := 119
theorem k_slices_Contains_intint : Known Pr mu n_slices_Contains_intint m_slices_Contains_intint r_slices_Contains_intint Go.Proofs.Try.f119.ntmps := .of h_slices_Contains_intint hm Go.Proofs.Try.func119 (by kernel_rfl) (by kernel_rfl) (by kernel_rfl) (by kernel_rfl)
def m_slices_Clone_intint_1 : Unit → MCode := fun _ => .region [] [⟨(some 2), .mv (.const (.slice none 0 0)), none, []⟩] [0]
def m_slices_Clone_intint_2 : Unit → MCode := fun _ => .region [] [⟨(some 3), .mv (.tmp 0), none, []⟩,
    ⟨(some 4), .nbin .eql (.tmp 3) (.const (.slice none 0 0)), none, []⟩] [0, 4]
def m_slices_Clone_intint_3 : Unit → MCode := fun _ => .region [] [⟨(some 2), .mv (.const (.slice none 0 0)), none, []⟩] [2]
def m_slices_Clone_intint_4 : Unit → MCode := fun _ => .seq m_slices_Clone_intint_3 (fun _ => .ret)
def m_slices_Clone_intint_5 : Unit → MCode := fun _ => .cond (.tmp 4) m_slices_Clone_intint_4 (fun _ => .skip)
def m_slices_Clone_intint_6 : Unit → MCode := fun _ => .seq m_slices_Clone_intint_2 m_slices_Clone_intint_5
def m_slices_Clone_intint_7 : Unit → MCode := fun _ => .region [] [⟨(some 5), .bsl 1 0 [.int .i64 0] [], none, []⟩,
    ⟨(some 6), .mv (.tmp 0), none, []⟩,
    ⟨(some 7), .app (.tmp 5) (.tmp 6) 1 8, none, []⟩,
    ⟨(some 2), .mv (.tmp 7), none, []⟩] [2]
def m_slices_Clone_intint_8 : Unit → MCode := fun _ => .seq m_slices_Clone_intint_7 (fun _ => .ret)
def m_slices_Clone_intint_9 : Unit → MCode := fun _ => .seq m_slices_Clone_intint_6 m_slices_Clone_intint_8
def m_slices_Clone_intint_10 : Unit → MCode := fun _ => .seq m_slices_Clone_intint_1 m_slices_Clone_intint_9
def m_slices_Clone_intint : MCode := m_slices_Clone_intint_10 ()
def h_slices_Clone_intint : Hints := [(0, [0], [], [], []), (1, [0, 4], [], [], []), (2, [2], [], [], []), (3, [2], [], [], [])]
def r_slices_Clone_intint : List RV := [.t 2]
abbrev n_slices_Clone_intint : Nat := 120
theorem k_slices_Clone_intint : Known Pr mu n_slices_Clone_intint m_slices_Clone_intint r_slices_Clone_intint Go.Proofs.Try.f120.ntmps := .of h_slices_Clone_intint hm Go.Proofs.Try.func120 (by kernel_rfl) (by kernel_rfl) (by kernel_rfl) (by kernel_rfl)
def m_slices_Sort_intint_1 : Unit → MCode := fun _ => .region [] [⟨(some 3), .mv (.tmp 0), none, []⟩,
    ⟨(some 4), .len false (.tmp 3), none, []⟩,
    ⟨(some 2), .mv (.tmp 4), none, []⟩] [0, 2]
def m_slices_Sort_intint_2 : Unit → MCode := fun _ => .region [] [⟨(some 5), .mv (.tmp 0), none, []⟩,
    ⟨(some 6), .mv (.tmp 2), none, []⟩,
    ⟨(some 7), .mv (.tmp 2), none, []⟩,
    ⟨(some 8), .conv .u64 (.tmp 7), none, []⟩,
    ⟨(some 9), .call 140 [(.tmp 8)], none, []⟩,
    ⟨(some 10), .callm 139 [(.tmp 5), (.const (.int .i64 0)), (.tmp 6), (.tmp 9)], none, []⟩] []
def m_slices_Sort_intint_3 : Unit → MCode := fun _ => .seq m_slices_Sort_intint_1 m_slices_Sort_intint_2
def m_slices_Sort_intint : MCode := m_slices_Sort_intint_3 ()
def h_slices_Sort_intint : Hints := [(0, [0, 2], [], [], []), (1, [], [], [], [])]
def r_slices_Sort_intint : List RV := []
abbrev n_slices_Sort_intint : Nat := 121
theorem k_slices_Sort_intint : Known Pr mu n_slices_Sort_intint m_slices_Sort_intint r_slices_Sort_intint Go.Proofs.Try.f121.ntmps := .of h_slices_Sort_intint hm Go.Proofs.Try.func121 (by kernel_rfl) (by kernel_rfl) (by kernel_rfl) (by kernel_rfl)
def m_slices_Compact_intint_1 : Unit → MCode := fun _ => .region [] [⟨(some 2), .mv (.const (.slice none 0 0)), none, []⟩] [0]
def m_slices_Compact_intint_2 : Unit → MCode := fun _ => .region [] [⟨(some 6), .mv (.tmp 0), none, []⟩,
    ⟨(some 7), .len false (.tmp 6), none, []⟩,
    ⟨(some 8), .bin .lss (.tmp 7) (.const (.int .i64 2)), none, []⟩] [0, 8]
def m_slices_Compact_intint_3 : Unit → MCode := fun _ => .region [] [⟨(some 9), .mv (.tmp 0), none, []⟩,
    ⟨(some 2), .mv (.tmp 9), none, []⟩] [2]
def m_slices_Compact_intint_4 : Unit → MCode := fun _ => .seq m_slices_Compact_intint_3 (fun _ => .ret)
def m_slices_Compact_intint_5 : Unit → MCode := fun _ => .cond (.tmp 8) m_slices_Compact_intint_4 (fun _ => .skip)
def m_slices_Compact_intint_6 : Unit → MCode := fun _ => .seq m_slices_Compact_intint_2 m_slices_Compact_intint_5
def m_slices_Compact_intint_7 : Unit → MCode := fun _ => .region [] [⟨(some 3), .mv (.const (.int .i64 1)), none, []⟩] [0, 3]
def m_slices_Compact_intint_8 : Unit → MCode := fun _ => .region [] [⟨(some 10), .mv (.tmp 3), none, []⟩,
    ⟨(some 11), .mv (.tmp 0), none, []⟩,
    ⟨(some 12), .len false (.tmp 11), none, []⟩,
    ⟨(some 13), .bin .lss (.tmp 10) (.tmp 12), none, []⟩] [0, 3, 13]
def m_slices_Compact_intint_9 : Unit → MCode := fun _ => .cond (.tmp 13) (fun _ => .skip) (fun _ => .exit 0)
def m_slices_Compact_intint_10 : Unit → MCode := fun _ => .seq m_slices_Compact_intint_8 m_slices_Compact_intint_9
def m_slices_Compact_intint_11 : Unit → MCode := fun _ => .region [] [⟨(some 16), .mv (.tmp 0), none, []⟩,
    ⟨(some 17), .mv (.tmp 3), none, []⟩,
    ⟨(some 18), .ia (.tmp 16) (.tmp 17) 1, none, []⟩,
    ⟨(some 19), .ld (.tmp 18) 1 false, none, []⟩,
    ⟨(some 20), .mv (.tmp 0), none, []⟩,
    ⟨(some 21), .mv (.tmp 3), none, []⟩,
    ⟨(some 22), .bin .sub (.tmp 21) (.const (.int .i64 1)), none, []⟩,
    ⟨(some 23), .ia (.tmp 20) (.tmp 22) 1, none, [0, 1, 2, 3]⟩,
    ⟨(some 24), .ld (.tmp 23) 1 false, none, [0, 1, 2, 3]⟩,
    ⟨(some 25), .bin .eql (.tmp 19) (.tmp 24), none, []⟩] [0, 3, 25]
def m_slices_Compact_intint_12 : Unit → MCode := fun _ => .region [] [⟨(some 26), .mv (.tmp 0), none, []⟩,
    ⟨(some 27), .mv (.tmp 3), none, []⟩,
    ⟨(some 28), .slc false (.tmp 26) (some (.tmp 27)) none none 1, none, []⟩,
    ⟨(some 4), .mv (.tmp 28), none, []⟩] [0, 3, 4]
def m_slices_Compact_intint_13 : Unit → MCode := fun _ => .region [] [⟨(some 5), .mv (.const (.int .i64 1)), none, []⟩] [0, 3, 4, 5]
def m_slices_Compact_intint_14 : Unit → MCode := fun _ => .region [] [⟨(some 29), .mv (.tmp 5), none, []⟩,
    ⟨(some 30), .mv (.tmp 4), none, []⟩,
    ⟨(some 31), .len false (.tmp 30), none, []⟩,
    ⟨(some 32), .bin .lss (.tmp 29) (.tmp 31), none, []⟩] [0, 3, 4, 5, 32]
def m_slices_Compact_intint_15 : Unit → MCode := fun _ => .cond (.tmp 32) (fun _ => .skip) (fun _ => .exit 2)
def m_slices_Compact_intint_16 : Unit → MCode := fun _ => .seq m_slices_Compact_intint_14 m_slices_Compact_intint_15
def m_slices_Compact_intint_17 : Unit → MCode := fun _ => .region [] [⟨(some 35), .mv (.tmp 4), none, []⟩,
    ⟨(some 36), .mv (.tmp 5), none, []⟩,
    ⟨(some 37), .ia (.tmp 35) (.tmp 36) 1, none, []⟩,
    ⟨(some 38), .ld (.tmp 37) 1 false, none, []⟩,
    ⟨(some 39), .mv (.tmp 4), none, []⟩,
    ⟨(some 40), .mv (.tmp 5), none, []⟩,
    ⟨(some 41), .bin .sub (.tmp 40) (.const (.int .i64 1)), none, []⟩,
    ⟨(some 42), .ia (.tmp 39) (.tmp 41) 1, none, [0, 1, 2, 3]⟩,
    ⟨(some 43), .ld (.tmp 42) 1 false, none, [0, 1, 2, 3]⟩,
    ⟨(some 44), .bin .neq (.tmp 38) (.tmp 43), none, []⟩] [0, 3, 4, 5, 44]
def m_slices_Compact_intint_18 : Unit → MCode := fun _ => .region [] [⟨(some 45), .mv (.tmp 0), none, []⟩,
    ⟨(some 46), .mv (.tmp 3), none, []⟩,
    ⟨(some 47), .mv (.tmp 4), none, []⟩,
    ⟨(some 48), .mv (.tmp 5), none, []⟩,
    ⟨(some 49), .ia (.tmp 47) (.tmp 48) 1, none, []⟩,
    ⟨(some 50), .ld (.tmp 49) 1 false, none, []⟩,
    ⟨(some 51), .ia (.tmp 45) (.tmp 46) 1, none, []⟩,
    ⟨none, .sto (.tmp 51) (.tmp 50) 1, none, []⟩] [0, 3, 4, 5]
def m_slices_Compact_intint_19 : Unit → MCode := fun _ => .region [] [⟨(some 52), .mv (.tmp 3), none, []⟩,
    ⟨(some 53), .bin .add (.tmp 52) (.const (.int .i64 1)), none, []⟩,
    ⟨(some 3), .mv (.tmp 53), none, []⟩] [0, 3, 4, 5]
def m_slices_Compact_intint_20 : Unit → MCode := fun _ => .seq m_slices_Compact_intint_18 m_slices_Compact_intint_19
def m_slices_Compact_intint_21 : Unit → MCode := fun _ => .cond (.tmp 44) m_slices_Compact_intint_20 (fun _ => .skip)
def m_slices_Compact_intint_22 : Unit → MCode := fun _ => .seq m_slices_Compact_intint_17 m_slices_Compact_intint_21
def m_slices_Compact_intint_23 : Unit → MCode := fun _ => .block 3 m_slices_Compact_intint_22
def m_slices_Compact_intint_24 : Unit → MCode := fun _ => .region [] [⟨(some 33), .mv (.tmp 5), none, []⟩,
    ⟨(some 34), .bin .add (.tmp 33) (.const (.int .i64 1)), none, []⟩,
    ⟨(some 5), .mv (.tmp 34), none, []⟩] [0, 3, 4, 5]
def m_slices_Compact_intint_25 : Unit → MCode := fun _ => .seq m_slices_Compact_intint_23 m_slices_Compact_intint_24
def m_slices_Compact_intint_26 : Unit → MCode := fun _ => .seq m_slices_Compact_intint_16 m_slices_Compact_intint_25
def m_slices_Compact_intint_27 : Unit → MCode := fun _ => .loop m_slices_Compact_intint_26
def m_slices_Compact_intint_28 : Unit → MCode := fun _ => .block 2 m_slices_Compact_intint_27
def m_slices_Compact_intint_29 : Unit → MCode := fun _ => .seq m_slices_Compact_intint_13 m_slices_Compact_intint_28
def m_slices_Compact_intint_30 : Unit → MCode := fun _ => .region [] [⟨(some 54), .mv (.tmp 0), none, []⟩,
    ⟨(some 55), .mv (.tmp 3), none, []⟩,
    ⟨(some 56), .slc false (.tmp 54) (some (.tmp 55)) none none 1, none, []⟩,
    ⟨none, .clr (.tmp 56) 1 [.int .i64 0], none, []⟩] [0, 3]
def m_slices_Compact_intint_31 : Unit → MCode := fun _ => .region [] [⟨(some 57), .mv (.tmp 0), none, []⟩,
    ⟨(some 58), .mv (.tmp 3), none, []⟩,
    ⟨(some 59), .slc false (.tmp 57) none (some (.tmp 58)) none 1, none, []⟩,
    ⟨(some 2), .mv (.tmp 59), none, []⟩] [2]
def m_slices_Compact_intint_32 : Unit → MCode := fun _ => .seq m_slices_Compact_intint_31 (fun _ => .ret)
def m_slices_Compact_intint_33 : Unit → MCode := fun _ => .seq m_slices_Compact_intint_30 m_slices_Compact_intint_32
def m_slices_Compact_intint_34 : Unit → MCode := fun _ => .seq m_slices_Compact_intint_29 m_slices_Compact_intint_33
def m_slices_Compact_intint_35 : Unit → MCode := fun _ => .seq m_slices_Compact_intint_12 m_slices_Compact_intint_34
def m_slices_Compact_intint_36 : Unit → MCode := fun _ => .cond (.tmp 25) m_slices_Compact_intint_35 (fun _ => .skip)
def m_slices_Compact_intint_37 : Unit → MCode := fun _ => .seq m_slices_Compact_intint_11 m_slices_Compact_intint_36
def m_slices_Compact_intint_38 : Unit → MCode := fun _ => .block 1 m_slices_Compact_intint_37
def m_slices_Compact_intint_39 : Unit → MCode := fun _ => .region [] [⟨(some 14), .mv (.tmp 3), none, []⟩,
    ⟨(some 15), .bin .add (.tmp 14) (.const (.int .i64 1)), none, []⟩,
    ⟨(some 3), .mv (.tmp 15), none, []⟩] [0, 3]
def m_slices_Compact_intint_40 : Unit → MCode := fun _ => .seq m_slices_Compact_intint_38 m_slices_Compact_intint_39
def m_slices_Compact_intint_41 : Unit → MCode := fun _ => .seq m_slices_Compact_intint_10 m_slices_Compact_intint_40
def m_slices_Compact_intint_42 : Unit → MCode := fun _ => .loop m_slices_Compact_intint_41
def m_slices_Compact_intint_43 : Unit → MCode := fun _ => .block 0 m_slices_Compact_intint_42
def m_slices_Compact_intint_44 : Unit → MCode := fun _ => .seq m_slices_Compact_intint_7 m_slices_Compact_intint_43
def m_slices_Compact_intint_45 : Unit → MCode := fun _ => .region [] [⟨(some 60), .mv (.tmp 0), none, []⟩,
    ⟨(some 2), .mv (.tmp 60), none, []⟩] [2]
def m_slices_Compact_intint_46 : Unit → MCode := fun _ => .seq m_slices_Compact_intint_45 (fun _ => .ret)
def m_slices_Compact_intint_47 : Unit → MCode := fun _ => .seq m_slices_Compact_intint_44 m_slices_Compact_intint_46
def m_slices_Compact_intint_48 : Unit → MCode := fun _ => .seq m_slices_Compact_intint_6 m_slices_Compact_intint_47
def m_slices_Compact_intint_49 : Unit → MCode := fun _ => .seq m_slices_Compact_intint_1 m_slices_Compact_intint_48
def m_slices_Compact_intint : MCode := m_slices_Compact_intint_49 ()
def h_slices_Compact_intint : Hints := [(0, [0], [], [], []), (1, [0, 8], [], [], []), (2, [2], [], [], []), (3, [0, 3], [], [], []), (4, [0, 3, 13], [], [], []), (6, [0, 3, 25], [[], [], [], [], [], [], [], [0, 1, 2, 3], [0, 1, 2, 3]], [], []), (7, [0, 3, 4], [], [], []), (8, [0, 3, 4, 5], [], [], []), (9, [0, 3, 4, 5, 32], [], [], []), (11, [0, 3, 4, 5, 44], [[], [], [], [], [], [], [], [0, 1, 2, 3], [0, 1, 2, 3]], [], []), (12, [0, 3, 4, 5], [], [], []), (13, [0, 3, 4, 5], [], [], []), (10, [0, 3, 4, 5], [], [], []), (14, [0, 3], [], [], []), (15, [2], [], [], []), (5, [0, 3], [], [], []), (16, [2], [], [], [])]
def r_slices_Compact_intint : List RV := [.t 2]
abbrev n_slices_Compact_intint : Nat := 122
theorem k_slices_Compact_intint : Known Pr mu n_slices_Compact_intint m_slices_Compact_intint r_slices_Compact_intint Go.Proofs.Try.f122.ntmps := .of h_slices_Compact_intint hm Go.Proofs.Try.func122 (by kernel_rfl) (by kernel_rfl) (by kernel_rfl) (by kernel_rfl)
def m_slices_IndexFunc_implPlaceimplPlace_1 : Unit → MCode := fun _ => .region [] [⟨(some 4), .mv (.const (.int .i64 0)), none, []⟩] [0, 1]
def m_slices_IndexFunc_implPlaceimplPlace_2 : Unit → MCode := fun _ => .region [] [⟨(some 6), .mv (.tmp 0), none, []⟩,
    ⟨(some 7), .len false (.tmp 6), none, []⟩,
    ⟨(some 8), .mv (.const (.int .i64 0)), none, []⟩] [0, 1, 7, 8]
def m_slices_IndexFunc_implPlaceimplPlace_3 : Unit → MCode := fun _ => .region [] [⟨(some 9), .bin .lss (.tmp 8) (.tmp 7), none, []⟩] [0, 1, 7, 8, 9]
def m_slices_IndexFunc_implPlaceimplPlace_4 : Unit → MCode := fun _ => .cond (.tmp 9) (fun _ => .skip) (fun _ => .exit 0)
def m_slices_IndexFunc_implPlaceimplPlace_5 : Unit → MCode := fun _ => .region [] [⟨(some 10), .mv (.tmp 8), none, []⟩,
    ⟨(some 5), .mv (.tmp 10), none, []⟩] [0, 1, 5, 7, 8]
def m_slices_IndexFunc_implPlaceimplPlace_6 : Unit → MCode := fun _ => .region [] [⟨(some 11), .mv (.tmp 1), none, []⟩,
    ⟨(some 12), .mv (.tmp 0), none, []⟩,
    ⟨(some 13), .mv (.tmp 5), none, []⟩,
    ⟨(some 14), .ia (.tmp 12) (.tmp 13) 3, none, []⟩,
    ⟨(some 15), .ld (.tmp 14) 3 true, none, []⟩,
    ⟨(some 16), .callv (.tmp 11) [(.tmp 15)], none, []⟩] [0, 1, 5, 7, 8, 16]
def m_slices_IndexFunc_implPlaceimplPlace_7 : Unit → MCode := fun _ => .region [] [⟨(some 17), .mv (.tmp 5), none, []⟩,
    ⟨(some 4), .mv (.tmp 17), none, []⟩] [4]
def m_slices_IndexFunc_implPlaceimplPlace_8 : Unit → MCode := fun _ => .seq m_slices_IndexFunc_implPlaceimplPlace_7 (fun _ => .ret)
def m_slices_IndexFunc_implPlaceimplPlace_9 : Unit → MCode := fun _ => .cond (.tmp 16) m_slices_IndexFunc_implPlaceimplPlace_8 (fun _ => .skip)
def m_slices_IndexFunc_implPlaceimplPlace_10 : Unit → MCode := fun _ => .seq m_slices_IndexFunc_implPlaceimplPlace_6 m_slices_IndexFunc_implPlaceimplPlace_9
def m_slices_IndexFunc_implPlaceimplPlace_11 : Unit → MCode := fun _ => .seq m_slices_IndexFunc_implPlaceimplPlace_5 m_slices_IndexFunc_implPlaceimplPlace_10
def m_slices_IndexFunc_implPlaceimplPlace_12 : Unit → MCode := fun _ => .block 1 m_slices_IndexFunc_implPlaceimplPlace_11
def m_slices_IndexFunc_implPlaceimplPlace_13 : Unit → MCode := fun _ => .region [] [⟨(some 18), .bin .add (.tmp 8) (.const (.int .i64 1)), none, []⟩,
    ⟨(some 8), .mv (.tmp 18), none, []⟩] [0, 1, 7, 8]
def m_slices_IndexFunc_implPlaceimplPlace_14 : Unit → MCode := fun _ => .seq m_slices_IndexFunc_implPlaceimplPlace_12 m_slices_IndexFunc_implPlaceimplPlace_13
def m_slices_IndexFunc_implPlaceimplPlace_15 : Unit → MCode := fun _ => .seq m_slices_IndexFunc_implPlaceimplPlace_4 m_slices_IndexFunc_implPlaceimplPlace_14
def m_slices_IndexFunc_implPlaceimplPlace_16 : Unit → MCode := fun _ => .seq m_slices_IndexFunc_implPlaceimplPlace_3 m_slices_IndexFunc_implPlaceimplPlace_15
def m_slices_IndexFunc_implPlaceimplPlace_17 : Unit → MCode := fun _ => .loop m_slices_IndexFunc_implPlaceimplPlace_16
def m_slices_IndexFunc_implPlaceimplPlace_18 : Unit → MCode := fun _ => .block 0 m_slices_IndexFunc_implPlaceimplPlace_17
def m_slices_IndexFunc_implPlaceimplPlace_19 : Unit → MCode := fun _ => .seq m_slices_IndexFunc_implPlaceimplPlace_2 m_slices_IndexFunc_implPlaceimplPlace_18
def m_slices_IndexFunc_implPlaceimplPlace_20 : Unit → MCode := fun _ => .region [] [⟨(some 4), .mv (.const (.int .i64 (-1))), none, []⟩] [4]
def m_slices_IndexFunc_implPlaceimplPlace_21 : Unit → MCode := fun _ => .seq m_slices_IndexFunc_implPlaceimplPlace_20 (fun _ => .ret)
def m_slices_IndexFunc_implPlaceimplPlace_22 : Unit → MCode := fun _ => .seq m_slices_IndexFunc_implPlaceimplPlace_19 m_slices_IndexFunc_implPlaceimplPlace_21
def m_slices_IndexFunc_implPlaceimplPlace_23 : Unit → MCode := fun _ => .seq m_slices_IndexFunc_implPlaceimplPlace_1 m_slices_IndexFunc_implPlaceimplPlace_22
def m_slices_IndexFunc_implPlaceimplPlace : MCode := m_slices_IndexFunc_implPlaceimplPlace_23 ()
def h_slices_IndexFunc_implPlaceimplPlace : Hints := [(0, [0, 1], [], [], []), (1, [0, 1, 7, 8], [], [], []), (2, [0, 1, 7, 8, 9], [], [], []), (3, [0, 1, 5, 7, 8], [], [], []), (4, [0, 1, 5, 7, 8, 16], [], [], []), (5, [4], [], [], []), (6, [0, 1, 7, 8], [], [], []), (7, [4], [], [], [])]
def r_slices_IndexFunc_implPlaceimplPlace : List RV := [.t 4]
abbrev n_slices_IndexFunc_implPlaceimplPlace : Nat := 135
theorem k_slices_IndexFunc_implPlaceimplPlace : Known Pr mu n_slices_IndexFunc_implPlaceimplPlace m_slices_IndexFunc_implPlaceimplPlace r_slices_IndexFunc_implPlaceimplPlace Go.Proofs.Try.f135.ntmps := .of h_slices_IndexFunc_implPlaceimplPlace hm Go.Proofs.Try.func135 (by kernel_rfl) (by kernel_rfl) (by kernel_rfl) (by kernel_rfl)
def m_slices_IndexFunc_intint_1 : Unit → MCode := fun _ => .region [] [⟨(some 4), .mv (.const (.int .i64 0)), none, []⟩] [0, 1]
def m_slices_IndexFunc_intint_2 : Unit → MCode := fun _ => .region [] [⟨(some 6), .mv (.tmp 0), none, []⟩,
    ⟨(some 7), .len false (.tmp 6), none, []⟩,
    ⟨(some 8), .mv (.const (.int .i64 0)), none, []⟩] [0, 1, 7, 8]
def m_slices_IndexFunc_intint_3 : Unit → MCode := fun _ => .region [] [⟨(some 9), .bin .lss (.tmp 8) (.tmp 7), none, []⟩] [0, 1, 7, 8, 9]
def m_slices_IndexFunc_intint_4 : Unit → MCode := fun _ => .cond (.tmp 9) (fun _ => .skip) (fun _ => .exit 0)
def m_slices_IndexFunc_intint_5 : Unit → MCode := fun _ => .region [] [⟨(some 10), .mv (.tmp 8), none, []⟩,
    ⟨(some 5), .mv (.tmp 10), none, []⟩] [0, 1, 5, 7, 8]
def m_slices_IndexFunc_intint_6 : Unit → MCode := fun _ => .region [] [⟨(some 11), .mv (.tmp 1), none, []⟩,
    ⟨(some 12), .mv (.tmp 0), none, []⟩,
    ⟨(some 13), .mv (.tmp 5), none, []⟩,
    ⟨(some 14), .ia (.tmp 12) (.tmp 13) 1, none, []⟩,
    ⟨(some 15), .ld (.tmp 14) 1 false, none, []⟩,
    ⟨(some 16), .callv (.tmp 11) [(.tmp 15)], none, []⟩] [0, 1, 5, 7, 8, 16]
def m_slices_IndexFunc_intint_7 : Unit → MCode := fun _ => .region [] [⟨(some 17), .mv (.tmp 5), none, []⟩,
    ⟨(some 4), .mv (.tmp 17), none, []⟩] [4]
def m_slices_IndexFunc_intint_8 : Unit → MCode := fun _ => .seq m_slices_IndexFunc_intint_7 (fun _ => .ret)
def m_slices_IndexFunc_intint_9 : Unit → MCode := fun _ => .cond (.tmp 16) m_slices_IndexFunc_intint_8 (fun _ => .skip)
def m_slices_IndexFunc_intint_10 : Unit → MCode := fun _ => .seq m_slices_IndexFunc_intint_6 m_slices_IndexFunc_intint_9
def m_slices_IndexFunc_intint_11 : Unit → MCode := fun _ => .seq m_slices_IndexFunc_intint_5 m_slices_IndexFunc_intint_10
def m_slices_IndexFunc_intint_12 : Unit → MCode := fun _ => .block 1 m_slices_IndexFunc_intint_11
def m_slices_IndexFunc_intint_13 : Unit → MCode := fun _ => .region [] [⟨(some 18), .bin .add (.tmp 8) (.const (.int .i64 1)), none, []⟩,
    ⟨(some 8), .mv (.tmp 18), none, []⟩] [0, 1, 7, 8]
def m_slices_IndexFunc_intint_14 : Unit → MCode := fun _ => .seq m_slices_IndexFunc_intint_12 m_slices_IndexFunc_intint_13
def m_slices_IndexFunc_intint_15 : Unit → MCode := fun _ => .seq m_slices_IndexFunc_intint_4 m_slices_IndexFunc_intint_14
def m_slices_IndexFunc_intint_16 : Unit → MCode := fun _ => .seq m_slices_IndexFunc_intint_3 m_slices_IndexFunc_intint_15
def m_slices_IndexFunc_intint_17 : Unit → MCode := fun _ => .loop m_slices_IndexFunc_intint_16
def m_slices_IndexFunc_intint_18 : Unit → MCode := fun _ => .block 0 m_slices_IndexFunc_intint_17
def m_slices_IndexFunc_intint_19 : Unit → MCode := fun _ => .seq m_slices_IndexFunc_intint_2 m_slices_IndexFunc_intint_18
def m_slices_IndexFunc_intint_20 : Unit → MCode := fun _ => .region [] [⟨(some 4), .mv (.const (.int .i64 (-1))), none, []⟩] [4]
def m_slices_IndexFunc_intint_21 : Unit → MCode := fun _ => .seq m_slices_IndexFunc_intint_20 (fun _ => .ret)
def m_slices_IndexFunc_intint_22 : Unit → MCode := fun _ => .seq m_slices_IndexFunc_intint_19 m_slices_IndexFunc_intint_21
def m_slices_IndexFunc_intint_23 : Unit → MCode := fun _ => .seq m_slices_IndexFunc_intint_1 m_slices_IndexFunc_intint_22
def m_slices_IndexFunc_intint : MCode := m_slices_IndexFunc_intint_23 ()
def h_slices_IndexFunc_intint : Hints := [(0, [0, 1], [], [], []), (1, [0, 1, 7, 8], [], [], []), (2, [0, 1, 7, 8, 9], [], [], []), (3, [0, 1, 5, 7, 8], [], [], []), (4, [0, 1, 5, 7, 8, 16], [], [], []), (5, [4], [], [], []), (6, [0, 1, 7, 8], [], [], []), (7, [4], [], [], [])]
def r_slices_IndexFunc_intint : List RV := [.t 4]
abbrev n_slices_IndexFunc_intint : Nat := 136
theorem k_slices_IndexFunc_intint : Known Pr mu n_slices_IndexFunc_intint m_slices_IndexFunc_intint r_slices_IndexFunc_intint Go.Proofs.Try.f136.ntmps := .of h_slices_IndexFunc_intint hm Go.Proofs.Try.func136 (by kernel_rfl) (by kernel_rfl) (by kernel_rfl) (by kernel_rfl)
def m_slices_Grow_intint_1 : Unit → MCode := fun _ => .region [] [⟨(some 4), .mv (.const (.slice none 0 0)), none, []⟩] [0, 1]
def m_slices_Grow_intint_2 : Unit → MCode := fun _ => .region [] [⟨(some 5), .mv (.tmp 1), none, []⟩,
    ⟨(some 6), .bin .lss (.tmp 5) (.const (.int .i64 0)), none, []⟩] [0, 1, 6]
def m_slices_Grow_intint_3 : Unit → MCode := fun _ => .region [] [⟨(some 7), .no, none, []⟩,
    ⟨none, .no, none, []⟩] [0, 1]
def m_slices_Grow_intint_4 : Unit → MCode := fun _ => .cond (.tmp 6) m_slices_Grow_intint_3 (fun _ => .skip)
def m_slices_Grow_intint_5 : Unit → MCode := fun _ => .seq m_slices_Grow_intint_2 m_slices_Grow_intint_4
def m_slices_Grow_intint_6 : Unit → MCode := fun _ => .region [] [⟨(some 8), .mv (.tmp 1), none, []⟩,
    ⟨(some 9), .mv (.tmp 0), none, []⟩,
    ⟨(some 10), .cap (.tmp 9), none, []⟩,
    ⟨(some 11), .mv (.tmp 0), none, []⟩,
    ⟨(some 12), .len false (.tmp 11), none, []⟩,
    ⟨(some 13), .bin .sub (.tmp 10) (.tmp 12), none, []⟩,
    ⟨(some 14), .bin .sub (.tmp 8) (.tmp 13), none, []⟩,
    ⟨(some 1), .mv (.tmp 14), none, []⟩] [0, 1]
def m_slices_Grow_intint_7 : Unit → MCode := fun _ => .region [] [⟨(some 15), .mv (.tmp 1), none, []⟩,
    ⟨(some 16), .bin .gtr (.tmp 15) (.const (.int .i64 0)), none, []⟩] [0, 1, 16]
def m_slices_Grow_intint_8 : Unit → MCode := fun _ => .region [] [⟨(some 17), .mv (.tmp 0), none, []⟩,
    ⟨(some 18), .mv (.tmp 0), none, []⟩,
    ⟨(some 19), .cap (.tmp 18), none, []⟩,
    ⟨(some 20), .slc false (.tmp 17) none (some (.tmp 19)) none 1, none, []⟩,
    ⟨(some 21), .mv (.tmp 1), none, []⟩,
    ⟨(some 22), .appz (.tmp 20) (.tmp 21) 1 8 [.int .i64 0], none, []⟩,
    ⟨(some 23), .mv (.tmp 0), none, []⟩,
    ⟨(some 24), .len false (.tmp 23), none, []⟩,
    ⟨(some 25), .slc false (.tmp 22) none (some (.tmp 24)) none 1, none, []⟩,
    ⟨(some 0), .mv (.tmp 25), none, []⟩] [0]
def m_slices_Grow_intint_9 : Unit → MCode := fun _ => .cond (.tmp 16) m_slices_Grow_intint_8 (fun _ => .skip)
def m_slices_Grow_intint_10 : Unit → MCode := fun _ => .seq m_slices_Grow_intint_7 m_slices_Grow_intint_9
def m_slices_Grow_intint_11 : Unit → MCode := fun _ => .seq m_slices_Grow_intint_6 m_slices_Grow_intint_10
def m_slices_Grow_intint_12 : Unit → MCode := fun _ => .region [] [⟨(some 26), .mv (.tmp 0), none, []⟩,
    ⟨(some 4), .mv (.tmp 26), none, []⟩] [4]
def m_slices_Grow_intint_13 : Unit → MCode := fun _ => .seq m_slices_Grow_intint_12 (fun _ => .ret)
def m_slices_Grow_intint_14 : Unit → MCode := fun _ => .seq m_slices_Grow_intint_11 m_slices_Grow_intint_13
def m_slices_Grow_intint_15 : Unit → MCode := fun _ => .seq m_slices_Grow_intint_5 m_slices_Grow_intint_14
def m_slices_Grow_intint_16 : Unit → MCode := fun _ => .seq m_slices_Grow_intint_1 m_slices_Grow_intint_15
def m_slices_Grow_intint : MCode := m_slices_Grow_intint_16 ()
def h_slices_Grow_intint : Hints := [(0, [0, 1], [], [], []), (1, [0, 1, 6], [], [], []), (2, [0, 1], [], [], []), (3, [0, 1], [], [], []), (4, [0, 1, 16], [], [], []), (5, [0], [], [], []), (6, [4], [], [], [])]
def r_slices_Grow_intint : List RV := [.t 4]
abbrev n_slices_Grow_intint : Nat := 137
theorem k_slices_Grow_intint : Known Pr mu n_slices_Grow_intint m_slices_Grow_intint r_slices_Grow_intint Go.Proofs.Try.f137.ntmps := .of h_slices_Grow_intint hm Go.Proofs.Try.func137 (by kernel_rfl) (by kernel_rfl) (by kernel_rfl) (by kernel_rfl)
def m_slices_Index_intint_1 : Unit → MCode := fun _ => .region [] [⟨(some 4), .mv (.const (.int .i64 0)), none, []⟩] [0, 1]
def m_slices_Index_intint_2 : Unit → MCode := fun _ => .region [] [⟨(some 6), .mv (.tmp 0), none, []⟩,
    ⟨(some 7), .len false (.tmp 6), none, []⟩,
    ⟨(some 8), .mv (.const (.int .i64 0)), none, []⟩] [0, 1, 7, 8]
def m_slices_Index_intint_3 : Unit → MCode := fun _ => .region [] [⟨(some 9), .bin .lss (.tmp 8) (.tmp 7), none, []⟩] [0, 1, 7, 8, 9]
def m_slices_Index_intint_4 : Unit → MCode := fun _ => .cond (.tmp 9) (fun _ => .skip) (fun _ => .exit 0)
def m_slices_Index_intint_5 : Unit → MCode := fun _ => .region [] [⟨(some 10), .mv (.tmp 8), none, []⟩,
    ⟨(some 5), .mv (.tmp 10), none, []⟩] [0, 1, 5, 7, 8]
def m_slices_Index_intint_6 : Unit → MCode := fun _ => .region [] [⟨(some 11), .mv (.tmp 1), none, []⟩,
    ⟨(some 12), .mv (.tmp 0), none, []⟩,
    ⟨(some 13), .mv (.tmp 5), none, []⟩,
    ⟨(some 14), .ia (.tmp 12) (.tmp 13) 1, none, []⟩,
    ⟨(some 15), .ld (.tmp 14) 1 false, none, []⟩,
    ⟨(some 16), .bin .eql (.tmp 11) (.tmp 15), none, []⟩] [0, 1, 5, 7, 8, 16]
def m_slices_Index_intint_7 : Unit → MCode := fun _ => .region [] [⟨(some 17), .mv (.tmp 5), none, []⟩,
    ⟨(some 4), .mv (.tmp 17), none, []⟩] [4]
def m_slices_Index_intint_8 : Unit → MCode := fun _ => .seq m_slices_Index_intint_7 (fun _ => .ret)
def m_slices_Index_intint_9 : Unit → MCode := fun _ => .cond (.tmp 16) m_slices_Index_intint_8 (fun _ => .skip)
def m_slices_Index_intint_10 : Unit → MCode := fun _ => .seq m_slices_Index_intint_6 m_slices_Index_intint_9
def m_slices_Index_intint_11 : Unit → MCode := fun _ => .seq m_slices_Index_intint_5 m_slices_Index_intint_10
def m_slices_Index_intint_12 : Unit → MCode := fun _ => .block 1 m_slices_Index_intint_11
def m_slices_Index_intint_13 : Unit → MCode := fun _ => .region [] [⟨(some 18), .bin .add (.tmp 8) (.const (.int .i64 1)), none, []⟩,
    ⟨(some 8), .mv (.tmp 18), none, []⟩] [0, 1, 7, 8]
def m_slices_Index_intint_14 : Unit → MCode := fun _ => .seq m_slices_Index_intint_12 m_slices_Index_intint_13
def m_slices_Index_intint_15 : Unit → MCode := fun _ => .seq m_slices_Index_intint_4 m_slices_Index_intint_14
def m_slices_Index_intint_16 : Unit → MCode := fun _ => .seq m_slices_Index_intint_3 m_slices_Index_intint_15
def m_slices_Index_intint_17 : Unit → MCode := fun _ => .loop m_slices_Index_intint_16
def m_slices_Index_intint_18 : Unit → MCode := fun _ => .block 0 m_slices_Index_intint_17
def m_slices_Index_intint_19 : Unit → MCode := fun _ => .seq m_slices_Index_intint_2 m_slices_Index_intint_18
def m_slices_Index_intint_20 : Unit → MCode := fun _ => .region [] [⟨(some 4), .mv (.const (.int .i64 (-1))), none, []⟩] [4]
def m_slices_Index_intint_21 : Unit → MCode := fun _ => .seq m_slices_Index_intint_20 (fun _ => .ret)
def m_slices_Index_intint_22 : Unit → MCode := fun _ => .seq m_slices_Index_intint_19 m_slices_Index_intint_21
def m_slices_Index_intint_23 : Unit → MCode := fun _ => .seq m_slices_Index_intint_1 m_slices_Index_intint_22
def m_slices_Index_intint : MCode := m_slices_Index_intint_23 ()
def h_slices_Index_intint : Hints := [(0, [0, 1], [], [], []), (1, [0, 1, 7, 8], [], [], []), (2, [0, 1, 7, 8, 9], [], [], []), (3, [0, 1, 5, 7, 8], [], [], []), (4, [0, 1, 5, 7, 8, 16], [], [], []), (5, [4], [], [], []), (6, [0, 1, 7, 8], [], [], []), (7, [4], [], [], [])]
def r_slices_Index_intint : List RV := [.t 4]
abbrev n_slices_Index_intint : Nat := 138
theorem k_slices_Index_intint : Known Pr mu n_slices_Index_intint m_slices_Index_intint r_slices_Index_intint Go.Proofs.Try.f138.ntmps := .of h_slices_Index_intint hm Go.Proofs.Try.func138 (by kernel_rfl) (by kernel_rfl) (by kernel_rfl) (by kernel_rfl)
def m_slices_pdqsortOrdered_int_1 : Unit → MCode := fun _ => .region [] [⟨(some 8), .mv (.const (.bool true)), none, []⟩] [0, 1, 2, 3, 8]
def m_slices_pdqsortOrdered_int_2 : Unit → MCode := fun _ => .region [] [⟨(some 9), .mv (.const (.bool true)), none, []⟩] [0, 1, 2, 3, 8, 9]
def m_slices_pdqsortOrdered_int_3 : Unit → MCode := fun _ => .region [] [⟨(some 19), .mv (.tmp 2), none, []⟩,
    ⟨(some 20), .mv (.tmp 1), none, []⟩,
    ⟨(some 21), .bin .sub (.tmp 19) (.tmp 20), none, []⟩,
    ⟨(some 10), .mv (.tmp 21), none, []⟩] [0, 1, 2, 3, 8, 9, 10]
def m_slices_pdqsortOrdered_int_4 : Unit → MCode := fun _ => .region [] [⟨(some 22), .mv (.tmp 10), none, []⟩,
    ⟨(some 23), .bin .leq (.tmp 22) (.const (.int .i64 12)), none, []⟩] [0, 1, 2, 3, 8, 9, 10, 23]
def m_slices_pdqsortOrdered_int_5 : Unit → MCode := fun _ => .region [] [⟨(some 24), .mv (.tmp 0), none, []⟩,
    ⟨(some 25), .mv (.tmp 1), none, []⟩,
    ⟨(some 26), .mv (.tmp 2), none, []⟩,
    ⟨(some 27), .callm 145 [(.tmp 24), (.tmp 25), (.tmp 26)], none, []⟩] []
def m_slices_pdqsortOrdered_int_6 : Unit → MCode := fun _ => .seq m_slices_pdqsortOrdered_int_5 (fun _ => .ret)
def m_slices_pdqsortOrdered_int_7 : Unit → MCode := fun _ => .cond (.tmp 23) m_slices_pdqsortOrdered_int_6 (fun _ => .skip)
def m_slices_pdqsortOrdered_int_8 : Unit → MCode := fun _ => .seq m_slices_pdqsortOrdered_int_4 m_slices_pdqsortOrdered_int_7
def m_slices_pdqsortOrdered_int_9 : Unit → MCode := fun _ => .region [] [⟨(some 28), .mv (.tmp 3), none, []⟩,
    ⟨(some 29), .bin .eql (.tmp 28) (.const (.int .i64 0)), none, []⟩] [0, 1, 2, 3, 8, 9, 10, 29]
def m_slices_pdqsortOrdered_int_10 : Unit → MCode := fun _ => .region [] [⟨(some 30), .mv (.tmp 0), none, []⟩,
    ⟨(some 31), .mv (.tmp 1), none, []⟩,
    ⟨(some 32), .mv (.tmp 2), none, []⟩,
    ⟨(some 33), .callm 146 [(.tmp 30), (.tmp 31), (.tmp 32)], none, []⟩] []
def m_slices_pdqsortOrdered_int_11 : Unit → MCode := fun _ => .seq m_slices_pdqsortOrdered_int_10 (fun _ => .ret)
def m_slices_pdqsortOrdered_int_12 : Unit → MCode := fun _ => .cond (.tmp 29) m_slices_pdqsortOrdered_int_11 (fun _ => .skip)
def m_slices_pdqsortOrdered_int_13 : Unit → MCode := fun _ => .seq m_slices_pdqsortOrdered_int_9 m_slices_pdqsortOrdered_int_12
def m_slices_pdqsortOrdered_int_14 : Unit → MCode := fun _ => .region [] [⟨(some 34), .mv (.tmp 8), none, []⟩,
    ⟨(some 35), .not (.tmp 34), none, []⟩] [0, 1, 2, 3, 8, 9, 10, 35]
def m_slices_pdqsortOrdered_int_15 : Unit → MCode := fun _ => .region [] [⟨(some 36), .mv (.tmp 0), none, []⟩,
    ⟨(some 37), .mv (.tmp 1), none, []⟩,
    ⟨(some 38), .mv (.tmp 2), none, []⟩,
    ⟨(some 39), .callm 147 [(.tmp 36), (.tmp 37), (.tmp 38)], none, []⟩] [0, 1, 2, 3, 8, 9, 10]
def m_slices_pdqsortOrdered_int_16 : Unit → MCode := fun _ => .region [] [⟨(some 40), .mv (.tmp 3), none, []⟩,
    ⟨(some 41), .bin .sub (.tmp 40) (.const (.int .i64 1)), none, []⟩,
    ⟨(some 3), .mv (.tmp 41), none, []⟩] [0, 1, 2, 3, 8, 9, 10]
def m_slices_pdqsortOrdered_int_17 : Unit → MCode := fun _ => .seq m_slices_pdqsortOrdered_int_15 m_slices_pdqsortOrdered_int_16
def m_slices_pdqsortOrdered_int_18 : Unit → MCode := fun _ => .cond (.tmp 35) m_slices_pdqsortOrdered_int_17 (fun _ => .skip)
def m_slices_pdqsortOrdered_int_19 : Unit → MCode := fun _ => .seq m_slices_pdqsortOrdered_int_14 m_slices_pdqsortOrdered_int_18
def m_slices_pdqsortOrdered_int_20 : Unit → MCode := fun _ => .region [] [⟨(some 43), .mv (.tmp 0), none, []⟩,
    ⟨(some 44), .mv (.tmp 1), none, []⟩,
    ⟨(some 45), .mv (.tmp 2), none, []⟩,
    ⟨(some 46), .call 148 [(.tmp 43), (.tmp 44), (.tmp 45)], none, []⟩,
    ⟨(some 42), .mv (.tmp 46), none, []⟩,
    ⟨(some 47), .ext (.tmp 42) 0, none, []⟩,
    ⟨(some 48), .ext (.tmp 42) 1, none, []⟩,
    ⟨(some 11), .mv (.tmp 47), none, []⟩,
    ⟨(some 12), .mv (.tmp 48), none, []⟩] [0, 1, 2, 3, 8, 9, 10, 11, 12]
def m_slices_pdqsortOrdered_int_21 : Unit → MCode := fun _ => .region [] [⟨(some 49), .mv (.tmp 12), none, []⟩,
    ⟨(some 50), .bin .eql (.tmp 49) (.const (.int .i64 2)), none, []⟩] [0, 1, 2, 3, 8, 9, 10, 11, 12, 50]
def m_slices_pdqsortOrdered_int_22 : Unit → MCode := fun _ => .region [] [⟨(some 51), .mv (.tmp 0), none, []⟩,
    ⟨(some 52), .mv (.tmp 1), none, []⟩,
    ⟨(some 53), .mv (.tmp 2), none, []⟩,
    ⟨(some 54), .callm 149 [(.tmp 51), (.tmp 52), (.tmp 53)], none, []⟩] [0, 1, 2, 3, 8, 9, 10, 11]
def m_slices_pdqsortOrdered_int_23 : Unit → MCode := fun _ => .region [] [⟨(some 55), .mv (.tmp 2), none, []⟩,
    ⟨(some 56), .bin .sub (.tmp 55) (.const (.int .i64 1)), none, []⟩,
    ⟨(some 57), .mv (.tmp 11), none, []⟩,
    ⟨(some 58), .mv (.tmp 1), none, []⟩,
    ⟨(some 59), .bin .sub (.tmp 57) (.tmp 58), none, []⟩,
    ⟨(some 60), .bin .sub (.tmp 56) (.tmp 59), none, []⟩,
    ⟨(some 11), .mv (.tmp 60), none, []⟩] [0, 1, 2, 3, 8, 9, 10, 11]
def m_slices_pdqsortOrdered_int_24 : Unit → MCode := fun _ => .region [] [⟨(some 12), .mv (.const (.int .i64 1)), none, []⟩] [0, 1, 2, 3, 8, 9, 10, 11, 12]
def m_slices_pdqsortOrdered_int_25 : Unit → MCode := fun _ => .seq m_slices_pdqsortOrdered_int_23 m_slices_pdqsortOrdered_int_24
def m_slices_pdqsortOrdered_int_26 : Unit → MCode := fun _ => .seq m_slices_pdqsortOrdered_int_22 m_slices_pdqsortOrdered_int_25
def m_slices_pdqsortOrdered_int_27 : Unit → MCode := fun _ => .cond (.tmp 50) m_slices_pdqsortOrdered_int_26 (fun _ => .skip)
def m_slices_pdqsortOrdered_int_28 : Unit → MCode := fun _ => .seq m_slices_pdqsortOrdered_int_21 m_slices_pdqsortOrdered_int_27
def m_slices_pdqsortOrdered_int_29 : Unit → MCode := fun _ => .region [] [⟨(some 61), .mv (.tmp 8), none, []⟩,
    ⟨(some 62), .mv (.tmp 61), none, []⟩,
    ⟨(some 63), .mv (.tmp 9), (some (62, true)), []⟩,
    ⟨(some 64), .pick (.tmp 62) (.tmp 63) (.const (.bool false)), none, []⟩,
    ⟨(some 65), .mv (.tmp 64), none, []⟩,
    ⟨(some 66), .mv (.tmp 12), (some (65, true)), []⟩,
    ⟨(some 67), .bin .eql (.tmp 66) (.const (.int .i64 1)), (some (65, true)), []⟩,
    ⟨(some 68), .pick (.tmp 65) (.tmp 67) (.const (.bool false)), none, []⟩] [0, 1, 2, 3, 8, 9, 10, 11, 68]
def m_slices_pdqsortOrdered_int_30 : Unit → MCode := fun _ => .region [] [⟨(some 69), .mv (.tmp 0), none, []⟩,
    ⟨(some 70), .mv (.tmp 1), none, []⟩,
    ⟨(some 71), .mv (.tmp 2), none, []⟩,
    ⟨(some 72), .callm 150 [(.tmp 69), (.tmp 70), (.tmp 71)], none, []⟩] [0, 1, 2, 3, 8, 9, 10, 11, 72]
def m_slices_pdqsortOrdered_int_31 : Unit → MCode := fun _ => .cond (.tmp 72) (fun _ => .ret) (fun _ => .skip)
def m_slices_pdqsortOrdered_int_32 : Unit → MCode := fun _ => .seq m_slices_pdqsortOrdered_int_30 m_slices_pdqsortOrdered_int_31
def m_slices_pdqsortOrdered_int_33 : Unit → MCode := fun _ => .cond (.tmp 68) m_slices_pdqsortOrdered_int_32 (fun _ => .skip)
def m_slices_pdqsortOrdered_int_34 : Unit → MCode := fun _ => .seq m_slices_pdqsortOrdered_int_29 m_slices_pdqsortOrdered_int_33
def m_slices_pdqsortOrdered_int_35 : Unit → MCode := fun _ => .region [] [⟨(some 73), .mv (.tmp 1), none, []⟩,
    ⟨(some 74), .bin .gtr (.tmp 73) (.const (.int .i64 0)), none, []⟩,
    ⟨(some 75), .mv (.tmp 74), none, []⟩,
    ⟨(some 76), .mv (.tmp 0), (some (75, true)), []⟩,
    ⟨(some 77), .mv (.tmp 1), (some (75, true)), []⟩,
    ⟨(some 78), .bin .sub (.tmp 77) (.const (.int .i64 1)), (some (75, true)), []⟩,
    ⟨(some 79), .ia (.tmp 76) (.tmp 78) 1, (some (75, true)), []⟩,
    ⟨(some 80), .ld (.tmp 79) 1 false, (some (75, true)), []⟩,
    ⟨(some 81), .mv (.tmp 0), (some (75, true)), []⟩,
    ⟨(some 82), .mv (.tmp 11), (some (75, true)), []⟩,
    ⟨(some 83), .ia (.tmp 81) (.tmp 82) 1, (some (75, true)), [3, 4, 5, 6, 7]⟩,
    ⟨(some 84), .ld (.tmp 83) 1 false, (some (75, true)), [3, 4, 5, 6, 7]⟩,
    ⟨(some 85), .call 151 [(.tmp 80), (.tmp 84)], (some (75, true)), []⟩,
    ⟨(some 86), .not (.tmp 85), (some (75, true)), []⟩,
    ⟨(some 87), .pick (.tmp 75) (.tmp 86) (.const (.bool false)), none, []⟩] [0, 1, 2, 3, 8, 9, 10, 11, 87]
def m_slices_pdqsortOrdered_int_36 : Unit → MCode := fun _ => .region [] [⟨(some 88), .mv (.tmp 0), none, []⟩,
    ⟨(some 89), .mv (.tmp 1), none, []⟩,
    ⟨(some 90), .mv (.tmp 2), none, []⟩,
    ⟨(some 91), .mv (.tmp 11), none, []⟩,
    ⟨(some 92), .callm 152 [(.tmp 88), (.tmp 89), (.tmp 90), (.tmp 91)], none, []⟩,
    ⟨(some 13), .mv (.tmp 92), none, []⟩] [0, 2, 3, 8, 9, 13]
def m_slices_pdqsortOrdered_int_37 : Unit → MCode := fun _ => .region [] [⟨(some 93), .mv (.tmp 13), none, []⟩,
    ⟨(some 1), .mv (.tmp 93), none, []⟩] [0, 1, 2, 3, 8, 9]
def m_slices_pdqsortOrdered_int_38 : Unit → MCode := fun _ => .seq m_slices_pdqsortOrdered_int_37 (fun _ => .exit 1)
def m_slices_pdqsortOrdered_int_39 : Unit → MCode := fun _ => .seq m_slices_pdqsortOrdered_int_36 m_slices_pdqsortOrdered_int_38
def m_slices_pdqsortOrdered_int_40 : Unit → MCode := fun _ => .cond (.tmp 87) m_slices_pdqsortOrdered_int_39 (fun _ => .skip)
def m_slices_pdqsortOrdered_int_41 : Unit → MCode := fun _ => .seq m_slices_pdqsortOrdered_int_35 m_slices_pdqsortOrdered_int_40
def m_slices_pdqsortOrdered_int_42 : Unit → MCode := fun _ => .region [] [⟨(some 95), .mv (.tmp 0), none, []⟩,
    ⟨(some 96), .mv (.tmp 1), none, []⟩,
    ⟨(some 97), .mv (.tmp 2), none, []⟩,
    ⟨(some 98), .mv (.tmp 11), none, []⟩,
    ⟨(some 99), .callm 153 [(.tmp 95), (.tmp 96), (.tmp 97), (.tmp 98)], none, []⟩,
    ⟨(some 94), .mv (.tmp 99), none, []⟩,
    ⟨(some 100), .ext (.tmp 94) 0, none, []⟩,
    ⟨(some 101), .ext (.tmp 94) 1, none, []⟩,
    ⟨(some 14), .mv (.tmp 100), none, []⟩,
    ⟨(some 15), .mv (.tmp 101), none, []⟩] [0, 1, 2, 3, 10, 14, 15]
def m_slices_pdqsortOrdered_int_43 : Unit → MCode := fun _ => .region [] [⟨(some 102), .mv (.tmp 15), none, []⟩,
    ⟨(some 9), .mv (.tmp 102), none, []⟩] [0, 1, 2, 3, 9, 10, 14]
def m_slices_pdqsortOrdered_int_44 : Unit → MCode := fun _ => .region [] [⟨(some 103), .mv (.tmp 14), none, []⟩,
    ⟨(some 104), .mv (.tmp 1), none, []⟩,
    ⟨(some 105), .bin .sub (.tmp 103) (.tmp 104), none, []⟩,
    ⟨(some 106), .mv (.tmp 2), none, []⟩,
    ⟨(some 107), .mv (.tmp 14), none, []⟩,
    ⟨(some 108), .bin .sub (.tmp 106) (.tmp 107), none, []⟩,
    ⟨(some 16), .mv (.tmp 105), none, []⟩,
    ⟨(some 17), .mv (.tmp 108), none, []⟩] [0, 1, 2, 3, 9, 10, 14, 16, 17]
def m_slices_pdqsortOrdered_int_45 : Unit → MCode := fun _ => .region [] [⟨(some 109), .mv (.tmp 10), none, []⟩,
    ⟨(some 110), .bin .quo (.tmp 109) (.const (.int .i64 8)), none, []⟩,
    ⟨(some 18), .mv (.tmp 110), none, []⟩] [0, 1, 2, 3, 9, 14, 16, 17, 18]
def m_slices_pdqsortOrdered_int_46 : Unit → MCode := fun _ => .region [] [⟨(some 111), .mv (.tmp 16), none, []⟩,
    ⟨(some 112), .mv (.tmp 17), none, []⟩,
    ⟨(some 113), .bin .lss (.tmp 111) (.tmp 112), none, []⟩] [0, 1, 2, 3, 9, 14, 16, 17, 18, 113]
def m_slices_pdqsortOrdered_int_47 : Unit → MCode := fun _ => .region [] [⟨(some 114), .mv (.tmp 16), none, []⟩,
    ⟨(some 115), .mv (.tmp 18), none, []⟩,
    ⟨(some 116), .bin .geq (.tmp 114) (.tmp 115), none, []⟩,
    ⟨(some 8), .mv (.tmp 116), none, []⟩] [0, 1, 2, 3, 8, 9, 14]
def m_slices_pdqsortOrdered_int_48 : Unit → MCode := fun _ => .region [] [⟨(some 117), .mv (.tmp 0), none, []⟩,
    ⟨(some 118), .mv (.tmp 1), none, []⟩,
    ⟨(some 119), .mv (.tmp 14), none, []⟩,
    ⟨(some 120), .mv (.tmp 3), none, []⟩,
    ⟨(some 121), .callm 139 [(.tmp 117), (.tmp 118), (.tmp 119), (.tmp 120)], none, []⟩] [0, 2, 3, 8, 9, 14]
def m_slices_pdqsortOrdered_int_49 : Unit → MCode := fun _ => .region [] [⟨(some 122), .mv (.tmp 14), none, []⟩,
    ⟨(some 123), .bin .add (.tmp 122) (.const (.int .i64 1)), none, []⟩,
    ⟨(some 1), .mv (.tmp 123), none, []⟩] [0, 1, 2, 3, 8, 9]
def m_slices_pdqsortOrdered_int_50 : Unit → MCode := fun _ => .seq m_slices_pdqsortOrdered_int_48 m_slices_pdqsortOrdered_int_49
def m_slices_pdqsortOrdered_int_51 : Unit → MCode := fun _ => .seq m_slices_pdqsortOrdered_int_47 m_slices_pdqsortOrdered_int_50
def m_slices_pdqsortOrdered_int_52 : Unit → MCode := fun _ => .region [] [⟨(some 124), .mv (.tmp 17), none, []⟩,
    ⟨(some 125), .mv (.tmp 18), none, []⟩,
    ⟨(some 126), .bin .geq (.tmp 124) (.tmp 125), none, []⟩,
    ⟨(some 8), .mv (.tmp 126), none, []⟩] [0, 1, 2, 3, 8, 9, 14]
def m_slices_pdqsortOrdered_int_53 : Unit → MCode := fun _ => .region [] [⟨(some 127), .mv (.tmp 0), none, []⟩,
    ⟨(some 128), .mv (.tmp 14), none, []⟩,
    ⟨(some 129), .bin .add (.tmp 128) (.const (.int .i64 1)), none, []⟩,
    ⟨(some 130), .mv (.tmp 2), none, []⟩,
    ⟨(some 131), .mv (.tmp 3), none, []⟩,
    ⟨(some 132), .callm 139 [(.tmp 127), (.tmp 129), (.tmp 130), (.tmp 131)], none, []⟩] [0, 1, 3, 8, 9, 14]
def m_slices_pdqsortOrdered_int_54 : Unit → MCode := fun _ => .region [] [⟨(some 133), .mv (.tmp 14), none, []⟩,
    ⟨(some 2), .mv (.tmp 133), none, []⟩] [0, 1, 2, 3, 8, 9]
def m_slices_pdqsortOrdered_int_55 : Unit → MCode := fun _ => .seq m_slices_pdqsortOrdered_int_53 m_slices_pdqsortOrdered_int_54
def m_slices_pdqsortOrdered_int_56 : Unit → MCode := fun _ => .seq m_slices_pdqsortOrdered_int_52 m_slices_pdqsortOrdered_int_55
def m_slices_pdqsortOrdered_int_57 : Unit → MCode := fun _ => .cond (.tmp 113) m_slices_pdqsortOrdered_int_51 m_slices_pdqsortOrdered_int_56
def m_slices_pdqsortOrdered_int_58 : Unit → MCode := fun _ => .seq m_slices_pdqsortOrdered_int_46 m_slices_pdqsortOrdered_int_57
def m_slices_pdqsortOrdered_int_59 : Unit → MCode := fun _ => .seq m_slices_pdqsortOrdered_int_45 m_slices_pdqsortOrdered_int_58
def m_slices_pdqsortOrdered_int_60 : Unit → MCode := fun _ => .seq m_slices_pdqsortOrdered_int_44 m_slices_pdqsortOrdered_int_59
def m_slices_pdqsortOrdered_int_61 : Unit → MCode := fun _ => .seq m_slices_pdqsortOrdered_int_43 m_slices_pdqsortOrdered_int_60
def m_slices_pdqsortOrdered_int_62 : Unit → MCode := fun _ => .seq m_slices_pdqsortOrdered_int_42 m_slices_pdqsortOrdered_int_61
def m_slices_pdqsortOrdered_int_63 : Unit → MCode := fun _ => .seq m_slices_pdqsortOrdered_int_41 m_slices_pdqsortOrdered_int_62
def m_slices_pdqsortOrdered_int_64 : Unit → MCode := fun _ => .seq m_slices_pdqsortOrdered_int_34 m_slices_pdqsortOrdered_int_63
def m_slices_pdqsortOrdered_int_65 : Unit → MCode := fun _ => .seq m_slices_pdqsortOrdered_int_28 m_slices_pdqsortOrdered_int_64
def m_slices_pdqsortOrdered_int_66 : Unit → MCode := fun _ => .seq m_slices_pdqsortOrdered_int_20 m_slices_pdqsortOrdered_int_65
def m_slices_pdqsortOrdered_int_67 : Unit → MCode := fun _ => .seq m_slices_pdqsortOrdered_int_19 m_slices_pdqsortOrdered_int_66
def m_slices_pdqsortOrdered_int_68 : Unit → MCode := fun _ => .seq m_slices_pdqsortOrdered_int_13 m_slices_pdqsortOrdered_int_67
def m_slices_pdqsortOrdered_int_69 : Unit → MCode := fun _ => .seq m_slices_pdqsortOrdered_int_8 m_slices_pdqsortOrdered_int_68
def m_slices_pdqsortOrdered_int_70 : Unit → MCode := fun _ => .seq m_slices_pdqsortOrdered_int_3 m_slices_pdqsortOrdered_int_69
def m_slices_pdqsortOrdered_int_71 : Unit → MCode := fun _ => .block 1 m_slices_pdqsortOrdered_int_70
def m_slices_pdqsortOrdered_int_72 : Unit → MCode := fun _ => .loop m_slices_pdqsortOrdered_int_71
def m_slices_pdqsortOrdered_int_73 : Unit → MCode := fun _ => .block 0 m_slices_pdqsortOrdered_int_72
def m_slices_pdqsortOrdered_int_74 : Unit → MCode := fun _ => .seq m_slices_pdqsortOrdered_int_2 m_slices_pdqsortOrdered_int_73
def m_slices_pdqsortOrdered_int_75 : Unit → MCode := fun _ => .seq m_slices_pdqsortOrdered_int_1 m_slices_pdqsortOrdered_int_74
def m_slices_pdqsortOrdered_int : MCode := m_slices_pdqsortOrdered_int_75 ()
def h_slices_pdqsortOrdered_int : Hints := [(0, [0, 1, 2, 3, 8], [], [], []), (1, [0, 1, 2, 3, 8, 9], [], [], []), (2, [0, 1, 2, 3, 8, 9, 10], [], [], []), (3, [0, 1, 2, 3, 8, 9, 10, 23], [], [], []), (4, [], [], [], []), (5, [0, 1, 2, 3, 8, 9, 10, 29], [], [], []), (6, [], [], [], []), (7, [0, 1, 2, 3, 8, 9, 10, 35], [], [], []), (8, [0, 1, 2, 3, 8, 9, 10], [], [], []), (9, [0, 1, 2, 3, 8, 9, 10], [], [], []), (10, [0, 1, 2, 3, 8, 9, 10, 11, 12], [], [], []), (11, [0, 1, 2, 3, 8, 9, 10, 11, 12, 50], [], [], []), (12, [0, 1, 2, 3, 8, 9, 10, 11], [], [], []), (13, [0, 1, 2, 3, 8, 9, 10, 11], [], [], []), (14, [0, 1, 2, 3, 8, 9, 10, 11, 12], [], [], []), (15, [0, 1, 2, 3, 8, 9, 10, 11, 68], [], [], []), (16, [0, 1, 2, 3, 8, 9, 10, 11, 72], [], [], []), (17, [0, 1, 2, 3, 8, 9, 10, 11, 87], [[], [], [], [], [], [], [], [], [], [], [3, 4, 5, 6, 7], [3, 4, 5, 6, 7]], [], []), (18, [0, 2, 3, 8, 9, 13], [], [], []), (19, [0, 1, 2, 3, 8, 9], [], [], []), (20, [0, 1, 2, 3, 10, 14, 15], [], [], []), (21, [0, 1, 2, 3, 9, 10, 14], [], [], []), (22, [0, 1, 2, 3, 9, 10, 14, 16, 17], [], [], []), (23, [0, 1, 2, 3, 9, 14, 16, 17, 18], [], [], []), (24, [0, 1, 2, 3, 9, 14, 16, 17, 18, 113], [], [], []), (25, [0, 1, 2, 3, 8, 9, 14], [], [], []), (26, [0, 2, 3, 8, 9, 14], [], [], []), (27, [0, 1, 2, 3, 8, 9], [], [], []), (28, [0, 1, 2, 3, 8, 9, 14], [], [], []), (29, [0, 1, 3, 8, 9, 14], [], [], []), (30, [0, 1, 2, 3, 8, 9], [], [], [])]
def r_slices_pdqsortOrdered_int : List RV := []
abbrev n_slices_pdqsortOrdered_int : Nat := 139
theorem k_slices_pdqsortOrdered_int : Known Pr mu n_slices_pdqsortOrdered_int m_slices_pdqsortOrdered_int r_slices_pdqsortOrdered_int Go.Proofs.Try.f139.ntmps := .of h_slices_pdqsortOrdered_int hm Go.Proofs.Try.func139 (by kernel_rfl) (by kernel_rfl) (by kernel_rfl) (by kernel_rfl)
def m_math_bits_Len_1 : Unit → MCode := fun _ => .region [] [⟨(some 2), .mv (.const (.int .i64 0)), none, []⟩] [0]
def m_math_bits_Len_2 : Unit → MCode := fun _ => .region [] [⟨(some 3), .mv (.tmp 0), none, []⟩,
    ⟨(some 4), .conv .u32 (.tmp 3), none, []⟩,
    ⟨(some 5), .call 154 [(.tmp 4)], none, []⟩,
    ⟨(some 2), .mv (.tmp 5), none, []⟩] [2]
def m_math_bits_Len_3 : Unit → MCode := fun _ => .seq m_math_bits_Len_2 (fun _ => .ret)
def m_math_bits_Len_4 : Unit → MCode := fun _ => .cond (.const (.bool false)) m_math_bits_Len_3 (fun _ => .skip)
def m_math_bits_Len_5 : Unit → MCode := fun _ => .region [] [⟨(some 6), .mv (.tmp 0), none, []⟩,
    ⟨(some 7), .call 155 [(.tmp 6)], none, []⟩,
    ⟨(some 2), .mv (.tmp 7), none, []⟩] [2]
def m_math_bits_Len_6 : Unit → MCode := fun _ => .seq m_math_bits_Len_5 (fun _ => .ret)
def m_math_bits_Len_7 : Unit → MCode := fun _ => .seq m_math_bits_Len_4 m_math_bits_Len_6
def m_math_bits_Len_8 : Unit → MCode := fun _ => .seq m_math_bits_Len_1 m_math_bits_Len_7
def m_math_bits_Len : MCode := m_math_bits_Len_8 ()
def h_math_bits_Len : Hints := [(0, [0], [], [], []), (1, [2], [], [], []), (2, [2], [], [], [])]
def r_math_bits_Len : List RV := [.t 2]
abbrev n_math_bits_Len : Nat := 140
theorem k_math_bits_Len : Known Pr mu n_math_bits_Len m_math_bits_Len r_math_bits_Len Go.Proofs.Try.f140.ntmps := .of h_math_bits_Len hm Go.Proofs.Try.func140 (by kernel_rfl) (by kernel_rfl) (by kernel_rfl) (by kernel_rfl)
def m_slices_insertionSortOrdered_int_1 : Unit → MCode := fun _ => .region [] [⟨(some 8), .mv (.tmp 1), none, []⟩,
    ⟨(some 9), .bin .add (.tmp 8) (.const (.int .i64 1)), none, []⟩,
    ⟨(some 6), .mv (.tmp 9), none, []⟩] [0, 1, 2, 6]
def m_slices_insertionSortOrdered_int_2 : Unit → MCode := fun _ => .region [] [⟨(some 10), .mv (.tmp 6), none, []⟩,
    ⟨(some 11), .mv (.tmp 2), none, []⟩,
    ⟨(some 12), .bin .lss (.tmp 10) (.tmp 11), none, []⟩] [0, 1, 2, 6, 12]
def m_slices_insertionSortOrdered_int_3 : Unit → MCode := fun _ => .cond (.tmp 12) (fun _ => .skip) (fun _ => .exit 0)
def m_slices_insertionSortOrdered_int_4 : Unit → MCode := fun _ => .seq m_slices_insertionSortOrdered_int_2 m_slices_insertionSortOrdered_int_3
def m_slices_insertionSortOrdered_int_5 : Unit → MCode := fun _ => .region [] [⟨(some 15), .mv (.tmp 6), none, []⟩,
    ⟨(some 7), .mv (.tmp 15), none, []⟩] [0, 1, 2, 6, 7]
def m_slices_insertionSortOrdered_int_6 : Unit → MCode := fun _ => .region [] [⟨(some 16), .mv (.tmp 7), none, []⟩,
    ⟨(some 17), .mv (.tmp 1), none, []⟩,
    ⟨(some 18), .bin .gtr (.tmp 16) (.tmp 17), none, []⟩,
    ⟨(some 19), .mv (.tmp 18), none, []⟩,
    ⟨(some 20), .mv (.tmp 0), (some (19, true)), []⟩,
    ⟨(some 21), .mv (.tmp 7), (some (19, true)), []⟩,
    ⟨(some 22), .ia (.tmp 20) (.tmp 21) 1, (some (19, true)), []⟩,
    ⟨(some 23), .ld (.tmp 22) 1 false, (some (19, true)), []⟩,
    ⟨(some 24), .mv (.tmp 0), (some (19, true)), []⟩,
    ⟨(some 25), .mv (.tmp 7), (some (19, true)), []⟩,
    ⟨(some 26), .bin .sub (.tmp 25) (.const (.int .i64 1)), (some (19, true)), []⟩,
    ⟨(some 27), .ia (.tmp 24) (.tmp 26) 1, (some (19, true)), [4, 5, 6, 7]⟩,
    ⟨(some 28), .ld (.tmp 27) 1 false, (some (19, true)), [4, 5, 6, 7]⟩,
    ⟨(some 29), .call 151 [(.tmp 23), (.tmp 28)], (some (19, true)), []⟩,
    ⟨(some 30), .pick (.tmp 19) (.tmp 29) (.const (.bool false)), none, []⟩] [0, 1, 2, 6, 7, 30]
def m_slices_insertionSortOrdered_int_7 : Unit → MCode := fun _ => .cond (.tmp 30) (fun _ => .skip) (fun _ => .exit 2)
def m_slices_insertionSortOrdered_int_8 : Unit → MCode := fun _ => .seq m_slices_insertionSortOrdered_int_6 m_slices_insertionSortOrdered_int_7
def m_slices_insertionSortOrdered_int_9 : Unit → MCode := fun _ => .region [] [⟨(some 33), .mv (.tmp 0), none, []⟩,
    ⟨(some 34), .mv (.tmp 7), none, []⟩,
    ⟨(some 35), .mv (.tmp 0), none, []⟩,
    ⟨(some 36), .mv (.tmp 7), none, []⟩,
    ⟨(some 37), .bin .sub (.tmp 36) (.const (.int .i64 1)), none, []⟩,
    ⟨(some 38), .mv (.tmp 0), none, []⟩,
    ⟨(some 39), .mv (.tmp 7), none, []⟩,
    ⟨(some 40), .bin .sub (.tmp 39) (.const (.int .i64 1)), none, []⟩,
    ⟨(some 41), .ia (.tmp 38) (.tmp 40) 1, none, [0, 1, 2, 3, 4]⟩,
    ⟨(some 42), .ld (.tmp 41) 1 false, none, [0, 1, 2, 3, 4]⟩,
    ⟨(some 43), .mv (.tmp 0), none, []⟩,
    ⟨(some 44), .mv (.tmp 7), none, []⟩,
    ⟨(some 45), .ia (.tmp 43) (.tmp 44) 1, none, [0, 1, 2, 3, 4, 5, 6, 7, 8, 9]⟩,
    ⟨(some 46), .ld (.tmp 45) 1 false, none, [0, 1, 2, 3, 4, 5, 6, 7, 8, 9]⟩,
    ⟨(some 47), .ia (.tmp 33) (.tmp 34) 1, none, [2, 3, 4]⟩,
    ⟨none, .sto (.tmp 47) (.tmp 42) 1, none, []⟩,
    ⟨(some 48), .ia (.tmp 35) (.tmp 37) 1, none, []⟩,
    ⟨none, .sto (.tmp 48) (.tmp 46) 1, none, []⟩] [0, 1, 2, 6, 7]
def m_slices_insertionSortOrdered_int_10 : Unit → MCode := fun _ => .block 3 m_slices_insertionSortOrdered_int_9
def m_slices_insertionSortOrdered_int_11 : Unit → MCode := fun _ => .region [] [⟨(some 31), .mv (.tmp 7), none, []⟩,
    ⟨(some 32), .bin .sub (.tmp 31) (.const (.int .i64 1)), none, []⟩,
    ⟨(some 7), .mv (.tmp 32), none, []⟩] [0, 1, 2, 6, 7]
def m_slices_insertionSortOrdered_int_12 : Unit → MCode := fun _ => .seq m_slices_insertionSortOrdered_int_10 m_slices_insertionSortOrdered_int_11
def m_slices_insertionSortOrdered_int_13 : Unit → MCode := fun _ => .seq m_slices_insertionSortOrdered_int_8 m_slices_insertionSortOrdered_int_12
def m_slices_insertionSortOrdered_int_14 : Unit → MCode := fun _ => .loop m_slices_insertionSortOrdered_int_13
def m_slices_insertionSortOrdered_int_15 : Unit → MCode := fun _ => .block 2 m_slices_insertionSortOrdered_int_14
def m_slices_insertionSortOrdered_int_16 : Unit → MCode := fun _ => .seq m_slices_insertionSortOrdered_int_5 m_slices_insertionSortOrdered_int_15
def m_slices_insertionSortOrdered_int_17 : Unit → MCode := fun _ => .block 1 m_slices_insertionSortOrdered_int_16
def m_slices_insertionSortOrdered_int_18 : Unit → MCode := fun _ => .region [] [⟨(some 13), .mv (.tmp 6), none, []⟩,
    ⟨(some 14), .bin .add (.tmp 13) (.const (.int .i64 1)), none, []⟩,
    ⟨(some 6), .mv (.tmp 14), none, []⟩] [0, 1, 2, 6]
def m_slices_insertionSortOrdered_int_19 : Unit → MCode := fun _ => .seq m_slices_insertionSortOrdered_int_17 m_slices_insertionSortOrdered_int_18
def m_slices_insertionSortOrdered_int_20 : Unit → MCode := fun _ => .seq m_slices_insertionSortOrdered_int_4 m_slices_insertionSortOrdered_int_19
def m_slices_insertionSortOrdered_int_21 : Unit → MCode := fun _ => .loop m_slices_insertionSortOrdered_int_20
def m_slices_insertionSortOrdered_int_22 : Unit → MCode := fun _ => .block 0 m_slices_insertionSortOrdered_int_21
def m_slices_insertionSortOrdered_int_23 : Unit → MCode := fun _ => .seq m_slices_insertionSortOrdered_int_1 m_slices_insertionSortOrdered_int_22
def m_slices_insertionSortOrdered_int : MCode := m_slices_insertionSortOrdered_int_23 ()
def h_slices_insertionSortOrdered_int : Hints := [(0, [0, 1, 2, 6], [], [], []), (1, [0, 1, 2, 6, 12], [], [], []), (3, [0, 1, 2, 6, 7], [], [], []), (4, [0, 1, 2, 6, 7, 30], [[], [], [], [], [], [], [], [], [], [], [], [4, 5, 6, 7], [4, 5, 6, 7]], [], []), (6, [0, 1, 2, 6, 7], [[], [], [], [], [], [], [], [], [0, 1, 2, 3, 4], [0, 1, 2, 3, 4], [], [], [0, 1, 2, 3, 4, 5, 6, 7, 8, 9], [0, 1, 2, 3, 4, 5, 6, 7, 8, 9], [2, 3, 4]], [], [2, 3, 4]), (5, [0, 1, 2, 6, 7], [], [], []), (2, [0, 1, 2, 6], [], [], [])]
def r_slices_insertionSortOrdered_int : List RV := []
abbrev n_slices_insertionSortOrdered_int : Nat := 145
theorem k_slices_insertionSortOrdered_int : Known Pr mu n_slices_insertionSortOrdered_int m_slices_insertionSortOrdered_int r_slices_insertionSortOrdered_int Go.Proofs.Try.f145.ntmps := .of h_slices_insertionSortOrdered_int hm Go.Proofs.Try.func145 (by kernel_rfl) (by kernel_rfl) (by kernel_rfl) (by kernel_rfl)
def m_cmp_Less_int_1 : Unit → MCode := fun _ => .region [] [⟨(some 4), .mv (.const (.bool false)), none, []⟩] [0, 1]
def m_cmp_Less_int_2 : Unit → MCode := fun _ => .region [] [⟨(some 5), .mv (.tmp 0), none, []⟩,
    ⟨(some 6), .call 161 [(.tmp 5)], none, []⟩,
    ⟨(some 7), .mv (.tmp 6), none, []⟩,
    ⟨(some 8), .mv (.tmp 1), (some (7, true)), []⟩,
    ⟨(some 9), .call 161 [(.tmp 8)], (some (7, true)), []⟩,
    ⟨(some 10), .not (.tmp 9), (some (7, true)), []⟩,
    ⟨(some 11), .pick (.tmp 7) (.tmp 10) (.const (.bool false)), none, []⟩,
    ⟨(some 12), .mv (.tmp 11), none, []⟩,
    ⟨(some 13), .mv (.tmp 0), (some (12, false)), []⟩,
    ⟨(some 14), .mv (.tmp 1), (some (12, false)), []⟩,
    ⟨(some 15), .bin .lss (.tmp 13) (.tmp 14), (some (12, false)), []⟩,
    ⟨(some 16), .pick (.tmp 12) (.const (.bool true)) (.tmp 15), none, []⟩,
    ⟨(some 4), .mv (.tmp 16), none, []⟩] [4]
def m_cmp_Less_int_3 : Unit → MCode := fun _ => .seq m_cmp_Less_int_2 (fun _ => .ret)
def m_cmp_Less_int_4 : Unit → MCode := fun _ => .seq m_cmp_Less_int_1 m_cmp_Less_int_3
def m_cmp_Less_int : MCode := m_cmp_Less_int_4 ()
def h_cmp_Less_int : Hints := [(0, [0, 1], [], [], []), (1, [4], [], [], [])]
def r_cmp_Less_int : List RV := [.t 4]
abbrev n_cmp_Less_int : Nat := 151
theorem k_cmp_Less_int : Known Pr mu n_cmp_Less_int m_cmp_Less_int r_cmp_Less_int Go.Proofs.Try.f151.ntmps := .of h_cmp_Less_int hm Go.Proofs.Try.func151 (by kernel_rfl) (by kernel_rfl) (by kernel_rfl) (by kernel_rfl)
def m_math_bits_Len64_1 : Unit → MCode := fun _ => .region [] [⟨(some 2), .mv (.const (.int .i64 0)), none, []⟩] [0, 2]
def m_math_bits_Len64_2 : Unit → MCode := fun _ => .region [] [⟨(some 3), .mv (.tmp 0), none, []⟩,
    ⟨(some 4), .bin .geq (.tmp 3) (.const (.int .u64 4294967296)), none, []⟩] [0, 2, 4]
def m_math_bits_Len64_3 : Unit → MCode := fun _ => .region [] [⟨(some 5), .mv (.tmp 0), none, []⟩,
    ⟨(some 6), .bin .shr (.tmp 5) (.const (.int .u64 32)), none, []⟩,
    ⟨(some 0), .mv (.tmp 6), none, []⟩] [0]
def m_math_bits_Len64_4 : Unit → MCode := fun _ => .region [] [⟨(some 2), .mv (.const (.int .i64 32)), none, []⟩] [0, 2]
def m_math_bits_Len64_5 : Unit → MCode := fun _ => .seq m_math_bits_Len64_3 m_math_bits_Len64_4
def m_math_bits_Len64_6 : Unit → MCode := fun _ => .cond (.tmp 4) m_math_bits_Len64_5 (fun _ => .skip)
def m_math_bits_Len64_7 : Unit → MCode := fun _ => .seq m_math_bits_Len64_2 m_math_bits_Len64_6
def m_math_bits_Len64_8 : Unit → MCode := fun _ => .region [] [⟨(some 7), .mv (.tmp 0), none, []⟩,
    ⟨(some 8), .bin .geq (.tmp 7) (.const (.int .u64 65536)), none, []⟩] [0, 2, 8]
def m_math_bits_Len64_9 : Unit → MCode := fun _ => .region [] [⟨(some 9), .mv (.tmp 0), none, []⟩,
    ⟨(some 10), .bin .shr (.tmp 9) (.const (.int .u64 16)), none, []⟩,
    ⟨(some 0), .mv (.tmp 10), none, []⟩] [0, 2]
def m_math_bits_Len64_10 : Unit → MCode := fun _ => .region [] [⟨(some 11), .mv (.tmp 2), none, []⟩,
    ⟨(some 12), .bin .add (.tmp 11) (.const (.int .i64 16)), none, []⟩,
    ⟨(some 2), .mv (.tmp 12), none, []⟩] [0, 2]
def m_math_bits_Len64_11 : Unit → MCode := fun _ => .seq m_math_bits_Len64_9 m_math_bits_Len64_10
def m_math_bits_Len64_12 : Unit → MCode := fun _ => .cond (.tmp 8) m_math_bits_Len64_11 (fun _ => .skip)
def m_math_bits_Len64_13 : Unit → MCode := fun _ => .seq m_math_bits_Len64_8 m_math_bits_Len64_12
def m_math_bits_Len64_14 : Unit → MCode := fun _ => .region [] [⟨(some 13), .mv (.tmp 0), none, []⟩,
    ⟨(some 14), .bin .geq (.tmp 13) (.const (.int .u64 256)), none, []⟩] [0, 2, 14]
def m_math_bits_Len64_15 : Unit → MCode := fun _ => .region [] [⟨(some 15), .mv (.tmp 0), none, []⟩,
    ⟨(some 16), .bin .shr (.tmp 15) (.const (.int .u64 8)), none, []⟩,
    ⟨(some 0), .mv (.tmp 16), none, []⟩] [0, 2]
def m_math_bits_Len64_16 : Unit → MCode := fun _ => .region [] [⟨(some 17), .mv (.tmp 2), none, []⟩,
    ⟨(some 18), .bin .add (.tmp 17) (.const (.int .i64 8)), none, []⟩,
    ⟨(some 2), .mv (.tmp 18), none, []⟩] [0, 2]
def m_math_bits_Len64_17 : Unit → MCode := fun _ => .seq m_math_bits_Len64_15 m_math_bits_Len64_16
def m_math_bits_Len64_18 : Unit → MCode := fun _ => .cond (.tmp 14) m_math_bits_Len64_17 (fun _ => .skip)
def m_math_bits_Len64_19 : Unit → MCode := fun _ => .seq m_math_bits_Len64_14 m_math_bits_Len64_18
def m_math_bits_Len64_20 : Unit → MCode := fun _ => .region [] [⟨(some 19), .mv (.tmp 2), none, []⟩,
    ⟨(some 20), .mv (.tmp 0), none, []⟩,
    ⟨(some 21), .conv .u8 (.tmp 20), none, []⟩,
    ⟨(some 22), .sidx (.const (.string ⟨#[0, 1, 2, 2, 3, 3, 3, 3, 4, 4, 4, 4, 4, 4, 4, 4, 5, 5, 5, 5, 5, 5, 5, 5, 5, 5, 5, 5, 5, 5, 5, 5, 6, 6, 6, 6, 6, 6, 6, 6, 6, 6, 6, 6, 6, 6, 6, 6, 6, 6, 6, 6, 6, 6, 6, 6, 6, 6, 6, 6, 6, 6, 6, 6, 7, 7, 7, 7, 7, 7, 7, 7, 7, 7, 7, 7, 7, 7, 7, 7, 7, 7, 7, 7, 7, 7, 7, 7, 7, 7, 7, 7, 7, 7, 7, 7, 7, 7, 7, 7, 7, 7, 7, 7, 7, 7, 7, 7, 7, 7, 7, 7, 7, 7, 7, 7, 7, 7, 7, 7, 7, 7, 7, 7, 7, 7, 7, 7, 8, 8, 8, 8, 8, 8, 8, 8, 8, 8, 8, 8, 8, 8, 8, 8, 8, 8, 8, 8, 8, 8, 8, 8, 8, 8, 8, 8, 8, 8, 8, 8, 8, 8, 8, 8, 8, 8, 8, 8, 8, 8, 8, 8, 8, 8, 8, 8, 8, 8, 8, 8, 8, 8, 8, 8, 8, 8, 8, 8, 8, 8, 8, 8, 8, 8, 8, 8, 8, 8, 8, 8, 8, 8, 8, 8, 8, 8, 8, 8, 8, 8, 8, 8, 8, 8, 8, 8, 8, 8, 8, 8, 8, 8, 8, 8, 8, 8, 8, 8, 8, 8, 8, 8, 8, 8, 8, 8, 8, 8, 8, 8, 8, 8, 8, 8, 8, 8, 8, 8, 8, 8, 8, 8, 8, 8, 8, 8]⟩)) (.tmp 21), none, []⟩,
    ⟨(some 23), .conv .i64 (.tmp 22), none, []⟩,
    ⟨(some 24), .bin .add (.tmp 19) (.tmp 23), none, []⟩,
    ⟨(some 2), .mv (.tmp 24), none, []⟩] [2]
def m_math_bits_Len64_21 : Unit → MCode := fun _ => .seq m_math_bits_Len64_20 (fun _ => .ret)
def m_math_bits_Len64_22 : Unit → MCode := fun _ => .seq m_math_bits_Len64_19 m_math_bits_Len64_21
def m_math_bits_Len64_23 : Unit → MCode := fun _ => .seq m_math_bits_Len64_13 m_math_bits_Len64_22
def m_math_bits_Len64_24 : Unit → MCode := fun _ => .seq m_math_bits_Len64_7 m_math_bits_Len64_23
def m_math_bits_Len64_25 : Unit → MCode := fun _ => .seq m_math_bits_Len64_1 m_math_bits_Len64_24
def m_math_bits_Len64 : MCode := m_math_bits_Len64_25 ()
def h_math_bits_Len64 : Hints := [(0, [0, 2], [], [], []), (1, [0, 2, 4], [], [], []), (2, [0], [], [], []), (3, [0, 2], [], [], []), (4, [0, 2, 8], [], [], []), (5, [0, 2], [], [], []), (6, [0, 2], [], [], []), (7, [0, 2, 14], [], [], []), (8, [0, 2], [], [], []), (9, [0, 2], [], [], []), (10, [2], [], [], [])]
def r_math_bits_Len64 : List RV := [.t 2]
abbrev n_math_bits_Len64 : Nat := 155
theorem k_math_bits_Len64 : Known Pr mu n_math_bits_Len64 m_math_bits_Len64 r_math_bits_Len64 Go.Proofs.Try.f155.ntmps := .of h_math_bits_Len64 hm Go.Proofs.Try.func155 (by kernel_rfl) (by kernel_rfl) (by kernel_rfl) (by kernel_rfl)
def m_cmp_isNaN_int_1 : Unit → MCode := fun _ => .region [] [⟨(some 2), .mv (.const (.bool false)), none, []⟩] [0]
def m_cmp_isNaN_int_2 : Unit → MCode := fun _ => .region [] [⟨(some 3), .mv (.tmp 0), none, []⟩,
    ⟨(some 4), .mv (.tmp 0), none, []⟩,
    ⟨(some 5), .bin .neq (.tmp 3) (.tmp 4), none, []⟩,
    ⟨(some 2), .mv (.tmp 5), none, []⟩] [2]
def m_cmp_isNaN_int_3 : Unit → MCode := fun _ => .seq m_cmp_isNaN_int_2 (fun _ => .ret)
def m_cmp_isNaN_int_4 : Unit → MCode := fun _ => .seq m_cmp_isNaN_int_1 m_cmp_isNaN_int_3
def m_cmp_isNaN_int : MCode := m_cmp_isNaN_int_4 ()
def h_cmp_isNaN_int : Hints := [(0, [0], [], [], []), (1, [2], [], [], [])]
def r_cmp_isNaN_int : List RV := [.t 2]
abbrev n_cmp_isNaN_int : Nat := 161
theorem k_cmp_isNaN_int : Known Pr mu n_cmp_isNaN_int m_cmp_isNaN_int r_cmp_isNaN_int Go.Proofs.Try.f161.ntmps := .of h_cmp_isNaN_int hm Go.Proofs.Try.func161 (by kernel_rfl) (by kernel_rfl) (by kernel_rfl) (by kernel_rfl)
end Go.V.T
