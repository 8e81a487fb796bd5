/- The short code of the functions that FnExactProposeConfig reaches, held against the program. Conditions: none. -/
import Derived.Test.YtfbheccgpfddjaaV5
import Derived.Test.YtfbheccgpfddjaaProg
namespace Go.V.T
open Go Go.V
noncomputable abbrev Pr := Go.Proofs.Try.prog
def mu : Nat → Bool := fun n => Nat.beq n 21 || Nat.beq n 22 || Nat.beq n 34 || Nat.beq n 41 || Nat.beq n 90 || Nat.beq n 123 || Nat.beq n 124 || Nat.beq n 129 || Nat.beq n 131 || Nat.beq n 134 || Nat.beq n 135 || Nat.beq n 136 || Nat.beq n 138 || Nat.beq n 139 || Nat.beq n 141 || Nat.beq n 142 || Nat.beq n 145
theorem hm : Pr.follows .mixedOrders = true := by kernel_rfl
def m_laws_FnExactProposeConfig_1 : Unit → MCode := fun _ => .region [] [⟨(some 2), .box (.tmp 0), none, []⟩,
    ⟨(some 3), .box (.tmp 1), none, []⟩,
    ⟨(some 4), .mv (.const (.bool false)), none, []⟩] [2, 3]
def m_laws_FnExactProposeConfig_2 : Unit → MCode := fun _ => .region [] [⟨(some 5), .mv (.const (.int .i64 1048576)), none, []⟩] [2, 3, 5]
def m_laws_FnExactProposeConfig_3 : Unit → MCode := fun _ => .region [] [⟨(some 17), .ld (.tmp 2) 2 true, none, []⟩,
    ⟨(some 18), .mv (.tmp 5), none, []⟩,
    ⟨(some 19), .call 36 [(.tmp 17), (.tmp 18)], none, []⟩,
    ⟨(some 5), .mv (.tmp 19), none, []⟩] [2, 3, 5]
def m_laws_FnExactProposeConfig_4 : Unit → MCode := fun _ => .region [] [⟨(some 20), .mv (.tmp 5), none, []⟩,
    ⟨(some 21), .bin .lss (.tmp 20) (.const (.int .i64 0)), none, []⟩] [2, 3, 5, 21]
def m_laws_FnExactProposeConfig_5 : Unit → MCode := fun _ => .region [] [⟨(some 4), .mv (.const (.bool true)), none, []⟩] [4]
def m_laws_FnExactProposeConfig_6 : Unit → MCode := fun _ => .seq m_laws_FnExactProposeConfig_5 (fun _ => .ret)
def m_laws_FnExactProposeConfig_7 : Unit → MCode := fun _ => .cond (.tmp 21) m_laws_FnExactProposeConfig_6 (fun _ => .skip)
def m_laws_FnExactProposeConfig_8 : Unit → MCode := fun _ => .seq m_laws_FnExactProposeConfig_4 m_laws_FnExactProposeConfig_7
def m_laws_FnExactProposeConfig_9 : Unit → MCode := fun _ => .region [] [⟨(some 22), .ld (.tmp 3) 4 true, none, []⟩,
    ⟨(some 23), .mv (.tmp 5), none, []⟩,
    ⟨(some 24), .call 15 [(.tmp 22), (.tmp 23)], none, []⟩,
    ⟨(some 5), .mv (.tmp 24), none, []⟩] [2, 3, 5]
def m_laws_FnExactProposeConfig_10 : Unit → MCode := fun _ => .region [] [⟨(some 25), .mv (.tmp 5), none, []⟩,
    ⟨(some 26), .bin .lss (.tmp 25) (.const (.int .i64 0)), none, []⟩] [2, 3, 26]
def m_laws_FnExactProposeConfig_11 : Unit → MCode := fun _ => .region [] [⟨(some 4), .mv (.const (.bool true)), none, []⟩] [4]
def m_laws_FnExactProposeConfig_12 : Unit → MCode := fun _ => .seq m_laws_FnExactProposeConfig_11 (fun _ => .ret)
def m_laws_FnExactProposeConfig_13 : Unit → MCode := fun _ => .cond (.tmp 26) m_laws_FnExactProposeConfig_12 (fun _ => .skip)
def m_laws_FnExactProposeConfig_14 : Unit → MCode := fun _ => .seq m_laws_FnExactProposeConfig_10 m_laws_FnExactProposeConfig_13
def m_laws_FnExactProposeConfig_15 : Unit → MCode := fun _ => .region [] [⟨(some 28), .ld (.tmp 2) 2 true, none, []⟩,
    ⟨(some 29), .call 38 [(.tmp 28)], none, []⟩,
    ⟨(some 30), .ld (.tmp 3) 4 true, none, [0, 1]⟩,
    ⟨(some 31), .call 17 [(.tmp 30)], none, []⟩,
    ⟨(some 32), .call 68 [(.tmp 29), (.tmp 31)], none, []⟩,
    ⟨(some 27), .mv (.tmp 32), none, []⟩,
    ⟨(some 33), .ext (.tmp 27) 0, none, []⟩,
    ⟨(some 34), .ext (.tmp 27) 1, none, []⟩,
    ⟨(some 6), .alloc [.slice none 0 0, .int .i64 0], none, []⟩,
    ⟨none, .sto (.tmp 6) (.tmp 33) 2, none, []⟩,
    ⟨(some 7), .mv (.tmp 34), none, []⟩] [2, 3, 6, 7]
def m_laws_FnExactProposeConfig_16 : Unit → MCode := fun _ => .region [] [⟨(some 35), .ld (.tmp 2) 2 true, none, []⟩,
    ⟨(some 36), .call 38 [(.tmp 35)], none, []⟩,
    ⟨(some 8), .alloc [.slice none 0 0, .int .i64 0], none, []⟩,
    ⟨none, .sto (.tmp 8) (.tmp 36) 2, none, []⟩] [2, 3, 6, 7, 8]
def m_laws_FnExactProposeConfig_17 : Unit → MCode := fun _ => .region [] [⟨(some 37), .ld (.tmp 3) 4 true, none, []⟩,
    ⟨(some 38), .call 17 [(.tmp 37)], none, []⟩,
    ⟨(some 9), .alloc [.int .i64 0, .int .i64 0, .slice none 0 0, .slice none 0 0], none, []⟩,
    ⟨none, .sto (.tmp 9) (.tmp 38) 4, none, []⟩] [2, 3, 6, 7, 8, 9]
def m_laws_FnExactProposeConfig_18 : Unit → MCode := fun _ => .region [] [⟨(some 40), .ld (.tmp 8) 2 true, none, []⟩,
    ⟨(some 41), .ld (.tmp 9) 4 true, none, []⟩,
    ⟨(some 42), .call 69 [(.tmp 40), (.tmp 41)], none, []⟩,
    ⟨(some 39), .mv (.tmp 42), none, []⟩,
    ⟨(some 43), .ext (.tmp 39) 0, none, []⟩,
    ⟨(some 44), .ext (.tmp 39) 1, none, []⟩,
    ⟨(some 10), .alloc [.slice none 0 0, .int .i64 0], none, []⟩,
    ⟨none, .sto (.tmp 10) (.tmp 43) 2, none, []⟩,
    ⟨(some 11), .mv (.tmp 44), none, []⟩] [2, 3, 6, 7, 8, 9, 10, 11]
def m_laws_FnExactProposeConfig_19 : Unit → MCode := fun _ => .region [] [⟨(some 45), .ld (.tmp 10) 2 true, none, []⟩,
    ⟨(some 46), .ld (.tmp 6) 2 true, none, []⟩,
    ⟨(some 47), .call 40 [(.tmp 45), (.tmp 46)], none, []⟩,
    ⟨(some 48), .not (.tmp 47), none, []⟩,
    ⟨(some 49), .mv (.tmp 48), none, []⟩,
    ⟨(some 50), .mv (.tmp 11), (some (49, false)), []⟩,
    ⟨(some 51), .mv (.tmp 7), (some (49, false)), []⟩,
    ⟨(some 52), .bbin .neq (.tmp 50) (.tmp 51), (some (49, false)), []⟩,
    ⟨(some 53), .pick (.tmp 49) (.const (.bool true)) (.tmp 52), none, []⟩] [2, 3, 6, 7, 8, 9, 10, 11, 53]
def m_laws_FnExactProposeConfig_20 : Unit → MCode := fun _ => .region [] [⟨(some 4), .mv (.const (.bool false)), none, []⟩] [4]
def m_laws_FnExactProposeConfig_21 : Unit → MCode := fun _ => .seq m_laws_FnExactProposeConfig_20 (fun _ => .ret)
def m_laws_FnExactProposeConfig_22 : Unit → MCode := fun _ => .cond (.tmp 53) m_laws_FnExactProposeConfig_21 (fun _ => .skip)
def m_laws_FnExactProposeConfig_23 : Unit → MCode := fun _ => .seq m_laws_FnExactProposeConfig_19 m_laws_FnExactProposeConfig_22
def m_laws_FnExactProposeConfig_24 : Unit → MCode := fun _ => .region [] [⟨(some 54), .ld (.tmp 8) 2 true, none, []⟩,
    ⟨(some 55), .ld (.tmp 2) 2 true, none, [0]⟩,
    ⟨(some 56), .call 38 [(.tmp 55)], none, [0]⟩,
    ⟨(some 57), .call 40 [(.tmp 54), (.tmp 56)], none, []⟩,
    ⟨(some 58), .not (.tmp 57), none, []⟩] [2, 3, 6, 7, 8, 9, 10, 11, 58]
def m_laws_FnExactProposeConfig_25 : Unit → MCode := fun _ => .region [] [⟨(some 4), .mv (.const (.bool false)), none, []⟩] [4]
def m_laws_FnExactProposeConfig_26 : Unit → MCode := fun _ => .seq m_laws_FnExactProposeConfig_25 (fun _ => .ret)
def m_laws_FnExactProposeConfig_27 : Unit → MCode := fun _ => .cond (.tmp 58) m_laws_FnExactProposeConfig_26 (fun _ => .skip)
def m_laws_FnExactProposeConfig_28 : Unit → MCode := fun _ => .seq m_laws_FnExactProposeConfig_24 m_laws_FnExactProposeConfig_27
def m_laws_FnExactProposeConfig_29 : Unit → MCode := fun _ => .region [] [⟨(some 59), .ld (.tmp 9) 4 true, none, []⟩,
    ⟨(some 60), .ld (.tmp 3) 4 true, none, [0]⟩,
    ⟨(some 61), .call 17 [(.tmp 60)], none, [0]⟩,
    ⟨(some 62), .call 20 [(.tmp 59), (.tmp 61)], none, []⟩,
    ⟨(some 63), .not (.tmp 62), none, []⟩] [2, 3, 6, 7, 8, 9, 10, 11, 63]
def m_laws_FnExactProposeConfig_30 : Unit → MCode := fun _ => .region [] [⟨(some 4), .mv (.const (.bool false)), none, []⟩] [4]
def m_laws_FnExactProposeConfig_31 : Unit → MCode := fun _ => .seq m_laws_FnExactProposeConfig_30 (fun _ => .ret)
def m_laws_FnExactProposeConfig_32 : Unit → MCode := fun _ => .cond (.tmp 63) m_laws_FnExactProposeConfig_31 (fun _ => .skip)
def m_laws_FnExactProposeConfig_33 : Unit → MCode := fun _ => .seq m_laws_FnExactProposeConfig_29 m_laws_FnExactProposeConfig_32
def m_laws_FnExactProposeConfig_34 : Unit → MCode := fun _ => .region [] [⟨(some 12), .mv (.const (.int .i64 1)), none, []⟩] [2, 3, 6, 7, 8, 9, 10, 11, 12]
def m_laws_FnExactProposeConfig_35 : Unit → MCode := fun _ => .region [] [⟨(some 64), .ld (.tmp 8) 2 true, none, []⟩,
    ⟨(some 65), .mv (.tmp 12), none, []⟩,
    ⟨(some 66), .callm 41 [(.tmp 64), (.tmp 65)], none, []⟩,
    ⟨(some 12), .mv (.tmp 66), none, []⟩] [2, 3, 6, 7, 9, 10, 11, 12]
def m_laws_FnExactProposeConfig_36 : Unit → MCode := fun _ => .region [] [⟨(some 67), .ld (.tmp 9) 4 true, none, []⟩,
    ⟨(some 68), .mv (.tmp 12), none, []⟩,
    ⟨(some 69), .callm 21 [(.tmp 67), (.tmp 68)], none, []⟩,
    ⟨(some 12), .mv (.tmp 69), none, []⟩] [2, 3, 6, 7, 10, 11, 12]
def m_laws_FnExactProposeConfig_37 : Unit → MCode := fun _ => .region [] [⟨(some 70), .mv (.tmp 12), none, []⟩,
    ⟨(some 71), .bin .lss (.tmp 70) (.const (.int .i64 0)), none, []⟩,
    ⟨(some 72), .mv (.tmp 71), none, []⟩,
    ⟨(some 73), .ld (.tmp 10) 2 true, (some (72, false)), []⟩,
    ⟨(some 74), .ld (.tmp 6) 2 true, (some (72, false)), []⟩,
    ⟨(some 75), .call 40 [(.tmp 73), (.tmp 74)], (some (72, false)), []⟩,
    ⟨(some 76), .not (.tmp 75), (some (72, false)), []⟩,
    ⟨(some 77), .pick (.tmp 72) (.const (.bool true)) (.tmp 76), none, []⟩,
    ⟨(some 78), .mv (.tmp 77), none, []⟩,
    ⟨(some 79), .mv (.tmp 11), (some (78, false)), []⟩,
    ⟨(some 80), .mv (.tmp 7), (some (78, false)), []⟩,
    ⟨(some 81), .bbin .neq (.tmp 79) (.tmp 80), (some (78, false)), []⟩,
    ⟨(some 82), .pick (.tmp 78) (.const (.bool true)) (.tmp 81), none, []⟩] [2, 3, 6, 7, 10, 82]
def m_laws_FnExactProposeConfig_38 : Unit → MCode := fun _ => .region [] [⟨(some 4), .mv (.const (.bool false)), none, []⟩] [4]
def m_laws_FnExactProposeConfig_39 : Unit → MCode := fun _ => .seq m_laws_FnExactProposeConfig_38 (fun _ => .ret)
def m_laws_FnExactProposeConfig_40 : Unit → MCode := fun _ => .cond (.tmp 82) m_laws_FnExactProposeConfig_39 (fun _ => .skip)
def m_laws_FnExactProposeConfig_41 : Unit → MCode := fun _ => .seq m_laws_FnExactProposeConfig_37 m_laws_FnExactProposeConfig_40
def m_laws_FnExactProposeConfig_42 : Unit → MCode := fun _ => .region [] [⟨(some 13), .mv (.const (.int .i64 1)), none, []⟩] [2, 3, 6, 7, 10, 13]
def m_laws_FnExactProposeConfig_43 : Unit → MCode := fun _ => .region [] [⟨(some 83), .ld (.tmp 10) 2 true, none, []⟩,
    ⟨(some 84), .mv (.tmp 13), none, []⟩,
    ⟨(some 85), .callm 41 [(.tmp 83), (.tmp 84)], none, []⟩,
    ⟨(some 13), .mv (.tmp 85), none, []⟩] [2, 3, 6, 7, 10, 13]
def m_laws_FnExactProposeConfig_44 : Unit → MCode := fun _ => .region [] [⟨(some 14), .mv (.const (.int .i64 1)), none, []⟩] [2, 3, 6, 7, 10, 13, 14]
def m_laws_FnExactProposeConfig_45 : Unit → MCode := fun _ => .region [] [⟨(some 86), .ld (.tmp 10) 2 true, none, []⟩,
    ⟨(some 87), .mv (.tmp 14), none, []⟩,
    ⟨(some 88), .call 67 [(.tmp 86), (.tmp 87)], none, []⟩,
    ⟨(some 14), .mv (.tmp 88), none, []⟩] [2, 3, 6, 7, 10, 13, 14]
def m_laws_FnExactProposeConfig_46 : Unit → MCode := fun _ => .region [] [⟨(some 89), .mv (.tmp 14), none, []⟩,
    ⟨(some 90), .bin .lss (.tmp 89) (.const (.int .i64 0)), none, []⟩] [2, 3, 6, 7, 10, 13, 14, 90]
def m_laws_FnExactProposeConfig_47 : Unit → MCode := fun _ => .region [] [⟨(some 4), .mv (.const (.bool false)), none, []⟩] [4]
def m_laws_FnExactProposeConfig_48 : Unit → MCode := fun _ => .seq m_laws_FnExactProposeConfig_47 (fun _ => .ret)
def m_laws_FnExactProposeConfig_49 : Unit → MCode := fun _ => .cond (.tmp 90) m_laws_FnExactProposeConfig_48 (fun _ => .skip)
def m_laws_FnExactProposeConfig_50 : Unit → MCode := fun _ => .seq m_laws_FnExactProposeConfig_46 m_laws_FnExactProposeConfig_49
def m_laws_FnExactProposeConfig_51 : Unit → MCode := fun _ => .region [] [⟨(some 91), .mv (.tmp 14), none, []⟩,
    ⟨(some 92), .mv (.tmp 13), none, []⟩,
    ⟨(some 93), .bin .neq (.tmp 91) (.tmp 92), none, []⟩] [2, 3, 6, 7, 10, 13, 93]
def m_laws_FnExactProposeConfig_52 : Unit → MCode := fun _ => .region [] [⟨(some 4), .mv (.const (.bool false)), none, []⟩] [4]
def m_laws_FnExactProposeConfig_53 : Unit → MCode := fun _ => .seq m_laws_FnExactProposeConfig_52 (fun _ => .ret)
def m_laws_FnExactProposeConfig_54 : Unit → MCode := fun _ => .cond (.tmp 93) m_laws_FnExactProposeConfig_53 (fun _ => .skip)
def m_laws_FnExactProposeConfig_55 : Unit → MCode := fun _ => .seq m_laws_FnExactProposeConfig_51 m_laws_FnExactProposeConfig_54
def m_laws_FnExactProposeConfig_56 : Unit → MCode := fun _ => .region [] [⟨(some 95), .ld (.tmp 2) 2 true, none, []⟩,
    ⟨(some 96), .call 38 [(.tmp 95)], none, []⟩,
    ⟨(some 97), .ld (.tmp 3) 4 true, none, [0, 1]⟩,
    ⟨(some 98), .call 17 [(.tmp 97)], none, []⟩,
    ⟨(some 99), .call 69 [(.tmp 96), (.tmp 98)], none, []⟩,
    ⟨(some 94), .mv (.tmp 99), none, []⟩,
    ⟨(some 100), .ext (.tmp 94) 0, none, []⟩,
    ⟨(some 101), .ext (.tmp 94) 1, none, []⟩,
    ⟨(some 15), .alloc [.slice none 0 0, .int .i64 0], none, []⟩,
    ⟨none, .sto (.tmp 15) (.tmp 100) 2, none, []⟩,
    ⟨(some 16), .mv (.tmp 101), none, []⟩] [6, 7, 10, 13, 15, 16]
def m_laws_FnExactProposeConfig_57 : Unit → MCode := fun _ => .region [] [⟨(some 102), .ld (.tmp 15) 2 true, none, []⟩,
    ⟨(some 103), .ld (.tmp 6) 2 true, none, []⟩,
    ⟨(some 104), .call 40 [(.tmp 102), (.tmp 103)], none, []⟩,
    ⟨(some 105), .not (.tmp 104), none, []⟩,
    ⟨(some 106), .mv (.tmp 105), none, []⟩,
    ⟨(some 107), .mv (.tmp 16), (some (106, false)), []⟩,
    ⟨(some 108), .mv (.tmp 7), (some (106, false)), []⟩,
    ⟨(some 109), .bbin .neq (.tmp 107) (.tmp 108), (some (106, false)), []⟩,
    ⟨(some 110), .pick (.tmp 106) (.const (.bool true)) (.tmp 109), none, []⟩] [10, 13, 110]
def m_laws_FnExactProposeConfig_58 : Unit → MCode := fun _ => .region [] [⟨(some 4), .mv (.const (.bool false)), none, []⟩] [4]
def m_laws_FnExactProposeConfig_59 : Unit → MCode := fun _ => .seq m_laws_FnExactProposeConfig_58 (fun _ => .ret)
def m_laws_FnExactProposeConfig_60 : Unit → MCode := fun _ => .cond (.tmp 110) m_laws_FnExactProposeConfig_59 (fun _ => .skip)
def m_laws_FnExactProposeConfig_61 : Unit → MCode := fun _ => .seq m_laws_FnExactProposeConfig_57 m_laws_FnExactProposeConfig_60
def m_laws_FnExactProposeConfig_62 : Unit → MCode := fun _ => .region [] [⟨(some 14), .mv (.const (.int .i64 1)), none, []⟩] [10, 13, 14]
def m_laws_FnExactProposeConfig_63 : Unit → MCode := fun _ => .region [] [⟨(some 111), .ld (.tmp 10) 2 true, none, []⟩,
    ⟨(some 112), .mv (.tmp 14), none, []⟩,
    ⟨(some 113), .call 67 [(.tmp 111), (.tmp 112)], none, []⟩,
    ⟨(some 14), .mv (.tmp 113), none, []⟩] [13, 14]
def m_laws_FnExactProposeConfig_64 : Unit → MCode := fun _ => .region [] [⟨(some 114), .mv (.tmp 14), none, []⟩,
    ⟨(some 115), .bin .lss (.tmp 114) (.const (.int .i64 0)), none, []⟩] [13, 14, 115]
def m_laws_FnExactProposeConfig_65 : Unit → MCode := fun _ => .region [] [⟨(some 4), .mv (.const (.bool false)), none, []⟩] [4]
def m_laws_FnExactProposeConfig_66 : Unit → MCode := fun _ => .seq m_laws_FnExactProposeConfig_65 (fun _ => .ret)
def m_laws_FnExactProposeConfig_67 : Unit → MCode := fun _ => .cond (.tmp 115) m_laws_FnExactProposeConfig_66 (fun _ => .skip)
def m_laws_FnExactProposeConfig_68 : Unit → MCode := fun _ => .seq m_laws_FnExactProposeConfig_64 m_laws_FnExactProposeConfig_67
def m_laws_FnExactProposeConfig_69 : Unit → MCode := fun _ => .region [] [⟨(some 116), .mv (.tmp 14), none, []⟩,
    ⟨(some 117), .mv (.tmp 13), none, []⟩,
    ⟨(some 118), .bin .neq (.tmp 116) (.tmp 117), none, []⟩] [118]
def m_laws_FnExactProposeConfig_70 : Unit → MCode := fun _ => .region [] [⟨(some 4), .mv (.const (.bool false)), none, []⟩] [4]
def m_laws_FnExactProposeConfig_71 : Unit → MCode := fun _ => .seq m_laws_FnExactProposeConfig_70 (fun _ => .ret)
def m_laws_FnExactProposeConfig_72 : Unit → MCode := fun _ => .cond (.tmp 118) m_laws_FnExactProposeConfig_71 (fun _ => .skip)
def m_laws_FnExactProposeConfig_73 : Unit → MCode := fun _ => .seq m_laws_FnExactProposeConfig_69 m_laws_FnExactProposeConfig_72
def m_laws_FnExactProposeConfig_74 : Unit → MCode := fun _ => .region [] [⟨(some 4), .mv (.const (.bool true)), none, []⟩] [4]
def m_laws_FnExactProposeConfig_75 : Unit → MCode := fun _ => .seq m_laws_FnExactProposeConfig_74 (fun _ => .ret)
def m_laws_FnExactProposeConfig_76 : Unit → MCode := fun _ => .seq m_laws_FnExactProposeConfig_73 m_laws_FnExactProposeConfig_75
def m_laws_FnExactProposeConfig_77 : Unit → MCode := fun _ => .seq m_laws_FnExactProposeConfig_68 m_laws_FnExactProposeConfig_76
def m_laws_FnExactProposeConfig_78 : Unit → MCode := fun _ => .seq m_laws_FnExactProposeConfig_63 m_laws_FnExactProposeConfig_77
def m_laws_FnExactProposeConfig_79 : Unit → MCode := fun _ => .seq m_laws_FnExactProposeConfig_62 m_laws_FnExactProposeConfig_78
def m_laws_FnExactProposeConfig_80 : Unit → MCode := fun _ => .seq m_laws_FnExactProposeConfig_61 m_laws_FnExactProposeConfig_79
def m_laws_FnExactProposeConfig_81 : Unit → MCode := fun _ => .seq m_laws_FnExactProposeConfig_56 m_laws_FnExactProposeConfig_80
def m_laws_FnExactProposeConfig_82 : Unit → MCode := fun _ => .seq m_laws_FnExactProposeConfig_55 m_laws_FnExactProposeConfig_81
def m_laws_FnExactProposeConfig_83 : Unit → MCode := fun _ => .seq m_laws_FnExactProposeConfig_50 m_laws_FnExactProposeConfig_82
def m_laws_FnExactProposeConfig_84 : Unit → MCode := fun _ => .seq m_laws_FnExactProposeConfig_45 m_laws_FnExactProposeConfig_83
def m_laws_FnExactProposeConfig_85 : Unit → MCode := fun _ => .seq m_laws_FnExactProposeConfig_44 m_laws_FnExactProposeConfig_84
def m_laws_FnExactProposeConfig_86 : Unit → MCode := fun _ => .seq m_laws_FnExactProposeConfig_43 m_laws_FnExactProposeConfig_85
def m_laws_FnExactProposeConfig_87 : Unit → MCode := fun _ => .seq m_laws_FnExactProposeConfig_42 m_laws_FnExactProposeConfig_86
def m_laws_FnExactProposeConfig_88 : Unit → MCode := fun _ => .seq m_laws_FnExactProposeConfig_41 m_laws_FnExactProposeConfig_87
def m_laws_FnExactProposeConfig_89 : Unit → MCode := fun _ => .seq m_laws_FnExactProposeConfig_36 m_laws_FnExactProposeConfig_88
def m_laws_FnExactProposeConfig_90 : Unit → MCode := fun _ => .seq m_laws_FnExactProposeConfig_35 m_laws_FnExactProposeConfig_89
def m_laws_FnExactProposeConfig_91 : Unit → MCode := fun _ => .seq m_laws_FnExactProposeConfig_34 m_laws_FnExactProposeConfig_90
def m_laws_FnExactProposeConfig_92 : Unit → MCode := fun _ => .seq m_laws_FnExactProposeConfig_33 m_laws_FnExactProposeConfig_91
def m_laws_FnExactProposeConfig_93 : Unit → MCode := fun _ => .seq m_laws_FnExactProposeConfig_28 m_laws_FnExactProposeConfig_92
def m_laws_FnExactProposeConfig_94 : Unit → MCode := fun _ => .seq m_laws_FnExactProposeConfig_23 m_laws_FnExactProposeConfig_93
def m_laws_FnExactProposeConfig_95 : Unit → MCode := fun _ => .seq m_laws_FnExactProposeConfig_18 m_laws_FnExactProposeConfig_94
def m_laws_FnExactProposeConfig_96 : Unit → MCode := fun _ => .seq m_laws_FnExactProposeConfig_17 m_laws_FnExactProposeConfig_95
def m_laws_FnExactProposeConfig_97 : Unit → MCode := fun _ => .seq m_laws_FnExactProposeConfig_16 m_laws_FnExactProposeConfig_96
def m_laws_FnExactProposeConfig_98 : Unit → MCode := fun _ => .seq m_laws_FnExactProposeConfig_15 m_laws_FnExactProposeConfig_97
def m_laws_FnExactProposeConfig_99 : Unit → MCode := fun _ => .seq m_laws_FnExactProposeConfig_14 m_laws_FnExactProposeConfig_98
def m_laws_FnExactProposeConfig_100 : Unit → MCode := fun _ => .seq m_laws_FnExactProposeConfig_9 m_laws_FnExactProposeConfig_99
def m_laws_FnExactProposeConfig_101 : Unit → MCode := fun _ => .seq m_laws_FnExactProposeConfig_8 m_laws_FnExactProposeConfig_100
def m_laws_FnExactProposeConfig_102 : Unit → MCode := fun _ => .seq m_laws_FnExactProposeConfig_3 m_laws_FnExactProposeConfig_101
def m_laws_FnExactProposeConfig_103 : Unit → MCode := fun _ => .seq m_laws_FnExactProposeConfig_2 m_laws_FnExactProposeConfig_102
def m_laws_FnExactProposeConfig_104 : Unit → MCode := fun _ => .seq m_laws_FnExactProposeConfig_1 m_laws_FnExactProposeConfig_103
def m_laws_FnExactProposeConfig : MCode := m_laws_FnExactProposeConfig_104 ()
def h_laws_FnExactProposeConfig : Hints := [(0, [2, 3], [], [], []), (1, [2, 3, 5], [], [], []), (2, [2, 3, 5], [], [], []), (3, [2, 3, 5, 21], [], [], []), (4, [4], [], [], []), (5, [2, 3, 5], [], [], []), (6, [2, 3, 26], [], [], []), (7, [4], [], [], []), (8, [2, 3, 6, 7], [[], [], [0, 1]], [], [7]), (9, [2, 3, 6, 7, 8], [], [], []), (10, [2, 3, 6, 7, 8, 9], [], [], []), (11, [2, 3, 6, 7, 8, 9, 10, 11], [], [], []), (12, [2, 3, 6, 7, 8, 9, 10, 11, 53], [], [], []), (13, [4], [], [], []), (14, [2, 3, 6, 7, 8, 9, 10, 11, 58], [[], [0], [0]], [], []), (15, [4], [], [], []), (16, [2, 3, 6, 7, 8, 9, 10, 11, 63], [[], [0], [0]], [], []), (17, [4], [], [], []), (18, [2, 3, 6, 7, 8, 9, 10, 11, 12], [], [], []), (19, [2, 3, 6, 7, 9, 10, 11, 12], [], [], []), (20, [2, 3, 6, 7, 10, 11, 12], [], [], []), (21, [2, 3, 6, 7, 10, 82], [], [], []), (22, [4], [], [], []), (23, [2, 3, 6, 7, 10, 13], [], [], []), (24, [2, 3, 6, 7, 10, 13], [], [], []), (25, [2, 3, 6, 7, 10, 13, 14], [], [], []), (26, [2, 3, 6, 7, 10, 13, 14], [], [], []), (27, [2, 3, 6, 7, 10, 13, 14, 90], [], [], []), (28, [4], [], [], []), (29, [2, 3, 6, 7, 10, 13, 93], [], [], []), (30, [4], [], [], []), (31, [6, 7, 10, 13, 15, 16], [[], [], [0, 1]], [], [7]), (32, [10, 13, 110], [], [], []), (33, [4], [], [], []), (34, [10, 13, 14], [], [], []), (35, [13, 14], [], [], []), (36, [13, 14, 115], [], [], []), (37, [4], [], [], []), (38, [118], [], [], []), (39, [4], [], [], []), (40, [4], [], [], [])]
def r_laws_FnExactProposeConfig : List RV := [.t 4]
abbrev n_laws_FnExactProposeConfig : Nat := 13
theorem k_laws_FnExactProposeConfig : Known Pr mu n_laws_FnExactProposeConfig m_laws_FnExactProposeConfig r_laws_FnExactProposeConfig Go.Proofs.Try.f13.ntmps := .of h_laws_FnExactProposeConfig hm Go.Proofs.Try.func13 (by kernel_rfl) (by kernel_rfl) (by kernel_rfl) (by kernel_rfl)
def m_laws_szConfig_1 : Unit → MCode := fun _ => .region [] [⟨(some 2), .box (.tmp 0), none, []⟩,
    ⟨(some 4), .mv (.const (.int .i64 0)), none, []⟩] [1, 2]
def m_laws_szConfig_2 : Unit → MCode := fun _ => .region [] [⟨(some 5), .fa (.tmp 2) 2, none, []⟩,
    ⟨(some 6), .ld (.tmp 5) 1 false, none, []⟩,
    ⟨(some 7), .mv (.tmp 1), none, []⟩,
    ⟨(some 8), .call 75 [(.tmp 6), (.tmp 7)], none, []⟩,
    ⟨(some 1), .mv (.tmp 8), none, []⟩] [1, 2]
def m_laws_szConfig_3 : Unit → MCode := fun _ => .region [] [⟨(some 9), .mv (.tmp 1), none, []⟩,
    ⟨(some 10), .bin .lss (.tmp 9) (.const (.int .i64 0)), none, []⟩] [1, 2, 10]
def m_laws_szConfig_4 : Unit → MCode := fun _ => .region [] [⟨(some 4), .mv (.const (.int .i64 (-1))), none, []⟩] [4]
def m_laws_szConfig_5 : Unit → MCode := fun _ => .seq m_laws_szConfig_4 (fun _ => .ret)
def m_laws_szConfig_6 : Unit → MCode := fun _ => .cond (.tmp 10) m_laws_szConfig_5 (fun _ => .skip)
def m_laws_szConfig_7 : Unit → MCode := fun _ => .seq m_laws_szConfig_3 m_laws_szConfig_6
def m_laws_szConfig_8 : Unit → MCode := fun _ => .region [] [⟨(some 11), .fa (.tmp 2) 3, none, []⟩,
    ⟨(some 12), .ld (.tmp 11) 1 false, none, []⟩,
    ⟨(some 13), .mv (.tmp 1), none, []⟩,
    ⟨(some 14), .call 75 [(.tmp 12), (.tmp 13)], none, []⟩,
    ⟨(some 1), .mv (.tmp 14), none, []⟩] [1]
def m_laws_szConfig_9 : Unit → MCode := fun _ => .region [] [⟨(some 15), .mv (.tmp 1), none, []⟩,
    ⟨(some 16), .bin .lss (.tmp 15) (.const (.int .i64 0)), none, []⟩] [1, 16]
def m_laws_szConfig_10 : Unit → MCode := fun _ => .region [] [⟨(some 4), .mv (.const (.int .i64 (-1))), none, []⟩] [4]
def m_laws_szConfig_11 : Unit → MCode := fun _ => .seq m_laws_szConfig_10 (fun _ => .ret)
def m_laws_szConfig_12 : Unit → MCode := fun _ => .cond (.tmp 16) m_laws_szConfig_11 (fun _ => .skip)
def m_laws_szConfig_13 : Unit → MCode := fun _ => .seq m_laws_szConfig_9 m_laws_szConfig_12
def m_laws_szConfig_14 : Unit → MCode := fun _ => .region [] [⟨(some 17), .mv (.tmp 1), none, []⟩,
    ⟨(some 4), .mv (.tmp 17), none, []⟩] [4]
def m_laws_szConfig_15 : Unit → MCode := fun _ => .seq m_laws_szConfig_14 (fun _ => .ret)
def m_laws_szConfig_16 : Unit → MCode := fun _ => .seq m_laws_szConfig_13 m_laws_szConfig_15
def m_laws_szConfig_17 : Unit → MCode := fun _ => .seq m_laws_szConfig_8 m_laws_szConfig_16
def m_laws_szConfig_18 : Unit → MCode := fun _ => .seq m_laws_szConfig_7 m_laws_szConfig_17
def m_laws_szConfig_19 : Unit → MCode := fun _ => .seq m_laws_szConfig_2 m_laws_szConfig_18
def m_laws_szConfig_20 : Unit → MCode := fun _ => .seq m_laws_szConfig_1 m_laws_szConfig_19
def m_laws_szConfig : MCode := m_laws_szConfig_20 ()
def h_laws_szConfig : Hints := [(0, [1, 2], [], [], []), (1, [1, 2], [], [], []), (2, [1, 2, 10], [], [], []), (3, [4], [], [], []), (4, [1], [], [], []), (5, [1, 16], [], [], []), (6, [4], [], [], []), (7, [4], [], [], [])]
def r_laws_szConfig : List RV := [.t 4]
abbrev n_laws_szConfig : Nat := 15
theorem k_laws_szConfig : Known Pr mu n_laws_szConfig m_laws_szConfig r_laws_szConfig Go.Proofs.Try.f15.ntmps := .of h_laws_szConfig hm Go.Proofs.Try.func15 (by kernel_rfl) (by kernel_rfl) (by kernel_rfl) (by kernel_rfl)
def m_laws_toConfig_1 : Unit → MCode := fun _ => .region [] [⟨(some 1), .box (.tmp 0), none, []⟩,
    ⟨(some 2), .alloc [.int .i64 0, .int .i64 0, .slice none 0 0, .slice none 0 0], none, []⟩] [1, 2]
def m_laws_toConfig_2 : Unit → MCode := fun _ => .region [] [⟨(some 3), .alloc [.int .i64 0, .int .i64 0, .slice none 0 0, .slice none 0 0], none, []⟩] [1, 2, 3]
def m_laws_toConfig_3 : Unit → MCode := fun _ => .region [] [⟨(some 4), .fa (.tmp 1) 0, none, []⟩,
    ⟨(some 5), .ld (.tmp 4) 1 false, none, []⟩,
    ⟨(some 6), .fa (.tmp 3) 0, none, []⟩,
    ⟨none, .sto (.tmp 6) (.tmp 5) 1, none, []⟩] [1, 2, 3]
def m_laws_toConfig_4 : Unit → MCode := fun _ => .region [] [⟨(some 7), .fa (.tmp 1) 1, none, []⟩,
    ⟨(some 8), .ld (.tmp 7) 1 false, none, []⟩,
    ⟨(some 9), .fa (.tmp 3) 1, none, []⟩,
    ⟨none, .sto (.tmp 9) (.tmp 8) 1, none, []⟩] [1, 2, 3]
def m_laws_toConfig_5 : Unit → MCode := fun _ => .region [] [⟨(some 10), .fa (.tmp 1) 2, none, []⟩,
    ⟨(some 11), .ld (.tmp 10) 1 false, none, []⟩,
    ⟨(some 12), .call 77 [(.tmp 11)], none, []⟩,
    ⟨(some 13), .fa (.tmp 3) 2, none, []⟩,
    ⟨none, .sto (.tmp 13) (.tmp 12) 1, none, []⟩] [1, 2, 3]
def m_laws_toConfig_6 : Unit → MCode := fun _ => .region [] [⟨(some 14), .fa (.tmp 1) 3, none, []⟩,
    ⟨(some 15), .ld (.tmp 14) 1 false, none, []⟩,
    ⟨(some 16), .call 77 [(.tmp 15)], none, []⟩,
    ⟨(some 17), .fa (.tmp 3) 3, none, []⟩,
    ⟨none, .sto (.tmp 17) (.tmp 16) 1, none, []⟩] [2, 3]
def m_laws_toConfig_7 : Unit → MCode := fun _ => .region [] [⟨(some 18), .ld (.tmp 3) 4 true, none, []⟩,
    ⟨none, .sto (.tmp 2) (.tmp 18) 4, none, []⟩] [2]
def m_laws_toConfig_8 : Unit → MCode := fun _ => .seq m_laws_toConfig_7 (fun _ => .ret)
def m_laws_toConfig_9 : Unit → MCode := fun _ => .seq m_laws_toConfig_6 m_laws_toConfig_8
def m_laws_toConfig_10 : Unit → MCode := fun _ => .seq m_laws_toConfig_5 m_laws_toConfig_9
def m_laws_toConfig_11 : Unit → MCode := fun _ => .seq m_laws_toConfig_4 m_laws_toConfig_10
def m_laws_toConfig_12 : Unit → MCode := fun _ => .seq m_laws_toConfig_3 m_laws_toConfig_11
def m_laws_toConfig_13 : Unit → MCode := fun _ => .seq m_laws_toConfig_2 m_laws_toConfig_12
def m_laws_toConfig_14 : Unit → MCode := fun _ => .seq m_laws_toConfig_1 m_laws_toConfig_13
def m_laws_toConfig : MCode := m_laws_toConfig_14 ()
def h_laws_toConfig : Hints := [(0, [1, 2], [], [], []), (1, [1, 2, 3], [], [], []), (2, [1, 2, 3], [], [], []), (3, [1, 2, 3], [], [], []), (4, [1, 2, 3], [], [], []), (5, [2, 3], [], [], []), (6, [2], [], [], [])]
def r_laws_toConfig : List RV := [.c 2 4 true]
abbrev n_laws_toConfig : Nat := 17
theorem k_laws_toConfig : Known Pr mu n_laws_toConfig m_laws_toConfig r_laws_toConfig Go.Proofs.Try.f17.ntmps := .of h_laws_toConfig hm Go.Proofs.Try.func17 (by kernel_rfl) (by kernel_rfl) (by kernel_rfl) (by kernel_rfl)
def m_laws_eqIntS_1 : Unit → MCode := fun _ => .region [] [⟨(some 4), .mv (.const (.bool false)), none, []⟩] [0, 1]
def m_laws_eqIntS_2 : Unit → MCode := fun _ => .region [] [⟨(some 6), .mv (.tmp 0), none, []⟩,
    ⟨(some 7), .len false (.tmp 6), none, []⟩,
    ⟨(some 8), .mv (.tmp 1), none, []⟩,
    ⟨(some 9), .len false (.tmp 8), none, []⟩,
    ⟨(some 10), .bin .neq (.tmp 7) (.tmp 9), none, []⟩] [0, 1, 10]
def m_laws_eqIntS_3 : Unit → MCode := fun _ => .region [] [⟨(some 4), .mv (.const (.bool false)), none, []⟩] [4]
def m_laws_eqIntS_4 : Unit → MCode := fun _ => .seq m_laws_eqIntS_3 (fun _ => .ret)
def m_laws_eqIntS_5 : Unit → MCode := fun _ => .cond (.tmp 10) m_laws_eqIntS_4 (fun _ => .skip)
def m_laws_eqIntS_6 : Unit → MCode := fun _ => .seq m_laws_eqIntS_2 m_laws_eqIntS_5
def m_laws_eqIntS_7 : Unit → MCode := fun _ => .region [] [⟨(some 5), .mv (.const (.int .i64 0)), none, []⟩] [0, 1, 5]
def m_laws_eqIntS_8 : Unit → MCode := fun _ => .region [] [⟨(some 11), .mv (.tmp 5), none, []⟩,
    ⟨(some 12), .mv (.tmp 0), none, []⟩,
    ⟨(some 13), .len false (.tmp 12), none, []⟩,
    ⟨(some 14), .bin .lss (.tmp 11) (.tmp 13), none, []⟩] [0, 1, 5, 14]
def m_laws_eqIntS_9 : Unit → MCode := fun _ => .cond (.tmp 14) (fun _ => .skip) (fun _ => .exit 0)
def m_laws_eqIntS_10 : Unit → MCode := fun _ => .seq m_laws_eqIntS_8 m_laws_eqIntS_9
def m_laws_eqIntS_11 : Unit → MCode := fun _ => .region [] [⟨(some 17), .mv (.tmp 0), none, []⟩,
    ⟨(some 18), .mv (.tmp 5), none, []⟩,
    ⟨(some 19), .ia (.tmp 17) (.tmp 18) 1, none, []⟩,
    ⟨(some 20), .ld (.tmp 19) 1 false, none, []⟩,
    ⟨(some 21), .mv (.tmp 1), none, []⟩,
    ⟨(some 22), .mv (.tmp 5), none, []⟩,
    ⟨(some 23), .ia (.tmp 21) (.tmp 22) 1, none, [0, 1, 2, 3]⟩,
    ⟨(some 24), .ld (.tmp 23) 1 false, none, [0, 1, 2, 3]⟩,
    ⟨(some 25), .bin .neq (.tmp 20) (.tmp 24), none, []⟩] [0, 1, 5, 25]
def m_laws_eqIntS_12 : Unit → MCode := fun _ => .region [] [⟨(some 4), .mv (.const (.bool false)), none, []⟩] [4]
def m_laws_eqIntS_13 : Unit → MCode := fun _ => .seq m_laws_eqIntS_12 (fun _ => .ret)
def m_laws_eqIntS_14 : Unit → MCode := fun _ => .cond (.tmp 25) m_laws_eqIntS_13 (fun _ => .skip)
def m_laws_eqIntS_15 : Unit → MCode := fun _ => .seq m_laws_eqIntS_11 m_laws_eqIntS_14
def m_laws_eqIntS_16 : Unit → MCode := fun _ => .block 1 m_laws_eqIntS_15
def m_laws_eqIntS_17 : Unit → MCode := fun _ => .region [] [⟨(some 15), .mv (.tmp 5), none, []⟩,
    ⟨(some 16), .bin .add (.tmp 15) (.const (.int .i64 1)), none, []⟩,
    ⟨(some 5), .mv (.tmp 16), none, []⟩] [0, 1, 5]
def m_laws_eqIntS_18 : Unit → MCode := fun _ => .seq m_laws_eqIntS_16 m_laws_eqIntS_17
def m_laws_eqIntS_19 : Unit → MCode := fun _ => .seq m_laws_eqIntS_10 m_laws_eqIntS_18
def m_laws_eqIntS_20 : Unit → MCode := fun _ => .loop m_laws_eqIntS_19
def m_laws_eqIntS_21 : Unit → MCode := fun _ => .block 0 m_laws_eqIntS_20
def m_laws_eqIntS_22 : Unit → MCode := fun _ => .seq m_laws_eqIntS_7 m_laws_eqIntS_21
def m_laws_eqIntS_23 : Unit → MCode := fun _ => .region [] [⟨(some 4), .mv (.const (.bool true)), none, []⟩] [4]
def m_laws_eqIntS_24 : Unit → MCode := fun _ => .seq m_laws_eqIntS_23 (fun _ => .ret)
def m_laws_eqIntS_25 : Unit → MCode := fun _ => .seq m_laws_eqIntS_22 m_laws_eqIntS_24
def m_laws_eqIntS_26 : Unit → MCode := fun _ => .seq m_laws_eqIntS_6 m_laws_eqIntS_25
def m_laws_eqIntS_27 : Unit → MCode := fun _ => .seq m_laws_eqIntS_1 m_laws_eqIntS_26
def m_laws_eqIntS : MCode := m_laws_eqIntS_27 ()
def h_laws_eqIntS : Hints := [(0, [0, 1], [], [], []), (1, [0, 1, 10], [], [], []), (2, [4], [], [], []), (3, [0, 1, 5], [], [], []), (4, [0, 1, 5, 14], [], [], []), (6, [0, 1, 5, 25], [[], [], [], [], [], [], [0, 1, 2, 3], [0, 1, 2, 3]], [], []), (7, [4], [], [], []), (5, [0, 1, 5], [], [], []), (8, [4], [], [], [])]
def r_laws_eqIntS : List RV := [.t 4]
abbrev n_laws_eqIntS : Nat := 19
theorem k_laws_eqIntS : Known Pr mu n_laws_eqIntS m_laws_eqIntS r_laws_eqIntS Go.Proofs.Try.f19.ntmps := .of h_laws_eqIntS hm Go.Proofs.Try.func19 (by kernel_rfl) (by kernel_rfl) (by kernel_rfl) (by kernel_rfl)
def m_laws_eqConfig_1 : Unit → MCode := fun _ => .region [] [⟨(some 2), .box (.tmp 0), none, []⟩,
    ⟨(some 3), .box (.tmp 1), none, []⟩,
    ⟨(some 4), .mv (.const (.bool false)), none, []⟩] [2, 3]
def m_laws_eqConfig_2 : Unit → MCode := fun _ => .region [] [⟨(some 5), .fa (.tmp 2) 0, none, []⟩,
    ⟨(some 6), .ld (.tmp 5) 1 false, none, []⟩,
    ⟨(some 7), .fa (.tmp 3) 0, none, []⟩,
    ⟨(some 8), .ld (.tmp 7) 1 false, none, []⟩,
    ⟨(some 9), .bin .neq (.tmp 6) (.tmp 8), none, []⟩] [2, 3, 9]
def m_laws_eqConfig_3 : Unit → MCode := fun _ => .region [] [⟨(some 4), .mv (.const (.bool false)), none, []⟩] [4]
def m_laws_eqConfig_4 : Unit → MCode := fun _ => .seq m_laws_eqConfig_3 (fun _ => .ret)
def m_laws_eqConfig_5 : Unit → MCode := fun _ => .cond (.tmp 9) m_laws_eqConfig_4 (fun _ => .skip)
def m_laws_eqConfig_6 : Unit → MCode := fun _ => .seq m_laws_eqConfig_2 m_laws_eqConfig_5
def m_laws_eqConfig_7 : Unit → MCode := fun _ => .region [] [⟨(some 10), .fa (.tmp 2) 1, none, []⟩,
    ⟨(some 11), .ld (.tmp 10) 1 false, none, []⟩,
    ⟨(some 12), .fa (.tmp 3) 1, none, []⟩,
    ⟨(some 13), .ld (.tmp 12) 1 false, none, []⟩,
    ⟨(some 14), .bin .neq (.tmp 11) (.tmp 13), none, []⟩] [2, 3, 14]
def m_laws_eqConfig_8 : Unit → MCode := fun _ => .region [] [⟨(some 4), .mv (.const (.bool false)), none, []⟩] [4]
def m_laws_eqConfig_9 : Unit → MCode := fun _ => .seq m_laws_eqConfig_8 (fun _ => .ret)
def m_laws_eqConfig_10 : Unit → MCode := fun _ => .cond (.tmp 14) m_laws_eqConfig_9 (fun _ => .skip)
def m_laws_eqConfig_11 : Unit → MCode := fun _ => .seq m_laws_eqConfig_7 m_laws_eqConfig_10
def m_laws_eqConfig_12 : Unit → MCode := fun _ => .region [] [⟨(some 15), .fa (.tmp 2) 2, none, []⟩,
    ⟨(some 16), .ld (.tmp 15) 1 false, none, []⟩,
    ⟨(some 17), .fa (.tmp 3) 2, none, []⟩,
    ⟨(some 18), .ld (.tmp 17) 1 false, none, []⟩,
    ⟨(some 19), .call 19 [(.tmp 16), (.tmp 18)], none, []⟩,
    ⟨(some 20), .not (.tmp 19), none, []⟩] [2, 3, 20]
def m_laws_eqConfig_13 : Unit → MCode := fun _ => .region [] [⟨(some 4), .mv (.const (.bool false)), none, []⟩] [4]
def m_laws_eqConfig_14 : Unit → MCode := fun _ => .seq m_laws_eqConfig_13 (fun _ => .ret)
def m_laws_eqConfig_15 : Unit → MCode := fun _ => .cond (.tmp 20) m_laws_eqConfig_14 (fun _ => .skip)
def m_laws_eqConfig_16 : Unit → MCode := fun _ => .seq m_laws_eqConfig_12 m_laws_eqConfig_15
def m_laws_eqConfig_17 : Unit → MCode := fun _ => .region [] [⟨(some 21), .fa (.tmp 2) 3, none, []⟩,
    ⟨(some 22), .ld (.tmp 21) 1 false, none, []⟩,
    ⟨(some 23), .fa (.tmp 3) 3, none, []⟩,
    ⟨(some 24), .ld (.tmp 23) 1 false, none, []⟩,
    ⟨(some 25), .call 19 [(.tmp 22), (.tmp 24)], none, []⟩,
    ⟨(some 26), .not (.tmp 25), none, []⟩] [26]
def m_laws_eqConfig_18 : Unit → MCode := fun _ => .region [] [⟨(some 4), .mv (.const (.bool false)), none, []⟩] [4]
def m_laws_eqConfig_19 : Unit → MCode := fun _ => .seq m_laws_eqConfig_18 (fun _ => .ret)
def m_laws_eqConfig_20 : Unit → MCode := fun _ => .cond (.tmp 26) m_laws_eqConfig_19 (fun _ => .skip)
def m_laws_eqConfig_21 : Unit → MCode := fun _ => .seq m_laws_eqConfig_17 m_laws_eqConfig_20
def m_laws_eqConfig_22 : Unit → MCode := fun _ => .region [] [⟨(some 4), .mv (.const (.bool true)), none, []⟩] [4]
def m_laws_eqConfig_23 : Unit → MCode := fun _ => .seq m_laws_eqConfig_22 (fun _ => .ret)
def m_laws_eqConfig_24 : Unit → MCode := fun _ => .seq m_laws_eqConfig_21 m_laws_eqConfig_23
def m_laws_eqConfig_25 : Unit → MCode := fun _ => .seq m_laws_eqConfig_16 m_laws_eqConfig_24
def m_laws_eqConfig_26 : Unit → MCode := fun _ => .seq m_laws_eqConfig_11 m_laws_eqConfig_25
def m_laws_eqConfig_27 : Unit → MCode := fun _ => .seq m_laws_eqConfig_6 m_laws_eqConfig_26
def m_laws_eqConfig_28 : Unit → MCode := fun _ => .seq m_laws_eqConfig_1 m_laws_eqConfig_27
def m_laws_eqConfig : MCode := m_laws_eqConfig_28 ()
def h_laws_eqConfig : Hints := [(0, [2, 3], [], [], []), (1, [2, 3, 9], [], [], []), (2, [4], [], [], []), (3, [2, 3, 14], [], [], []), (4, [4], [], [], []), (5, [2, 3, 20], [], [], []), (6, [4], [], [], []), (7, [26], [], [], []), (8, [4], [], [], []), (9, [4], [], [], [])]
def r_laws_eqConfig : List RV := [.t 4]
abbrev n_laws_eqConfig : Nat := 20
theorem k_laws_eqConfig : Known Pr mu n_laws_eqConfig m_laws_eqConfig r_laws_eqConfig Go.Proofs.Try.f20.ntmps := .of h_laws_eqConfig hm Go.Proofs.Try.func20 (by kernel_rfl) (by kernel_rfl) (by kernel_rfl) (by kernel_rfl)
def m_laws_markConfig_1 : Unit → MCode := fun _ => .region [] [⟨(some 2), .box (.tmp 0), none, []⟩,
    ⟨(some 4), .mv (.const (.int .i64 0)), none, []⟩] [1, 2]
def m_laws_markConfig_2 : Unit → MCode := fun _ => .region [] [⟨(some 5), .fa (.tmp 2) 2, none, []⟩,
    ⟨(some 6), .ld (.tmp 5) 1 false, none, []⟩,
    ⟨(some 7), .mv (.tmp 1), none, []⟩,
    ⟨(some 8), .callm 22 [(.tmp 6), (.tmp 7)], none, []⟩,
    ⟨(some 1), .mv (.tmp 8), none, []⟩] [1, 2]
def m_laws_markConfig_3 : Unit → MCode := fun _ => .region [] [⟨(some 9), .fa (.tmp 2) 3, none, []⟩,
    ⟨(some 10), .ld (.tmp 9) 1 false, none, []⟩,
    ⟨(some 11), .mv (.tmp 1), none, []⟩,
    ⟨(some 12), .callm 22 [(.tmp 10), (.tmp 11)], none, []⟩,
    ⟨(some 1), .mv (.tmp 12), none, []⟩] [1]
def m_laws_markConfig_4 : Unit → MCode := fun _ => .region [] [⟨(some 13), .mv (.tmp 1), none, []⟩,
    ⟨(some 4), .mv (.tmp 13), none, []⟩] [4]
def m_laws_markConfig_5 : Unit → MCode := fun _ => .seq m_laws_markConfig_4 (fun _ => .ret)
def m_laws_markConfig_6 : Unit → MCode := fun _ => .seq m_laws_markConfig_3 m_laws_markConfig_5
def m_laws_markConfig_7 : Unit → MCode := fun _ => .seq m_laws_markConfig_2 m_laws_markConfig_6
def m_laws_markConfig_8 : Unit → MCode := fun _ => .seq m_laws_markConfig_1 m_laws_markConfig_7
def m_laws_markConfig : MCode := m_laws_markConfig_8 ()
def h_laws_markConfig : Hints := [(0, [1, 2], [], [], []), (1, [1, 2], [], [], []), (2, [1], [], [], []), (3, [4], [], [], [])]
def r_laws_markConfig : List RV := [.t 4]
abbrev n_laws_markConfig : Nat := 21
theorem k_laws_markConfig : Known Pr mu n_laws_markConfig m_laws_markConfig r_laws_markConfig Go.Proofs.Try.f21.ntmps := .of h_laws_markConfig hm Go.Proofs.Try.func21 (by kernel_rfl) (by kernel_rfl) (by kernel_rfl) (by kernel_rfl)
def m_laws_markIntS_1 : Unit → MCode := fun _ => .region [] [⟨(some 4), .mv (.const (.int .i64 0)), none, []⟩] [0, 1]
def m_laws_markIntS_2 : Unit → MCode := fun _ => .region [] [⟨(some 5), .mv (.const (.int .i64 0)), none, []⟩] [0, 1, 5]
def m_laws_markIntS_3 : Unit → MCode := fun _ => .region [] [⟨(some 6), .mv (.tmp 5), none, []⟩,
    ⟨(some 7), .mv (.tmp 0), none, []⟩,
    ⟨(some 8), .len false (.tmp 7), none, []⟩,
    ⟨(some 9), .bin .lss (.tmp 6) (.tmp 8), none, []⟩] [0, 1, 5, 9]
def m_laws_markIntS_4 : Unit → MCode := fun _ => .cond (.tmp 9) (fun _ => .skip) (fun _ => .exit 0)
def m_laws_markIntS_5 : Unit → MCode := fun _ => .seq m_laws_markIntS_3 m_laws_markIntS_4
def m_laws_markIntS_6 : Unit → MCode := fun _ => .region [] [⟨(some 12), .mv (.tmp 0), none, []⟩,
    ⟨(some 13), .mv (.tmp 5), none, []⟩,
    ⟨(some 14), .mv (.tmp 1), none, []⟩,
    ⟨(some 15), .ia (.tmp 12) (.tmp 13) 1, none, []⟩,
    ⟨none, .sto (.tmp 15) (.tmp 14) 1, none, []⟩] [0, 1, 5]
def m_laws_markIntS_7 : Unit → MCode := fun _ => .region [] [⟨(some 16), .mv (.tmp 1), none, []⟩,
    ⟨(some 17), .bin .add (.tmp 16) (.const (.int .i64 1)), none, []⟩,
    ⟨(some 1), .mv (.tmp 17), none, []⟩] [0, 1, 5]
def m_laws_markIntS_8 : Unit → MCode := fun _ => .seq m_laws_markIntS_6 m_laws_markIntS_7
def m_laws_markIntS_9 : Unit → MCode := fun _ => .block 1 m_laws_markIntS_8
def m_laws_markIntS_10 : Unit → MCode := fun _ => .region [] [⟨(some 10), .mv (.tmp 5), none, []⟩,
    ⟨(some 11), .bin .add (.tmp 10) (.const (.int .i64 1)), none, []⟩,
    ⟨(some 5), .mv (.tmp 11), none, []⟩] [0, 1, 5]
def m_laws_markIntS_11 : Unit → MCode := fun _ => .seq m_laws_markIntS_9 m_laws_markIntS_10
def m_laws_markIntS_12 : Unit → MCode := fun _ => .seq m_laws_markIntS_5 m_laws_markIntS_11
def m_laws_markIntS_13 : Unit → MCode := fun _ => .loop m_laws_markIntS_12
def m_laws_markIntS_14 : Unit → MCode := fun _ => .block 0 m_laws_markIntS_13
def m_laws_markIntS_15 : Unit → MCode := fun _ => .seq m_laws_markIntS_2 m_laws_markIntS_14
def m_laws_markIntS_16 : Unit → MCode := fun _ => .region [] [⟨(some 18), .mv (.tmp 1), none, []⟩,
    ⟨(some 4), .mv (.tmp 18), none, []⟩] [4]
def m_laws_markIntS_17 : Unit → MCode := fun _ => .seq m_laws_markIntS_16 (fun _ => .ret)
def m_laws_markIntS_18 : Unit → MCode := fun _ => .seq m_laws_markIntS_15 m_laws_markIntS_17
def m_laws_markIntS_19 : Unit → MCode := fun _ => .seq m_laws_markIntS_1 m_laws_markIntS_18
def m_laws_markIntS : MCode := m_laws_markIntS_19 ()
def h_laws_markIntS : Hints := [(0, [0, 1], [], [], []), (1, [0, 1, 5], [], [], []), (2, [0, 1, 5, 9], [], [], []), (4, [0, 1, 5], [], [], []), (5, [0, 1, 5], [], [], []), (3, [0, 1, 5], [], [], []), (6, [4], [], [], [])]
def r_laws_markIntS : List RV := [.t 4]
abbrev n_laws_markIntS : Nat := 22
theorem k_laws_markIntS : Known Pr mu n_laws_markIntS m_laws_markIntS r_laws_markIntS Go.Proofs.Try.f22.ntmps := .of h_laws_markIntS hm Go.Proofs.Try.func22 (by kernel_rfl) (by kernel_rfl) (by kernel_rfl) (by kernel_rfl)
def m_laws_heldIntS_1 : Unit → MCode := fun _ => .region [] [⟨(some 4), .mv (.const (.int .i64 0)), none, []⟩] [0, 1]
def m_laws_heldIntS_2 : Unit → MCode := fun _ => .region [] [⟨(some 5), .mv (.const (.int .i64 0)), none, []⟩] [0, 1, 5]
def m_laws_heldIntS_3 : Unit → MCode := fun _ => .region [] [⟨(some 6), .mv (.tmp 5), none, []⟩,
    ⟨(some 7), .mv (.tmp 0), none, []⟩,
    ⟨(some 8), .len false (.tmp 7), none, []⟩,
    ⟨(some 9), .bin .lss (.tmp 6) (.tmp 8), none, []⟩] [0, 1, 5, 9]
def m_laws_heldIntS_4 : Unit → MCode := fun _ => .cond (.tmp 9) (fun _ => .skip) (fun _ => .exit 0)
def m_laws_heldIntS_5 : Unit → MCode := fun _ => .seq m_laws_heldIntS_3 m_laws_heldIntS_4
def m_laws_heldIntS_6 : Unit → MCode := fun _ => .region [] [⟨(some 12), .mv (.tmp 0), none, []⟩,
    ⟨(some 13), .mv (.tmp 5), none, []⟩,
    ⟨(some 14), .ia (.tmp 12) (.tmp 13) 1, none, []⟩,
    ⟨(some 15), .ld (.tmp 14) 1 false, none, []⟩,
    ⟨(some 16), .mv (.tmp 1), none, []⟩,
    ⟨(some 17), .bin .neq (.tmp 15) (.tmp 16), none, []⟩] [0, 1, 5, 17]
def m_laws_heldIntS_7 : Unit → MCode := fun _ => .region [] [⟨(some 4), .mv (.const (.int .i64 (-1))), none, []⟩] [4]
def m_laws_heldIntS_8 : Unit → MCode := fun _ => .seq m_laws_heldIntS_7 (fun _ => .ret)
def m_laws_heldIntS_9 : Unit → MCode := fun _ => .cond (.tmp 17) m_laws_heldIntS_8 (fun _ => .skip)
def m_laws_heldIntS_10 : Unit → MCode := fun _ => .seq m_laws_heldIntS_6 m_laws_heldIntS_9
def m_laws_heldIntS_11 : Unit → MCode := fun _ => .region [] [⟨(some 18), .mv (.tmp 1), none, []⟩,
    ⟨(some 19), .bin .add (.tmp 18) (.const (.int .i64 1)), none, []⟩,
    ⟨(some 1), .mv (.tmp 19), none, []⟩] [0, 1, 5]
def m_laws_heldIntS_12 : Unit → MCode := fun _ => .seq m_laws_heldIntS_10 m_laws_heldIntS_11
def m_laws_heldIntS_13 : Unit → MCode := fun _ => .block 1 m_laws_heldIntS_12
def m_laws_heldIntS_14 : Unit → MCode := fun _ => .region [] [⟨(some 10), .mv (.tmp 5), none, []⟩,
    ⟨(some 11), .bin .add (.tmp 10) (.const (.int .i64 1)), none, []⟩,
    ⟨(some 5), .mv (.tmp 11), none, []⟩] [0, 1, 5]
def m_laws_heldIntS_15 : Unit → MCode := fun _ => .seq m_laws_heldIntS_13 m_laws_heldIntS_14
def m_laws_heldIntS_16 : Unit → MCode := fun _ => .seq m_laws_heldIntS_5 m_laws_heldIntS_15
def m_laws_heldIntS_17 : Unit → MCode := fun _ => .loop m_laws_heldIntS_16
def m_laws_heldIntS_18 : Unit → MCode := fun _ => .block 0 m_laws_heldIntS_17
def m_laws_heldIntS_19 : Unit → MCode := fun _ => .seq m_laws_heldIntS_2 m_laws_heldIntS_18
def m_laws_heldIntS_20 : Unit → MCode := fun _ => .region [] [⟨(some 20), .mv (.tmp 1), none, []⟩,
    ⟨(some 4), .mv (.tmp 20), none, []⟩] [4]
def m_laws_heldIntS_21 : Unit → MCode := fun _ => .seq m_laws_heldIntS_20 (fun _ => .ret)
def m_laws_heldIntS_22 : Unit → MCode := fun _ => .seq m_laws_heldIntS_19 m_laws_heldIntS_21
def m_laws_heldIntS_23 : Unit → MCode := fun _ => .seq m_laws_heldIntS_1 m_laws_heldIntS_22
def m_laws_heldIntS : MCode := m_laws_heldIntS_23 ()
def h_laws_heldIntS : Hints := [(0, [0, 1], [], [], []), (1, [0, 1, 5], [], [], []), (2, [0, 1, 5, 9], [], [], []), (4, [0, 1, 5, 17], [], [], []), (5, [4], [], [], []), (6, [0, 1, 5], [], [], []), (3, [0, 1, 5], [], [], []), (7, [4], [], [], [])]
def r_laws_heldIntS : List RV := [.t 4]
abbrev n_laws_heldIntS : Nat := 23
theorem k_laws_heldIntS : Known Pr mu n_laws_heldIntS m_laws_heldIntS r_laws_heldIntS Go.Proofs.Try.f23.ntmps := .of h_laws_heldIntS hm Go.Proofs.Try.func23 (by kernel_rfl) (by kernel_rfl) (by kernel_rfl) (by kernel_rfl)
def m_laws_szMasterLog_1 : Unit → MCode := fun _ => .region [] [⟨(some 2), .box (.tmp 0), none, []⟩,
    ⟨(some 4), .mv (.const (.int .i64 0)), none, []⟩] [1, 2]
def m_laws_szMasterLog_2 : Unit → MCode := fun _ => .region [] [⟨(some 5), .fa (.tmp 2) 0, none, []⟩,
    ⟨(some 6), .ld (.tmp 5) 1 false, none, []⟩,
    ⟨(some 7), .mv (.tmp 1), none, []⟩,
    ⟨(some 8), .call 87 [(.tmp 6), (.tmp 7)], none, []⟩,
    ⟨(some 1), .mv (.tmp 8), none, []⟩] [1]
def m_laws_szMasterLog_3 : Unit → MCode := fun _ => .region [] [⟨(some 9), .mv (.tmp 1), none, []⟩,
    ⟨(some 10), .bin .lss (.tmp 9) (.const (.int .i64 0)), none, []⟩] [1, 10]
def m_laws_szMasterLog_4 : Unit → MCode := fun _ => .region [] [⟨(some 4), .mv (.const (.int .i64 (-1))), none, []⟩] [4]
def m_laws_szMasterLog_5 : Unit → MCode := fun _ => .seq m_laws_szMasterLog_4 (fun _ => .ret)
def m_laws_szMasterLog_6 : Unit → MCode := fun _ => .cond (.tmp 10) m_laws_szMasterLog_5 (fun _ => .skip)
def m_laws_szMasterLog_7 : Unit → MCode := fun _ => .seq m_laws_szMasterLog_3 m_laws_szMasterLog_6
def m_laws_szMasterLog_8 : Unit → MCode := fun _ => .region [] [⟨(some 11), .mv (.tmp 1), none, []⟩,
    ⟨(some 4), .mv (.tmp 11), none, []⟩] [4]
def m_laws_szMasterLog_9 : Unit → MCode := fun _ => .seq m_laws_szMasterLog_8 (fun _ => .ret)
def m_laws_szMasterLog_10 : Unit → MCode := fun _ => .seq m_laws_szMasterLog_7 m_laws_szMasterLog_9
def m_laws_szMasterLog_11 : Unit → MCode := fun _ => .seq m_laws_szMasterLog_2 m_laws_szMasterLog_10
def m_laws_szMasterLog_12 : Unit → MCode := fun _ => .seq m_laws_szMasterLog_1 m_laws_szMasterLog_11
def m_laws_szMasterLog : MCode := m_laws_szMasterLog_12 ()
def h_laws_szMasterLog : Hints := [(0, [1, 2], [], [], []), (1, [1], [], [], []), (2, [1, 10], [], [], []), (3, [4], [], [], []), (4, [4], [], [], [])]
def r_laws_szMasterLog : List RV := [.t 4]
abbrev n_laws_szMasterLog : Nat := 36
theorem k_laws_szMasterLog : Known Pr mu n_laws_szMasterLog m_laws_szMasterLog r_laws_szMasterLog Go.Proofs.Try.f36.ntmps := .of h_laws_szMasterLog hm Go.Proofs.Try.func36 (by kernel_rfl) (by kernel_rfl) (by kernel_rfl) (by kernel_rfl)
def m_laws_toMasterLog_1 : Unit → MCode := fun _ => .region [] [⟨(some 1), .box (.tmp 0), none, []⟩,
    ⟨(some 2), .alloc [.slice none 0 0, .int .i64 0], none, []⟩] [1, 2]
def m_laws_toMasterLog_2 : Unit → MCode := fun _ => .region [] [⟨(some 3), .alloc [.slice none 0 0, .int .i64 0], none, []⟩] [1, 2, 3]
def m_laws_toMasterLog_3 : Unit → MCode := fun _ => .region [] [⟨(some 4), .fa (.tmp 1) 0, none, []⟩,
    ⟨(some 5), .ld (.tmp 4) 1 false, none, []⟩,
    ⟨(some 6), .call 88 [(.tmp 5)], none, []⟩,
    ⟨(some 7), .fa (.tmp 3) 0, none, []⟩,
    ⟨none, .sto (.tmp 7) (.tmp 6) 1, none, []⟩] [1, 2, 3]
def m_laws_toMasterLog_4 : Unit → MCode := fun _ => .region [] [⟨(some 8), .fa (.tmp 1) 1, none, []⟩,
    ⟨(some 9), .ld (.tmp 8) 1 false, none, []⟩,
    ⟨(some 10), .fa (.tmp 3) 1, none, []⟩,
    ⟨none, .sto (.tmp 10) (.tmp 9) 1, none, []⟩] [2, 3]
def m_laws_toMasterLog_5 : Unit → MCode := fun _ => .region [] [⟨(some 11), .ld (.tmp 3) 2 true, none, []⟩,
    ⟨none, .sto (.tmp 2) (.tmp 11) 2, none, []⟩] [2]
def m_laws_toMasterLog_6 : Unit → MCode := fun _ => .seq m_laws_toMasterLog_5 (fun _ => .ret)
def m_laws_toMasterLog_7 : Unit → MCode := fun _ => .seq m_laws_toMasterLog_4 m_laws_toMasterLog_6
def m_laws_toMasterLog_8 : Unit → MCode := fun _ => .seq m_laws_toMasterLog_3 m_laws_toMasterLog_7
def m_laws_toMasterLog_9 : Unit → MCode := fun _ => .seq m_laws_toMasterLog_2 m_laws_toMasterLog_8
def m_laws_toMasterLog_10 : Unit → MCode := fun _ => .seq m_laws_toMasterLog_1 m_laws_toMasterLog_9
def m_laws_toMasterLog : MCode := m_laws_toMasterLog_10 ()
def h_laws_toMasterLog : Hints := [(0, [1, 2], [], [], []), (1, [1, 2, 3], [], [], []), (2, [1, 2, 3], [], [], []), (3, [2, 3], [], [], []), (4, [2], [], [], [])]
def r_laws_toMasterLog : List RV := [.c 2 2 true]
abbrev n_laws_toMasterLog : Nat := 38
theorem k_laws_toMasterLog : Known Pr mu n_laws_toMasterLog m_laws_toMasterLog r_laws_toMasterLog Go.Proofs.Try.f38.ntmps := .of h_laws_toMasterLog hm Go.Proofs.Try.func38 (by kernel_rfl) (by kernel_rfl) (by kernel_rfl) (by kernel_rfl)
def m_laws_eqMasterLog_1 : Unit → MCode := fun _ => .region [] [⟨(some 2), .box (.tmp 0), none, []⟩,
    ⟨(some 3), .box (.tmp 1), none, []⟩,
    ⟨(some 4), .mv (.const (.bool false)), none, []⟩] [2, 3]
def m_laws_eqMasterLog_2 : Unit → MCode := fun _ => .region [] [⟨(some 5), .fa (.tmp 2) 0, none, []⟩,
    ⟨(some 6), .ld (.tmp 5) 1 false, none, []⟩,
    ⟨(some 7), .fa (.tmp 3) 0, none, []⟩,
    ⟨(some 8), .ld (.tmp 7) 1 false, none, []⟩,
    ⟨(some 9), .call 89 [(.tmp 6), (.tmp 8)], none, []⟩,
    ⟨(some 10), .not (.tmp 9), none, []⟩] [2, 3, 10]
def m_laws_eqMasterLog_3 : Unit → MCode := fun _ => .region [] [⟨(some 4), .mv (.const (.bool false)), none, []⟩] [4]
def m_laws_eqMasterLog_4 : Unit → MCode := fun _ => .seq m_laws_eqMasterLog_3 (fun _ => .ret)
def m_laws_eqMasterLog_5 : Unit → MCode := fun _ => .cond (.tmp 10) m_laws_eqMasterLog_4 (fun _ => .skip)
def m_laws_eqMasterLog_6 : Unit → MCode := fun _ => .seq m_laws_eqMasterLog_2 m_laws_eqMasterLog_5
def m_laws_eqMasterLog_7 : Unit → MCode := fun _ => .region [] [⟨(some 11), .fa (.tmp 2) 1, none, []⟩,
    ⟨(some 12), .ld (.tmp 11) 1 false, none, []⟩,
    ⟨(some 13), .fa (.tmp 3) 1, none, []⟩,
    ⟨(some 14), .ld (.tmp 13) 1 false, none, []⟩,
    ⟨(some 15), .bin .neq (.tmp 12) (.tmp 14), none, []⟩] [15]
def m_laws_eqMasterLog_8 : Unit → MCode := fun _ => .region [] [⟨(some 4), .mv (.const (.bool false)), none, []⟩] [4]
def m_laws_eqMasterLog_9 : Unit → MCode := fun _ => .seq m_laws_eqMasterLog_8 (fun _ => .ret)
def m_laws_eqMasterLog_10 : Unit → MCode := fun _ => .cond (.tmp 15) m_laws_eqMasterLog_9 (fun _ => .skip)
def m_laws_eqMasterLog_11 : Unit → MCode := fun _ => .seq m_laws_eqMasterLog_7 m_laws_eqMasterLog_10
def m_laws_eqMasterLog_12 : Unit → MCode := fun _ => .region [] [⟨(some 4), .mv (.const (.bool true)), none, []⟩] [4]
def m_laws_eqMasterLog_13 : Unit → MCode := fun _ => .seq m_laws_eqMasterLog_12 (fun _ => .ret)
def m_laws_eqMasterLog_14 : Unit → MCode := fun _ => .seq m_laws_eqMasterLog_11 m_laws_eqMasterLog_13
def m_laws_eqMasterLog_15 : Unit → MCode := fun _ => .seq m_laws_eqMasterLog_6 m_laws_eqMasterLog_14
def m_laws_eqMasterLog_16 : Unit → MCode := fun _ => .seq m_laws_eqMasterLog_1 m_laws_eqMasterLog_15
def m_laws_eqMasterLog : MCode := m_laws_eqMasterLog_16 ()
def h_laws_eqMasterLog : Hints := [(0, [2, 3], [], [], []), (1, [2, 3, 10], [], [], []), (2, [4], [], [], []), (3, [15], [], [], []), (4, [4], [], [], []), (5, [4], [], [], [])]
def r_laws_eqMasterLog : List RV := [.t 4]
abbrev n_laws_eqMasterLog : Nat := 40
theorem k_laws_eqMasterLog : Known Pr mu n_laws_eqMasterLog m_laws_eqMasterLog r_laws_eqMasterLog Go.Proofs.Try.f40.ntmps := .of h_laws_eqMasterLog hm Go.Proofs.Try.func40 (by kernel_rfl) (by kernel_rfl) (by kernel_rfl) (by kernel_rfl)
def m_laws_markMasterLog_1 : Unit → MCode := fun _ => .region [] [⟨(some 2), .box (.tmp 0), none, []⟩,
    ⟨(some 4), .mv (.const (.int .i64 0)), none, []⟩] [1, 2]
def m_laws_markMasterLog_2 : Unit → MCode := fun _ => .region [] [⟨(some 5), .fa (.tmp 2) 0, none, []⟩,
    ⟨(some 6), .ld (.tmp 5) 1 false, none, []⟩,
    ⟨(some 7), .mv (.tmp 1), none, []⟩,
    ⟨(some 8), .callm 90 [(.tmp 6), (.tmp 7)], none, []⟩,
    ⟨(some 1), .mv (.tmp 8), none, []⟩] [1]
def m_laws_markMasterLog_3 : Unit → MCode := fun _ => .region [] [⟨(some 9), .mv (.tmp 1), none, []⟩,
    ⟨(some 4), .mv (.tmp 9), none, []⟩] [4]
def m_laws_markMasterLog_4 : Unit → MCode := fun _ => .seq m_laws_markMasterLog_3 (fun _ => .ret)
def m_laws_markMasterLog_5 : Unit → MCode := fun _ => .seq m_laws_markMasterLog_2 m_laws_markMasterLog_4
def m_laws_markMasterLog_6 : Unit → MCode := fun _ => .seq m_laws_markMasterLog_1 m_laws_markMasterLog_5
def m_laws_markMasterLog : MCode := m_laws_markMasterLog_6 ()
def h_laws_markMasterLog : Hints := [(0, [1, 2], [], [], []), (1, [1], [], [], []), (2, [4], [], [], [])]
def r_laws_markMasterLog : List RV := [.t 4]
abbrev n_laws_markMasterLog : Nat := 41
theorem k_laws_markMasterLog : Known Pr mu n_laws_markMasterLog m_laws_markMasterLog r_laws_markMasterLog Go.Proofs.Try.f41.ntmps := .of h_laws_markMasterLog hm Go.Proofs.Try.func41 (by kernel_rfl) (by kernel_rfl) (by kernel_rfl) (by kernel_rfl)
def m_impl_IsValidConfig_1 : Unit → MCode := fun _ => .region [] [⟨(some 1), .box (.tmp 0), none, []⟩,
    ⟨(some 2), .mv (.const (.bool false)), none, []⟩] [1]
def m_impl_IsValidConfig_2 : Unit → MCode := fun _ => .region [] [⟨(some 3), .fa (.tmp 1) 0, none, []⟩,
    ⟨(some 4), .ld (.tmp 3) 1 false, none, []⟩,
    ⟨(some 5), .call 84 [(.tmp 4), (.const (.int .i64 1)), (.const (.int .i64 20))], none, []⟩,
    ⟨(some 6), .mv (.tmp 5), none, []⟩,
    ⟨(some 7), .fa (.tmp 1) 2, (some (6, true)), []⟩,
    ⟨(some 8), .ld (.tmp 7) 1 false, (some (6, true)), []⟩,
    ⟨(some 9), .call 100 [(.tmp 8)], (some (6, true)), []⟩,
    ⟨(some 10), .pick (.tmp 6) (.tmp 9) (.const (.bool false)), none, []⟩,
    ⟨(some 11), .mv (.tmp 10), none, []⟩,
    ⟨(some 12), .fa (.tmp 1) 3, (some (11, true)), []⟩,
    ⟨(some 13), .ld (.tmp 12) 1 false, (some (11, true)), []⟩,
    ⟨(some 14), .call 100 [(.tmp 13)], (some (11, true)), []⟩,
    ⟨(some 15), .pick (.tmp 11) (.tmp 14) (.const (.bool false)), none, []⟩,
    ⟨(some 16), .mv (.tmp 15), none, []⟩,
    ⟨(some 17), .fa (.tmp 1) 2, (some (16, true)), []⟩,
    ⟨(some 18), .ld (.tmp 17) 1 false, (some (16, true)), []⟩,
    ⟨(some 19), .fa (.tmp 1) 1, (some (16, true)), []⟩,
    ⟨(some 20), .ld (.tmp 19) 1 false, (some (16, true)), []⟩,
    ⟨(some 21), .call 98 [(.tmp 18), (.tmp 20)], (some (16, true)), []⟩,
    ⟨(some 22), .pick (.tmp 16) (.tmp 21) (.const (.bool false)), none, []⟩,
    ⟨(some 23), .mv (.tmp 22), none, []⟩,
    ⟨(some 24), .fa (.tmp 1) 2, (some (23, true)), []⟩,
    ⟨(some 25), .ld (.tmp 24) 1 false, (some (23, true)), []⟩,
    ⟨(some 26), .fa (.tmp 1) 3, (some (23, true)), []⟩,
    ⟨(some 27), .ld (.tmp 26) 1 false, (some (23, true)), []⟩,
    ⟨(some 28), .call 101 [(.tmp 25), (.tmp 27)], (some (23, true)), []⟩,
    ⟨(some 29), .len false (.tmp 28), (some (23, true)), []⟩,
    ⟨(some 30), .bin .eql (.tmp 29) (.const (.int .i64 0)), (some (23, true)), []⟩,
    ⟨(some 31), .pick (.tmp 23) (.tmp 30) (.const (.bool false)), none, []⟩,
    ⟨(some 2), .mv (.tmp 31), none, []⟩] [2]
def m_impl_IsValidConfig_3 : Unit → MCode := fun _ => .seq m_impl_IsValidConfig_2 (fun _ => .ret)
def m_impl_IsValidConfig_4 : Unit → MCode := fun _ => .seq m_impl_IsValidConfig_1 m_impl_IsValidConfig_3
def m_impl_IsValidConfig : MCode := m_impl_IsValidConfig_4 ()
def h_impl_IsValidConfig : Hints := [(0, [1], [], [], []), (1, [2], [], [], [])]
def r_impl_IsValidConfig : List RV := [.t 2]
abbrev n_impl_IsValidConfig : Nat := 56
theorem k_impl_IsValidConfig : Known Pr mu n_impl_IsValidConfig m_impl_IsValidConfig r_impl_IsValidConfig Go.Proofs.Try.f56.ntmps := .of h_impl_IsValidConfig hm Go.Proofs.Try.func56 (by kernel_rfl) (by kernel_rfl) (by kernel_rfl) (by kernel_rfl)
def m_spec_IsValidConfig_1 : Unit → MCode := fun _ => .region [] [⟨(some 1), .box (.tmp 0), none, []⟩,
    ⟨(some 2), .mv (.const (.bool false)), none, []⟩] [1]
def m_spec_IsValidConfig_2 : Unit → MCode := fun _ => .region [] [⟨(some 3), .fa (.tmp 1) 0, none, []⟩,
    ⟨(some 4), .ld (.tmp 3) 1 false, none, []⟩,
    ⟨(some 5), .call 81 [(.tmp 4), (.const (.int .i64 1)), (.const (.int .i64 20))], none, []⟩,
    ⟨(some 6), .mv (.tmp 5), none, []⟩,
    ⟨(some 7), .fa (.tmp 1) 2, (some (6, true)), []⟩,
    ⟨(some 8), .ld (.tmp 7) 1 false, (some (6, true)), []⟩,
    ⟨(some 9), .call 102 [(.tmp 8)], (some (6, true)), []⟩,
    ⟨(some 10), .pick (.tmp 6) (.tmp 9) (.const (.bool false)), none, []⟩,
    ⟨(some 11), .mv (.tmp 10), none, []⟩,
    ⟨(some 12), .fa (.tmp 1) 3, (some (11, true)), []⟩,
    ⟨(some 13), .ld (.tmp 12) 1 false, (some (11, true)), []⟩,
    ⟨(some 14), .call 102 [(.tmp 13)], (some (11, true)), []⟩,
    ⟨(some 15), .pick (.tmp 11) (.tmp 14) (.const (.bool false)), none, []⟩,
    ⟨(some 16), .mv (.tmp 15), none, []⟩,
    ⟨(some 17), .fa (.tmp 1) 2, (some (16, true)), []⟩,
    ⟨(some 18), .ld (.tmp 17) 1 false, (some (16, true)), []⟩,
    ⟨(some 19), .fa (.tmp 1) 1, (some (16, true)), []⟩,
    ⟨(some 20), .ld (.tmp 19) 1 false, (some (16, true)), []⟩,
    ⟨(some 21), .call 99 [(.tmp 18), (.tmp 20)], (some (16, true)), []⟩,
    ⟨(some 22), .pick (.tmp 16) (.tmp 21) (.const (.bool false)), none, []⟩,
    ⟨(some 23), .mv (.tmp 22), none, []⟩,
    ⟨(some 24), .fa (.tmp 1) 2, (some (23, true)), []⟩,
    ⟨(some 25), .ld (.tmp 24) 1 false, (some (23, true)), []⟩,
    ⟨(some 26), .fa (.tmp 1) 3, (some (23, true)), []⟩,
    ⟨(some 27), .ld (.tmp 26) 1 false, (some (23, true)), []⟩,
    ⟨(some 28), .call 103 [(.tmp 25), (.tmp 27)], (some (23, true)), []⟩,
    ⟨(some 29), .len false (.tmp 28), (some (23, true)), []⟩,
    ⟨(some 30), .bin .eql (.tmp 29) (.const (.int .i64 0)), (some (23, true)), []⟩,
    ⟨(some 31), .pick (.tmp 23) (.tmp 30) (.const (.bool false)), none, []⟩,
    ⟨(some 2), .mv (.tmp 31), none, []⟩] [2]
def m_spec_IsValidConfig_3 : Unit → MCode := fun _ => .seq m_spec_IsValidConfig_2 (fun _ => .ret)
def m_spec_IsValidConfig_4 : Unit → MCode := fun _ => .seq m_spec_IsValidConfig_1 m_spec_IsValidConfig_3
def m_spec_IsValidConfig : MCode := m_spec_IsValidConfig_4 ()
def h_spec_IsValidConfig : Hints := [(0, [1], [], [], []), (1, [2], [], [], [])]
def r_spec_IsValidConfig : List RV := [.t 2]
abbrev n_spec_IsValidConfig : Nat := 57
theorem k_spec_IsValidConfig : Known Pr mu n_spec_IsValidConfig m_spec_IsValidConfig r_spec_IsValidConfig Go.Proofs.Try.f57.ntmps := .of h_spec_IsValidConfig hm Go.Proofs.Try.func57 (by kernel_rfl) (by kernel_rfl) (by kernel_rfl) (by kernel_rfl)
def m_laws_heldMasterLog_1 : Unit → MCode := fun _ => .region [] [⟨(some 2), .box (.tmp 0), none, []⟩,
    ⟨(some 4), .mv (.const (.int .i64 0)), none, []⟩] [1, 2]
def m_laws_heldMasterLog_2 : Unit → MCode := fun _ => .region [] [⟨(some 5), .fa (.tmp 2) 0, none, []⟩,
    ⟨(some 6), .ld (.tmp 5) 1 false, none, []⟩,
    ⟨(some 7), .mv (.tmp 1), none, []⟩,
    ⟨(some 8), .call 106 [(.tmp 6), (.tmp 7)], none, []⟩,
    ⟨(some 1), .mv (.tmp 8), none, []⟩] [1]
def m_laws_heldMasterLog_3 : Unit → MCode := fun _ => .region [] [⟨(some 9), .mv (.tmp 1), none, []⟩,
    ⟨(some 10), .bin .lss (.tmp 9) (.const (.int .i64 0)), none, []⟩] [1, 10]
def m_laws_heldMasterLog_4 : Unit → MCode := fun _ => .region [] [⟨(some 4), .mv (.const (.int .i64 (-1))), none, []⟩] [4]
def m_laws_heldMasterLog_5 : Unit → MCode := fun _ => .seq m_laws_heldMasterLog_4 (fun _ => .ret)
def m_laws_heldMasterLog_6 : Unit → MCode := fun _ => .cond (.tmp 10) m_laws_heldMasterLog_5 (fun _ => .skip)
def m_laws_heldMasterLog_7 : Unit → MCode := fun _ => .seq m_laws_heldMasterLog_3 m_laws_heldMasterLog_6
def m_laws_heldMasterLog_8 : Unit → MCode := fun _ => .region [] [⟨(some 11), .mv (.tmp 1), none, []⟩,
    ⟨(some 4), .mv (.tmp 11), none, []⟩] [4]
def m_laws_heldMasterLog_9 : Unit → MCode := fun _ => .seq m_laws_heldMasterLog_8 (fun _ => .ret)
def m_laws_heldMasterLog_10 : Unit → MCode := fun _ => .seq m_laws_heldMasterLog_7 m_laws_heldMasterLog_9
def m_laws_heldMasterLog_11 : Unit → MCode := fun _ => .seq m_laws_heldMasterLog_2 m_laws_heldMasterLog_10
def m_laws_heldMasterLog_12 : Unit → MCode := fun _ => .seq m_laws_heldMasterLog_1 m_laws_heldMasterLog_11
def m_laws_heldMasterLog : MCode := m_laws_heldMasterLog_12 ()
def h_laws_heldMasterLog : Hints := [(0, [1, 2], [], [], []), (1, [1], [], [], []), (2, [1, 10], [], [], []), (3, [4], [], [], []), (4, [4], [], [], [])]
def r_laws_heldMasterLog : List RV := [.t 4]
abbrev n_laws_heldMasterLog : Nat := 67
theorem k_laws_heldMasterLog : Known Pr mu n_laws_heldMasterLog m_laws_heldMasterLog r_laws_heldMasterLog Go.Proofs.Try.f67.ntmps := .of h_laws_heldMasterLog hm Go.Proofs.Try.func67 (by kernel_rfl) (by kernel_rfl) (by kernel_rfl) (by kernel_rfl)
def m_spec_ProposeConfig_1 : Unit → MCode := fun _ => .region [] [⟨(some 2), .box (.tmp 0), none, []⟩,
    ⟨(some 3), .box (.tmp 1), none, []⟩,
    ⟨(some 4), .alloc [.slice none 0 0, .int .i64 0], none, []⟩,
    ⟨(some 5), .mv (.const (.bool false)), none, []⟩] [2, 3, 4]
def m_spec_ProposeConfig_2 : Unit → MCode := fun _ => .region [] [⟨(some 7), .ld (.tmp 2) 2 true, none, []⟩,
    ⟨(some 8), .call 104 [(.tmp 7)], none, []⟩,
    ⟨(some 6), .alloc [.slice none 0 0, .int .i64 0], none, []⟩,
    ⟨none, .sto (.tmp 6) (.tmp 8) 2, none, []⟩] [2, 3, 4, 6]
def m_spec_ProposeConfig_3 : Unit → MCode := fun _ => .region [] [⟨(some 9), .ld (.tmp 2) 2 true, none, []⟩,
    ⟨(some 10), .call 74 [(.tmp 9)], none, []⟩,
    ⟨(some 11), .not (.tmp 10), none, []⟩,
    ⟨(some 12), .mv (.tmp 11), none, []⟩,
    ⟨(some 13), .ld (.tmp 3) 4 true, (some (12, false)), []⟩,
    ⟨(some 14), .call 57 [(.tmp 13)], (some (12, false)), []⟩,
    ⟨(some 15), .not (.tmp 14), (some (12, false)), []⟩,
    ⟨(some 16), .pick (.tmp 12) (.const (.bool true)) (.tmp 15), none, []⟩,
    ⟨(some 17), .mv (.tmp 16), none, []⟩,
    ⟨(some 18), .fa (.tmp 3) 0, (some (17, false)), []⟩,
    ⟨(some 19), .ld (.tmp 18) 1 false, (some (17, false)), []⟩,
    ⟨(some 20), .fa (.tmp 2) 0, (some (17, false)), []⟩,
    ⟨(some 21), .ld (.tmp 20) 1 false, (some (17, false)), []⟩,
    ⟨(some 22), .len false (.tmp 21), (some (17, false)), []⟩,
    ⟨(some 23), .bin .add (.tmp 22) (.const (.int .i64 1)), (some (17, false)), []⟩,
    ⟨(some 24), .bin .neq (.tmp 19) (.tmp 23), (some (17, false)), []⟩,
    ⟨(some 25), .pick (.tmp 17) (.const (.bool true)) (.tmp 24), none, []⟩] [3, 4, 6, 25]
def m_spec_ProposeConfig_4 : Unit → MCode := fun _ => .region [] [⟨(some 26), .ld (.tmp 6) 2 true, none, []⟩,
    ⟨none, .sto (.tmp 4) (.tmp 26) 2, none, []⟩,
    ⟨(some 5), .mv (.const (.bool false)), none, []⟩] [4, 5]
def m_spec_ProposeConfig_5 : Unit → MCode := fun _ => .seq m_spec_ProposeConfig_4 (fun _ => .ret)
def m_spec_ProposeConfig_6 : Unit → MCode := fun _ => .cond (.tmp 25) m_spec_ProposeConfig_5 (fun _ => .skip)
def m_spec_ProposeConfig_7 : Unit → MCode := fun _ => .seq m_spec_ProposeConfig_3 m_spec_ProposeConfig_6
def m_spec_ProposeConfig_8 : Unit → MCode := fun _ => .region [] [⟨(some 27), .fa (.tmp 6) 0, none, []⟩,
    ⟨(some 28), .ld (.tmp 27) 1 false, none, []⟩,
    ⟨(some 29), .ld (.tmp 3) 4 true, none, [0, 1]⟩,
    ⟨(some 30), .call 83 [(.tmp 29)], none, [0, 1]⟩,
    ⟨(some 31), .bsl 4 1 [.int .i64 0, .int .i64 0, .slice none 0 0, .slice none 0 0] [(0, (.tmp 30))], none, []⟩,
    ⟨(some 32), .app (.tmp 28) (.tmp 31) 4 64, none, []⟩,
    ⟨(some 33), .fa (.tmp 6) 0, none, []⟩,
    ⟨none, .sto (.tmp 33) (.tmp 32) 1, none, []⟩] [4, 6]
def m_spec_ProposeConfig_9 : Unit → MCode := fun _ => .region [] [⟨(some 34), .ld (.tmp 6) 2 true, none, []⟩,
    ⟨none, .sto (.tmp 4) (.tmp 34) 2, none, []⟩,
    ⟨(some 5), .mv (.const (.bool true)), none, []⟩] [4, 5]
def m_spec_ProposeConfig_10 : Unit → MCode := fun _ => .seq m_spec_ProposeConfig_9 (fun _ => .ret)
def m_spec_ProposeConfig_11 : Unit → MCode := fun _ => .seq m_spec_ProposeConfig_8 m_spec_ProposeConfig_10
def m_spec_ProposeConfig_12 : Unit → MCode := fun _ => .seq m_spec_ProposeConfig_7 m_spec_ProposeConfig_11
def m_spec_ProposeConfig_13 : Unit → MCode := fun _ => .seq m_spec_ProposeConfig_2 m_spec_ProposeConfig_12
def m_spec_ProposeConfig_14 : Unit → MCode := fun _ => .seq m_spec_ProposeConfig_1 m_spec_ProposeConfig_13
def m_spec_ProposeConfig : MCode := m_spec_ProposeConfig_14 ()
def h_spec_ProposeConfig : Hints := [(0, [2, 3, 4], [], [], []), (1, [2, 3, 4, 6], [], [], []), (2, [3, 4, 6, 25], [], [], []), (3, [4, 5], [], [], []), (4, [4, 6], [[], [], [0, 1], [0, 1]], [], []), (5, [4, 5], [], [], [])]
def r_spec_ProposeConfig : List RV := [.c 4 2 true, .t 5]
abbrev n_spec_ProposeConfig : Nat := 68
theorem k_spec_ProposeConfig : Known Pr mu n_spec_ProposeConfig m_spec_ProposeConfig r_spec_ProposeConfig Go.Proofs.Try.f68.ntmps := .of h_spec_ProposeConfig hm Go.Proofs.Try.func68 (by kernel_rfl) (by kernel_rfl) (by kernel_rfl) (by kernel_rfl)
def m_impl_ProposeConfig_1 : Unit → MCode := fun _ => .region [] [⟨(some 2), .box (.tmp 0), none, []⟩,
    ⟨(some 3), .box (.tmp 1), none, []⟩,
    ⟨(some 4), .alloc [.slice none 0 0, .int .i64 0], none, []⟩,
    ⟨(some 5), .mv (.const (.bool false)), none, []⟩] [2, 3, 4]
def m_impl_ProposeConfig_2 : Unit → MCode := fun _ => .region [] [⟨(some 7), .ld (.tmp 2) 2 true, none, []⟩,
    ⟨(some 8), .call 105 [(.tmp 7)], none, []⟩,
    ⟨(some 6), .alloc [.slice none 0 0, .int .i64 0], none, []⟩,
    ⟨none, .sto (.tmp 6) (.tmp 8) 2, none, []⟩] [2, 3, 4, 6]
def m_impl_ProposeConfig_3 : Unit → MCode := fun _ => .region [] [⟨(some 9), .ld (.tmp 2) 2 true, none, []⟩,
    ⟨(some 10), .call 73 [(.tmp 9)], none, []⟩,
    ⟨(some 11), .not (.tmp 10), none, []⟩,
    ⟨(some 12), .mv (.tmp 11), none, []⟩,
    ⟨(some 13), .ld (.tmp 3) 4 true, (some (12, false)), []⟩,
    ⟨(some 14), .call 56 [(.tmp 13)], (some (12, false)), []⟩,
    ⟨(some 15), .not (.tmp 14), (some (12, false)), []⟩,
    ⟨(some 16), .pick (.tmp 12) (.const (.bool true)) (.tmp 15), none, []⟩,
    ⟨(some 17), .mv (.tmp 16), none, []⟩,
    ⟨(some 18), .fa (.tmp 3) 0, (some (17, false)), []⟩,
    ⟨(some 19), .ld (.tmp 18) 1 false, (some (17, false)), []⟩,
    ⟨(some 20), .fa (.tmp 2) 0, (some (17, false)), []⟩,
    ⟨(some 21), .ld (.tmp 20) 1 false, (some (17, false)), []⟩,
    ⟨(some 22), .len false (.tmp 21), (some (17, false)), []⟩,
    ⟨(some 23), .bin .add (.tmp 22) (.const (.int .i64 1)), (some (17, false)), []⟩,
    ⟨(some 24), .bin .neq (.tmp 19) (.tmp 23), (some (17, false)), []⟩,
    ⟨(some 25), .pick (.tmp 17) (.const (.bool true)) (.tmp 24), none, []⟩] [3, 4, 6, 25]
def m_impl_ProposeConfig_4 : Unit → MCode := fun _ => .region [] [⟨(some 26), .ld (.tmp 6) 2 true, none, []⟩,
    ⟨none, .sto (.tmp 4) (.tmp 26) 2, none, []⟩,
    ⟨(some 5), .mv (.const (.bool false)), none, []⟩] [4, 5]
def m_impl_ProposeConfig_5 : Unit → MCode := fun _ => .seq m_impl_ProposeConfig_4 (fun _ => .ret)
def m_impl_ProposeConfig_6 : Unit → MCode := fun _ => .cond (.tmp 25) m_impl_ProposeConfig_5 (fun _ => .skip)
def m_impl_ProposeConfig_7 : Unit → MCode := fun _ => .seq m_impl_ProposeConfig_3 m_impl_ProposeConfig_6
def m_impl_ProposeConfig_8 : Unit → MCode := fun _ => .region [] [⟨(some 27), .fa (.tmp 6) 0, none, []⟩,
    ⟨(some 28), .ld (.tmp 27) 1 false, none, []⟩,
    ⟨(some 29), .ld (.tmp 3) 4 true, none, [0, 1]⟩,
    ⟨(some 30), .call 86 [(.tmp 29)], none, [0, 1]⟩,
    ⟨(some 31), .bsl 4 1 [.int .i64 0, .int .i64 0, .slice none 0 0, .slice none 0 0] [(0, (.tmp 30))], none, []⟩,
    ⟨(some 32), .app (.tmp 28) (.tmp 31) 4 64, none, []⟩,
    ⟨(some 33), .fa (.tmp 6) 0, none, []⟩,
    ⟨none, .sto (.tmp 33) (.tmp 32) 1, none, []⟩] [4, 6]
def m_impl_ProposeConfig_9 : Unit → MCode := fun _ => .region [] [⟨(some 34), .ld (.tmp 6) 2 true, none, []⟩,
    ⟨none, .sto (.tmp 4) (.tmp 34) 2, none, []⟩,
    ⟨(some 5), .mv (.const (.bool true)), none, []⟩] [4, 5]
def m_impl_ProposeConfig_10 : Unit → MCode := fun _ => .seq m_impl_ProposeConfig_9 (fun _ => .ret)
def m_impl_ProposeConfig_11 : Unit → MCode := fun _ => .seq m_impl_ProposeConfig_8 m_impl_ProposeConfig_10
def m_impl_ProposeConfig_12 : Unit → MCode := fun _ => .seq m_impl_ProposeConfig_7 m_impl_ProposeConfig_11
def m_impl_ProposeConfig_13 : Unit → MCode := fun _ => .seq m_impl_ProposeConfig_2 m_impl_ProposeConfig_12
def m_impl_ProposeConfig_14 : Unit → MCode := fun _ => .seq m_impl_ProposeConfig_1 m_impl_ProposeConfig_13
def m_impl_ProposeConfig : MCode := m_impl_ProposeConfig_14 ()
def h_impl_ProposeConfig : Hints := [(0, [2, 3, 4], [], [], []), (1, [2, 3, 4, 6], [], [], []), (2, [3, 4, 6, 25], [], [], []), (3, [4, 5], [], [], []), (4, [4, 6], [[], [], [0, 1], [0, 1]], [], []), (5, [4, 5], [], [], [])]
def r_impl_ProposeConfig : List RV := [.c 4 2 true, .t 5]
abbrev n_impl_ProposeConfig : Nat := 69
theorem k_impl_ProposeConfig : Known Pr mu n_impl_ProposeConfig m_impl_ProposeConfig r_impl_ProposeConfig Go.Proofs.Try.f69.ntmps := .of h_impl_ProposeConfig hm Go.Proofs.Try.func69 (by kernel_rfl) (by kernel_rfl) (by kernel_rfl) (by kernel_rfl)
def m_impl_IsMasterLog_1 : Unit → MCode := fun _ => .region [] [⟨(some 1), .box (.tmp 0), none, []⟩,
    ⟨(some 2), .mv (.const (.bool false)), none, []⟩] [1]
def m_impl_IsMasterLog_2 : Unit → MCode := fun _ => .region [] [⟨(some 5), .fa (.tmp 1) 0, none, []⟩,
    ⟨(some 6), .ld (.tmp 5) 1 false, none, []⟩,
    ⟨(some 7), .len false (.tmp 6), none, []⟩,
    ⟨(some 8), .mv (.const (.int .i64 0)), none, []⟩] [1, 6, 7, 8]
def m_impl_IsMasterLog_3 : Unit → MCode := fun _ => .region [] [⟨(some 9), .bin .lss (.tmp 8) (.tmp 7), none, []⟩] [1, 6, 7, 8, 9]
def m_impl_IsMasterLog_4 : Unit → MCode := fun _ => .cond (.tmp 9) (fun _ => .skip) (fun _ => .exit 0)
def m_impl_IsMasterLog_5 : Unit → MCode := fun _ => .region [] [⟨(some 10), .mv (.tmp 8), none, []⟩,
    ⟨(some 11), .ia (.tmp 6) (.tmp 8) 4, none, []⟩,
    ⟨(some 12), .ld (.tmp 11) 4 true, none, []⟩,
    ⟨(some 4), .alloc [.int .i64 0, .int .i64 0, .slice none 0 0, .slice none 0 0], none, []⟩,
    ⟨(some 3), .mv (.tmp 10), none, []⟩,
    ⟨none, .sto (.tmp 4) (.tmp 12) 4, none, []⟩] [1, 3, 4, 6, 7, 8]
def m_impl_IsMasterLog_6 : Unit → MCode := fun _ => .region [] [⟨(some 13), .ld (.tmp 4) 4 true, none, []⟩,
    ⟨(some 14), .call 56 [(.tmp 13)], none, []⟩,
    ⟨(some 15), .not (.tmp 14), none, []⟩,
    ⟨(some 16), .mv (.tmp 15), none, []⟩,
    ⟨(some 17), .fa (.tmp 4) 0, (some (16, false)), []⟩,
    ⟨(some 18), .ld (.tmp 17) 1 false, (some (16, false)), []⟩,
    ⟨(some 19), .mv (.tmp 3), (some (16, false)), []⟩,
    ⟨(some 20), .bin .add (.tmp 19) (.const (.int .i64 1)), (some (16, false)), []⟩,
    ⟨(some 21), .bin .neq (.tmp 18) (.tmp 20), (some (16, false)), []⟩,
    ⟨(some 22), .pick (.tmp 16) (.const (.bool true)) (.tmp 21), none, []⟩] [1, 6, 7, 8, 22]
def m_impl_IsMasterLog_7 : Unit → MCode := fun _ => .region [] [⟨(some 2), .mv (.const (.bool false)), none, []⟩] [2]
def m_impl_IsMasterLog_8 : Unit → MCode := fun _ => .seq m_impl_IsMasterLog_7 (fun _ => .ret)
def m_impl_IsMasterLog_9 : Unit → MCode := fun _ => .cond (.tmp 22) m_impl_IsMasterLog_8 (fun _ => .skip)
def m_impl_IsMasterLog_10 : Unit → MCode := fun _ => .seq m_impl_IsMasterLog_6 m_impl_IsMasterLog_9
def m_impl_IsMasterLog_11 : Unit → MCode := fun _ => .seq m_impl_IsMasterLog_5 m_impl_IsMasterLog_10
def m_impl_IsMasterLog_12 : Unit → MCode := fun _ => .block 1 m_impl_IsMasterLog_11
def m_impl_IsMasterLog_13 : Unit → MCode := fun _ => .region [] [⟨(some 23), .bin .add (.tmp 8) (.const (.int .i64 1)), none, []⟩,
    ⟨(some 8), .mv (.tmp 23), none, []⟩] [1, 6, 7, 8]
def m_impl_IsMasterLog_14 : Unit → MCode := fun _ => .seq m_impl_IsMasterLog_12 m_impl_IsMasterLog_13
def m_impl_IsMasterLog_15 : Unit → MCode := fun _ => .seq m_impl_IsMasterLog_4 m_impl_IsMasterLog_14
def m_impl_IsMasterLog_16 : Unit → MCode := fun _ => .seq m_impl_IsMasterLog_3 m_impl_IsMasterLog_15
def m_impl_IsMasterLog_17 : Unit → MCode := fun _ => .loop m_impl_IsMasterLog_16
def m_impl_IsMasterLog_18 : Unit → MCode := fun _ => .block 0 m_impl_IsMasterLog_17
def m_impl_IsMasterLog_19 : Unit → MCode := fun _ => .seq m_impl_IsMasterLog_2 m_impl_IsMasterLog_18
def m_impl_IsMasterLog_20 : Unit → MCode := fun _ => .region [] [⟨(some 24), .fa (.tmp 1) 1, none, []⟩,
    ⟨(some 25), .ld (.tmp 24) 1 false, none, []⟩,
    ⟨(some 26), .fa (.tmp 1) 0, none, []⟩,
    ⟨(some 27), .ld (.tmp 26) 1 false, none, []⟩,
    ⟨(some 28), .len false (.tmp 27), none, []⟩,
    ⟨(some 29), .call 84 [(.tmp 25), (.const (.int .i64 0)), (.tmp 28)], none, []⟩,
    ⟨(some 2), .mv (.tmp 29), none, []⟩] [2]
def m_impl_IsMasterLog_21 : Unit → MCode := fun _ => .seq m_impl_IsMasterLog_20 (fun _ => .ret)
def m_impl_IsMasterLog_22 : Unit → MCode := fun _ => .seq m_impl_IsMasterLog_19 m_impl_IsMasterLog_21
def m_impl_IsMasterLog_23 : Unit → MCode := fun _ => .seq m_impl_IsMasterLog_1 m_impl_IsMasterLog_22
def m_impl_IsMasterLog : MCode := m_impl_IsMasterLog_23 ()
def h_impl_IsMasterLog : Hints := [(0, [1], [], [], []), (1, [1, 6, 7, 8], [], [], []), (2, [1, 6, 7, 8, 9], [], [], []), (3, [1, 3, 4, 6, 7, 8], [], [], []), (4, [1, 6, 7, 8, 22], [], [], []), (5, [2], [], [], []), (6, [1, 6, 7, 8], [], [], []), (7, [2], [], [], [])]
def r_impl_IsMasterLog : List RV := [.t 2]
abbrev n_impl_IsMasterLog : Nat := 73
theorem k_impl_IsMasterLog : Known Pr mu n_impl_IsMasterLog m_impl_IsMasterLog r_impl_IsMasterLog Go.Proofs.Try.f73.ntmps := .of h_impl_IsMasterLog hm Go.Proofs.Try.func73 (by kernel_rfl) (by kernel_rfl) (by kernel_rfl) (by kernel_rfl)
def m_spec_IsMasterLog_1 : Unit → MCode := fun _ => .region [] [⟨(some 1), .box (.tmp 0), none, []⟩,
    ⟨(some 2), .mv (.const (.bool false)), none, []⟩] [1]
def m_spec_IsMasterLog_2 : Unit → MCode := fun _ => .region [] [⟨(some 3), .mv (.const (.int .i64 0)), none, []⟩] [1, 3]
def m_spec_IsMasterLog_3 : Unit → MCode := fun _ => .region [] [⟨(some 4), .mv (.tmp 3), none, []⟩,
    ⟨(some 5), .fa (.tmp 1) 0, none, []⟩,
    ⟨(some 6), .ld (.tmp 5) 1 false, none, []⟩,
    ⟨(some 7), .len false (.tmp 6), none, []⟩,
    ⟨(some 8), .bin .lss (.tmp 4) (.tmp 7), none, []⟩] [1, 3, 8]
def m_spec_IsMasterLog_4 : Unit → MCode := fun _ => .cond (.tmp 8) (fun _ => .skip) (fun _ => .exit 0)
def m_spec_IsMasterLog_5 : Unit → MCode := fun _ => .seq m_spec_IsMasterLog_3 m_spec_IsMasterLog_4
def m_spec_IsMasterLog_6 : Unit → MCode := fun _ => .region [] [⟨(some 11), .fa (.tmp 1) 0, none, []⟩,
    ⟨(some 12), .ld (.tmp 11) 1 false, none, []⟩,
    ⟨(some 13), .mv (.tmp 3), none, []⟩,
    ⟨(some 14), .ia (.tmp 12) (.tmp 13) 4, none, []⟩,
    ⟨(some 15), .ld (.tmp 14) 4 true, none, []⟩,
    ⟨(some 16), .call 57 [(.tmp 15)], none, []⟩,
    ⟨(some 17), .not (.tmp 16), none, []⟩,
    ⟨(some 18), .mv (.tmp 17), none, []⟩,
    ⟨(some 19), .fa (.tmp 1) 0, (some (18, false)), []⟩,
    ⟨(some 20), .ld (.tmp 19) 1 false, (some (18, false)), []⟩,
    ⟨(some 21), .mv (.tmp 3), (some (18, false)), []⟩,
    ⟨(some 22), .ia (.tmp 20) (.tmp 21) 4, (some (18, false)), []⟩,
    ⟨(some 23), .fa (.tmp 22) 0, (some (18, false)), []⟩,
    ⟨(some 24), .ld (.tmp 23) 1 false, (some (18, false)), []⟩,
    ⟨(some 25), .mv (.tmp 3), (some (18, false)), []⟩,
    ⟨(some 26), .bin .add (.tmp 25) (.const (.int .i64 1)), (some (18, false)), []⟩,
    ⟨(some 27), .bin .neq (.tmp 24) (.tmp 26), (some (18, false)), []⟩,
    ⟨(some 28), .pick (.tmp 18) (.const (.bool true)) (.tmp 27), none, []⟩] [1, 3, 28]
def m_spec_IsMasterLog_7 : Unit → MCode := fun _ => .region [] [⟨(some 2), .mv (.const (.bool false)), none, []⟩] [2]
def m_spec_IsMasterLog_8 : Unit → MCode := fun _ => .seq m_spec_IsMasterLog_7 (fun _ => .ret)
def m_spec_IsMasterLog_9 : Unit → MCode := fun _ => .cond (.tmp 28) m_spec_IsMasterLog_8 (fun _ => .skip)
def m_spec_IsMasterLog_10 : Unit → MCode := fun _ => .seq m_spec_IsMasterLog_6 m_spec_IsMasterLog_9
def m_spec_IsMasterLog_11 : Unit → MCode := fun _ => .block 1 m_spec_IsMasterLog_10
def m_spec_IsMasterLog_12 : Unit → MCode := fun _ => .region [] [⟨(some 9), .mv (.tmp 3), none, []⟩,
    ⟨(some 10), .bin .add (.tmp 9) (.const (.int .i64 1)), none, []⟩,
    ⟨(some 3), .mv (.tmp 10), none, []⟩] [1, 3]
def m_spec_IsMasterLog_13 : Unit → MCode := fun _ => .seq m_spec_IsMasterLog_11 m_spec_IsMasterLog_12
def m_spec_IsMasterLog_14 : Unit → MCode := fun _ => .seq m_spec_IsMasterLog_5 m_spec_IsMasterLog_13
def m_spec_IsMasterLog_15 : Unit → MCode := fun _ => .loop m_spec_IsMasterLog_14
def m_spec_IsMasterLog_16 : Unit → MCode := fun _ => .block 0 m_spec_IsMasterLog_15
def m_spec_IsMasterLog_17 : Unit → MCode := fun _ => .seq m_spec_IsMasterLog_2 m_spec_IsMasterLog_16
def m_spec_IsMasterLog_18 : Unit → MCode := fun _ => .region [] [⟨(some 29), .fa (.tmp 1) 1, none, []⟩,
    ⟨(some 30), .ld (.tmp 29) 1 false, none, []⟩,
    ⟨(some 31), .fa (.tmp 1) 0, none, []⟩,
    ⟨(some 32), .ld (.tmp 31) 1 false, none, []⟩,
    ⟨(some 33), .len false (.tmp 32), none, []⟩,
    ⟨(some 34), .call 81 [(.tmp 30), (.const (.int .i64 0)), (.tmp 33)], none, []⟩,
    ⟨(some 2), .mv (.tmp 34), none, []⟩] [2]
def m_spec_IsMasterLog_19 : Unit → MCode := fun _ => .seq m_spec_IsMasterLog_18 (fun _ => .ret)
def m_spec_IsMasterLog_20 : Unit → MCode := fun _ => .seq m_spec_IsMasterLog_17 m_spec_IsMasterLog_19
def m_spec_IsMasterLog_21 : Unit → MCode := fun _ => .seq m_spec_IsMasterLog_1 m_spec_IsMasterLog_20
def m_spec_IsMasterLog : MCode := m_spec_IsMasterLog_21 ()
def h_spec_IsMasterLog : Hints := [(0, [1], [], [], []), (1, [1, 3], [], [], []), (2, [1, 3, 8], [], [], []), (4, [1, 3, 28], [], [], []), (5, [2], [], [], []), (3, [1, 3], [], [], []), (6, [2], [], [], [])]
def r_spec_IsMasterLog : List RV := [.t 2]
abbrev n_spec_IsMasterLog : Nat := 74
theorem k_spec_IsMasterLog : Known Pr mu n_spec_IsMasterLog m_spec_IsMasterLog r_spec_IsMasterLog Go.Proofs.Try.f74.ntmps := .of h_spec_IsMasterLog hm Go.Proofs.Try.func74 (by kernel_rfl) (by kernel_rfl) (by kernel_rfl) (by kernel_rfl)
def m_laws_szIntS_1 : Unit → MCode := fun _ => .region [] [⟨(some 4), .mv (.const (.int .i64 0)), none, []⟩] [0, 1]
def m_laws_szIntS_2 : Unit → MCode := fun _ => .region [] [⟨(some 5), .mv (.tmp 1), none, []⟩,
    ⟨(some 6), .mv (.tmp 0), none, []⟩,
    ⟨(some 7), .len false (.tmp 6), none, []⟩,
    ⟨(some 8), .bin .sub (.tmp 5) (.tmp 7), none, []⟩,
    ⟨(some 1), .mv (.tmp 8), none, []⟩] [1]
def m_laws_szIntS_3 : Unit → MCode := fun _ => .region [] [⟨(some 9), .mv (.tmp 1), none, []⟩,
    ⟨(some 10), .bin .lss (.tmp 9) (.const (.int .i64 0)), none, []⟩] [1, 10]
def m_laws_szIntS_4 : Unit → MCode := fun _ => .region [] [⟨(some 4), .mv (.const (.int .i64 (-1))), none, []⟩] [4]
def m_laws_szIntS_5 : Unit → MCode := fun _ => .seq m_laws_szIntS_4 (fun _ => .ret)
def m_laws_szIntS_6 : Unit → MCode := fun _ => .cond (.tmp 10) m_laws_szIntS_5 (fun _ => .skip)
def m_laws_szIntS_7 : Unit → MCode := fun _ => .seq m_laws_szIntS_3 m_laws_szIntS_6
def m_laws_szIntS_8 : Unit → MCode := fun _ => .region [] [⟨(some 11), .mv (.tmp 1), none, []⟩,
    ⟨(some 4), .mv (.tmp 11), none, []⟩] [4]
def m_laws_szIntS_9 : Unit → MCode := fun _ => .seq m_laws_szIntS_8 (fun _ => .ret)
def m_laws_szIntS_10 : Unit → MCode := fun _ => .seq m_laws_szIntS_7 m_laws_szIntS_9
def m_laws_szIntS_11 : Unit → MCode := fun _ => .seq m_laws_szIntS_2 m_laws_szIntS_10
def m_laws_szIntS_12 : Unit → MCode := fun _ => .seq m_laws_szIntS_1 m_laws_szIntS_11
def m_laws_szIntS : MCode := m_laws_szIntS_12 ()
def h_laws_szIntS : Hints := [(0, [0, 1], [], [], []), (1, [1], [], [], []), (2, [1, 10], [], [], []), (3, [4], [], [], []), (4, [4], [], [], [])]
def r_laws_szIntS : List RV := [.t 4]
abbrev n_laws_szIntS : Nat := 75
theorem k_laws_szIntS : Known Pr mu n_laws_szIntS m_laws_szIntS r_laws_szIntS Go.Proofs.Try.f75.ntmps := .of h_laws_szIntS hm Go.Proofs.Try.func75 (by kernel_rfl) (by kernel_rfl) (by kernel_rfl) (by kernel_rfl)
def m_laws_toIntS_1 : Unit → MCode := fun _ => .region [] [⟨(some 2), .mv (.const (.slice none 0 0)), none, []⟩] [0]
def m_laws_toIntS_2 : Unit → MCode := fun _ => .region [] [⟨(some 5), .mv (.tmp 0), none, []⟩,
    ⟨(some 6), .len false (.tmp 5), none, []⟩,
    ⟨(some 7), .mks 1 8 [.int .i64 0] (.tmp 6) (.tmp 6), none, []⟩,
    ⟨(some 3), .mv (.tmp 7), none, []⟩] [0, 3]
def m_laws_toIntS_3 : Unit → MCode := fun _ => .region [] [⟨(some 4), .mv (.const (.int .i64 0)), none, []⟩] [0, 3, 4]
def m_laws_toIntS_4 : Unit → MCode := fun _ => .region [] [⟨(some 8), .mv (.tmp 4), none, []⟩,
    ⟨(some 9), .mv (.tmp 0), none, []⟩,
    ⟨(some 10), .len false (.tmp 9), none, []⟩,
    ⟨(some 11), .bin .lss (.tmp 8) (.tmp 10), none, []⟩] [0, 3, 4, 11]
def m_laws_toIntS_5 : Unit → MCode := fun _ => .cond (.tmp 11) (fun _ => .skip) (fun _ => .exit 0)
def m_laws_toIntS_6 : Unit → MCode := fun _ => .seq m_laws_toIntS_4 m_laws_toIntS_5
def m_laws_toIntS_7 : Unit → MCode := fun _ => .region [] [⟨(some 14), .mv (.tmp 3), none, []⟩,
    ⟨(some 15), .mv (.tmp 4), none, []⟩,
    ⟨(some 16), .mv (.tmp 0), none, []⟩,
    ⟨(some 17), .mv (.tmp 4), none, []⟩,
    ⟨(some 18), .ia (.tmp 16) (.tmp 17) 1, none, []⟩,
    ⟨(some 19), .ld (.tmp 18) 1 false, none, []⟩,
    ⟨(some 20), .ia (.tmp 14) (.tmp 15) 1, none, []⟩,
    ⟨none, .sto (.tmp 20) (.tmp 19) 1, none, []⟩] [0, 3, 4]
def m_laws_toIntS_8 : Unit → MCode := fun _ => .block 1 m_laws_toIntS_7
def m_laws_toIntS_9 : Unit → MCode := fun _ => .region [] [⟨(some 12), .mv (.tmp 4), none, []⟩,
    ⟨(some 13), .bin .add (.tmp 12) (.const (.int .i64 1)), none, []⟩,
    ⟨(some 4), .mv (.tmp 13), none, []⟩] [0, 3, 4]
def m_laws_toIntS_10 : Unit → MCode := fun _ => .seq m_laws_toIntS_8 m_laws_toIntS_9
def m_laws_toIntS_11 : Unit → MCode := fun _ => .seq m_laws_toIntS_6 m_laws_toIntS_10
def m_laws_toIntS_12 : Unit → MCode := fun _ => .loop m_laws_toIntS_11
def m_laws_toIntS_13 : Unit → MCode := fun _ => .block 0 m_laws_toIntS_12
def m_laws_toIntS_14 : Unit → MCode := fun _ => .seq m_laws_toIntS_3 m_laws_toIntS_13
def m_laws_toIntS_15 : Unit → MCode := fun _ => .region [] [⟨(some 21), .mv (.tmp 3), none, []⟩,
    ⟨(some 2), .mv (.tmp 21), none, []⟩] [2]
def m_laws_toIntS_16 : Unit → MCode := fun _ => .seq m_laws_toIntS_15 (fun _ => .ret)
def m_laws_toIntS_17 : Unit → MCode := fun _ => .seq m_laws_toIntS_14 m_laws_toIntS_16
def m_laws_toIntS_18 : Unit → MCode := fun _ => .seq m_laws_toIntS_2 m_laws_toIntS_17
def m_laws_toIntS_19 : Unit → MCode := fun _ => .seq m_laws_toIntS_1 m_laws_toIntS_18
def m_laws_toIntS : MCode := m_laws_toIntS_19 ()
def h_laws_toIntS : Hints := [(0, [0], [], [], []), (1, [0, 3], [], [], []), (2, [0, 3, 4], [], [], []), (3, [0, 3, 4, 11], [], [], []), (5, [0, 3, 4], [], [], []), (4, [0, 3, 4], [], [], []), (6, [2], [], [], [])]
def r_laws_toIntS : List RV := [.t 2]
abbrev n_laws_toIntS : Nat := 77
theorem k_laws_toIntS : Known Pr mu n_laws_toIntS m_laws_toIntS r_laws_toIntS Go.Proofs.Try.f77.ntmps := .of h_laws_toIntS hm Go.Proofs.Try.func77 (by kernel_rfl) (by kernel_rfl) (by kernel_rfl) (by kernel_rfl)
def m_spec_l1In_1 : Unit → MCode := fun _ => .region [] [⟨(some 6), .mv (.const (.bool false)), none, []⟩] [0, 1, 2]
def m_spec_l1In_2 : Unit → MCode := fun _ => .region [] [⟨(some 7), .mv (.tmp 0), none, []⟩,
    ⟨(some 8), .mv (.tmp 1), none, []⟩,
    ⟨(some 9), .bin .geq (.tmp 7) (.tmp 8), none, []⟩,
    ⟨(some 10), .mv (.tmp 9), none, []⟩,
    ⟨(some 11), .mv (.tmp 0), (some (10, true)), []⟩,
    ⟨(some 12), .mv (.tmp 2), (some (10, true)), []⟩,
    ⟨(some 13), .bin .leq (.tmp 11) (.tmp 12), (some (10, true)), []⟩,
    ⟨(some 14), .pick (.tmp 10) (.tmp 13) (.const (.bool false)), none, []⟩,
    ⟨(some 6), .mv (.tmp 14), none, []⟩] [6]
def m_spec_l1In_3 : Unit → MCode := fun _ => .seq m_spec_l1In_2 (fun _ => .ret)
def m_spec_l1In_4 : Unit → MCode := fun _ => .seq m_spec_l1In_1 m_spec_l1In_3
def m_spec_l1In : MCode := m_spec_l1In_4 ()
def h_spec_l1In : Hints := [(0, [0, 1, 2], [], [], []), (1, [6], [], [], [])]
def r_spec_l1In : List RV := [.t 6]
abbrev n_spec_l1In : Nat := 81
theorem k_spec_l1In : Known Pr mu n_spec_l1In m_spec_l1In r_spec_l1In Go.Proofs.Try.f81.ntmps := .of h_spec_l1In hm Go.Proofs.Try.func81 (by kernel_rfl) (by kernel_rfl) (by kernel_rfl) (by kernel_rfl)
def m_spec_l8Copy_1 : Unit → MCode := fun _ => .region [] [⟨(some 1), .box (.tmp 0), none, []⟩,
    ⟨(some 2), .alloc [.int .i64 0, .int .i64 0, .slice none 0 0, .slice none 0 0], none, []⟩] [1, 2]
def m_spec_l8Copy_2 : Unit → MCode := fun _ => .region [] [⟨(some 3), .fa (.tmp 1) 0, none, []⟩,
    ⟨(some 4), .ld (.tmp 3) 1 false, none, []⟩,
    ⟨(some 5), .fa (.tmp 1) 1, none, [0, 1]⟩,
    ⟨(some 6), .ld (.tmp 5) 1 false, none, [0, 1]⟩,
    ⟨(some 7), .bsl 1 0 [.int .i64 0] [], none, []⟩,
    ⟨(some 8), .fa (.tmp 1) 2, none, [0, 1, 2, 3, 4]⟩,
    ⟨(some 9), .ld (.tmp 8) 1 false, none, [0, 1, 2, 3, 4]⟩,
    ⟨(some 10), .appn (.tmp 7) (.tmp 9) 1 8, none, [1000000, 0, 1, 2, 3]⟩,
    ⟨(some 11), .bsl 1 0 [.int .i64 0] [], none, []⟩,
    ⟨(some 12), .fa (.tmp 1) 3, none, [0, 1, 2, 3, 4, 5, 6, 7, 8]⟩,
    ⟨(some 13), .ld (.tmp 12) 1 false, none, [0, 1, 2, 3, 4, 5, 6, 7, 8]⟩,
    ⟨(some 14), .appn (.tmp 11) (.tmp 13) 1 8, none, [1000000, 0, 1, 2, 3]⟩,
    ⟨(some 15), .bld [.int .i64 0, .int .i64 0, .slice none 0 0, .slice none 0 0] [(0, 1, (.tmp 4)), (1, 1, (.tmp 6)), (2, 1, (.tmp 10)), (3, 1, (.tmp 14))], none, []⟩,
    ⟨none, .sto (.tmp 2) (.tmp 15) 4, none, []⟩] [2]
def m_spec_l8Copy_3 : Unit → MCode := fun _ => .seq m_spec_l8Copy_2 (fun _ => .ret)
def m_spec_l8Copy_4 : Unit → MCode := fun _ => .seq m_spec_l8Copy_1 m_spec_l8Copy_3
def m_spec_l8Copy : MCode := m_spec_l8Copy_4 ()
def h_spec_l8Copy : Hints := [(0, [1, 2], [], [], []), (1, [2], [[], [], [0, 1], [0, 1], [], [0, 1, 2, 3, 4], [0, 1, 2, 3, 4], [1000000, 0, 1, 2, 3], [], [0, 1, 2, 3, 4, 5, 6, 7, 8], [0, 1, 2, 3, 4, 5, 6, 7, 8], [1000000, 0, 1, 2, 3]], [], [])]
def r_spec_l8Copy : List RV := [.c 2 4 true]
abbrev n_spec_l8Copy : Nat := 83
theorem k_spec_l8Copy : Known Pr mu n_spec_l8Copy m_spec_l8Copy r_spec_l8Copy Go.Proofs.Try.f83.ntmps := .of h_spec_l8Copy hm Go.Proofs.Try.func83 (by kernel_rfl) (by kernel_rfl) (by kernel_rfl) (by kernel_rfl)
def m_impl_within_1 : Unit → MCode := fun _ => .region [] [⟨(some 6), .mv (.const (.bool false)), none, []⟩] [0, 1, 2]
def m_impl_within_2 : Unit → MCode := fun _ => .region [] [⟨(some 7), .mv (.tmp 1), none, []⟩,
    ⟨(some 8), .mv (.tmp 0), none, []⟩,
    ⟨(some 9), .bin .leq (.tmp 7) (.tmp 8), none, []⟩,
    ⟨(some 10), .mv (.tmp 9), none, []⟩,
    ⟨(some 11), .mv (.tmp 0), (some (10, true)), []⟩,
    ⟨(some 12), .mv (.tmp 2), (some (10, true)), []⟩,
    ⟨(some 13), .bin .leq (.tmp 11) (.tmp 12), (some (10, true)), []⟩,
    ⟨(some 14), .pick (.tmp 10) (.tmp 13) (.const (.bool false)), none, []⟩,
    ⟨(some 6), .mv (.tmp 14), none, []⟩] [6]
def m_impl_within_3 : Unit → MCode := fun _ => .seq m_impl_within_2 (fun _ => .ret)
def m_impl_within_4 : Unit → MCode := fun _ => .seq m_impl_within_1 m_impl_within_3
def m_impl_within : MCode := m_impl_within_4 ()
def h_impl_within : Hints := [(0, [0, 1, 2], [], [], []), (1, [6], [], [], [])]
def r_impl_within : List RV := [.t 6]
abbrev n_impl_within : Nat := 84
theorem k_impl_within : Known Pr mu n_impl_within m_impl_within r_impl_within Go.Proofs.Try.f84.ntmps := .of h_impl_within hm Go.Proofs.Try.func84 (by kernel_rfl) (by kernel_rfl) (by kernel_rfl) (by kernel_rfl)
def m_impl_configCopy_1 : Unit → MCode := fun _ => .region [] [⟨(some 1), .box (.tmp 0), none, []⟩,
    ⟨(some 2), .alloc [.int .i64 0, .int .i64 0, .slice none 0 0, .slice none 0 0], none, []⟩] [1, 2]
def m_impl_configCopy_2 : Unit → MCode := fun _ => .region [] [⟨(some 3), .fa (.tmp 1) 0, none, []⟩,
    ⟨(some 4), .ld (.tmp 3) 1 false, none, []⟩,
    ⟨(some 5), .fa (.tmp 1) 1, none, [0, 1]⟩,
    ⟨(some 6), .ld (.tmp 5) 1 false, none, [0, 1]⟩,
    ⟨(some 7), .bsl 1 0 [.int .i64 0] [], none, []⟩,
    ⟨(some 8), .fa (.tmp 1) 2, none, [0, 1, 2, 3, 4]⟩,
    ⟨(some 9), .ld (.tmp 8) 1 false, none, [0, 1, 2, 3, 4]⟩,
    ⟨(some 10), .appn (.tmp 7) (.tmp 9) 1 8, none, [1000000, 0, 1, 2, 3]⟩,
    ⟨(some 11), .bsl 1 0 [.int .i64 0] [], none, []⟩,
    ⟨(some 12), .fa (.tmp 1) 3, none, [0, 1, 2, 3, 4, 5, 6, 7, 8]⟩,
    ⟨(some 13), .ld (.tmp 12) 1 false, none, [0, 1, 2, 3, 4, 5, 6, 7, 8]⟩,
    ⟨(some 14), .appn (.tmp 11) (.tmp 13) 1 8, none, [1000000, 0, 1, 2, 3]⟩,
    ⟨(some 15), .bld [.int .i64 0, .int .i64 0, .slice none 0 0, .slice none 0 0] [(0, 1, (.tmp 4)), (1, 1, (.tmp 6)), (2, 1, (.tmp 10)), (3, 1, (.tmp 14))], none, []⟩,
    ⟨none, .sto (.tmp 2) (.tmp 15) 4, none, []⟩] [2]
def m_impl_configCopy_3 : Unit → MCode := fun _ => .seq m_impl_configCopy_2 (fun _ => .ret)
def m_impl_configCopy_4 : Unit → MCode := fun _ => .seq m_impl_configCopy_1 m_impl_configCopy_3
def m_impl_configCopy : MCode := m_impl_configCopy_4 ()
def h_impl_configCopy : Hints := [(0, [1, 2], [], [], []), (1, [2], [[], [], [0, 1], [0, 1], [], [0, 1, 2, 3, 4], [0, 1, 2, 3, 4], [1000000, 0, 1, 2, 3], [], [0, 1, 2, 3, 4, 5, 6, 7, 8], [0, 1, 2, 3, 4, 5, 6, 7, 8], [1000000, 0, 1, 2, 3]], [], [])]
def r_impl_configCopy : List RV := [.c 2 4 true]
abbrev n_impl_configCopy : Nat := 86
theorem k_impl_configCopy : Known Pr mu n_impl_configCopy m_impl_configCopy r_impl_configCopy Go.Proofs.Try.f86.ntmps := .of h_impl_configCopy hm Go.Proofs.Try.func86 (by kernel_rfl) (by kernel_rfl) (by kernel_rfl) (by kernel_rfl)
def m_laws_szConfigS_1 : Unit → MCode := fun _ => .region [] [⟨(some 4), .mv (.const (.int .i64 0)), none, []⟩] [0, 1]
def m_laws_szConfigS_2 : Unit → MCode := fun _ => .region [] [⟨(some 6), .mv (.tmp 1), none, []⟩,
    ⟨(some 7), .mv (.tmp 0), none, []⟩,
    ⟨(some 8), .len false (.tmp 7), none, []⟩,
    ⟨(some 9), .bin .sub (.tmp 6) (.tmp 8), none, []⟩,
    ⟨(some 1), .mv (.tmp 9), none, []⟩] [0, 1]
def m_laws_szConfigS_3 : Unit → MCode := fun _ => .region [] [⟨(some 10), .mv (.tmp 1), none, []⟩,
    ⟨(some 11), .bin .lss (.tmp 10) (.const (.int .i64 0)), none, []⟩] [0, 1, 11]
def m_laws_szConfigS_4 : Unit → MCode := fun _ => .region [] [⟨(some 4), .mv (.const (.int .i64 (-1))), none, []⟩] [4]
def m_laws_szConfigS_5 : Unit → MCode := fun _ => .seq m_laws_szConfigS_4 (fun _ => .ret)
def m_laws_szConfigS_6 : Unit → MCode := fun _ => .cond (.tmp 11) m_laws_szConfigS_5 (fun _ => .skip)
def m_laws_szConfigS_7 : Unit → MCode := fun _ => .seq m_laws_szConfigS_3 m_laws_szConfigS_6
def m_laws_szConfigS_8 : Unit → MCode := fun _ => .region [] [⟨(some 5), .mv (.const (.int .i64 0)), none, []⟩] [0, 1, 5]
def m_laws_szConfigS_9 : Unit → MCode := fun _ => .region [] [⟨(some 12), .mv (.tmp 5), none, []⟩,
    ⟨(some 13), .mv (.tmp 0), none, []⟩,
    ⟨(some 14), .len false (.tmp 13), none, []⟩,
    ⟨(some 15), .bin .lss (.tmp 12) (.tmp 14), none, []⟩] [0, 1, 5, 15]
def m_laws_szConfigS_10 : Unit → MCode := fun _ => .cond (.tmp 15) (fun _ => .skip) (fun _ => .exit 0)
def m_laws_szConfigS_11 : Unit → MCode := fun _ => .seq m_laws_szConfigS_9 m_laws_szConfigS_10
def m_laws_szConfigS_12 : Unit → MCode := fun _ => .region [] [⟨(some 18), .mv (.tmp 0), none, []⟩,
    ⟨(some 19), .mv (.tmp 5), none, []⟩,
    ⟨(some 20), .ia (.tmp 18) (.tmp 19) 4, none, []⟩,
    ⟨(some 21), .ld (.tmp 20) 4 true, none, []⟩,
    ⟨(some 22), .mv (.tmp 1), none, []⟩,
    ⟨(some 23), .call 15 [(.tmp 21), (.tmp 22)], none, []⟩,
    ⟨(some 1), .mv (.tmp 23), none, []⟩] [0, 1, 5]
def m_laws_szConfigS_13 : Unit → MCode := fun _ => .region [] [⟨(some 24), .mv (.tmp 1), none, []⟩,
    ⟨(some 25), .bin .lss (.tmp 24) (.const (.int .i64 0)), none, []⟩] [0, 1, 5, 25]
def m_laws_szConfigS_14 : Unit → MCode := fun _ => .region [] [⟨(some 4), .mv (.const (.int .i64 (-1))), none, []⟩] [4]
def m_laws_szConfigS_15 : Unit → MCode := fun _ => .seq m_laws_szConfigS_14 (fun _ => .ret)
def m_laws_szConfigS_16 : Unit → MCode := fun _ => .cond (.tmp 25) m_laws_szConfigS_15 (fun _ => .skip)
def m_laws_szConfigS_17 : Unit → MCode := fun _ => .seq m_laws_szConfigS_13 m_laws_szConfigS_16
def m_laws_szConfigS_18 : Unit → MCode := fun _ => .seq m_laws_szConfigS_12 m_laws_szConfigS_17
def m_laws_szConfigS_19 : Unit → MCode := fun _ => .block 1 m_laws_szConfigS_18
def m_laws_szConfigS_20 : Unit → MCode := fun _ => .region [] [⟨(some 16), .mv (.tmp 5), none, []⟩,
    ⟨(some 17), .bin .add (.tmp 16) (.const (.int .i64 1)), none, []⟩,
    ⟨(some 5), .mv (.tmp 17), none, []⟩] [0, 1, 5]
def m_laws_szConfigS_21 : Unit → MCode := fun _ => .seq m_laws_szConfigS_19 m_laws_szConfigS_20
def m_laws_szConfigS_22 : Unit → MCode := fun _ => .seq m_laws_szConfigS_11 m_laws_szConfigS_21
def m_laws_szConfigS_23 : Unit → MCode := fun _ => .loop m_laws_szConfigS_22
def m_laws_szConfigS_24 : Unit → MCode := fun _ => .block 0 m_laws_szConfigS_23
def m_laws_szConfigS_25 : Unit → MCode := fun _ => .seq m_laws_szConfigS_8 m_laws_szConfigS_24
def m_laws_szConfigS_26 : Unit → MCode := fun _ => .region [] [⟨(some 26), .mv (.tmp 1), none, []⟩,
    ⟨(some 4), .mv (.tmp 26), none, []⟩] [4]
def m_laws_szConfigS_27 : Unit → MCode := fun _ => .seq m_laws_szConfigS_26 (fun _ => .ret)
def m_laws_szConfigS_28 : Unit → MCode := fun _ => .seq m_laws_szConfigS_25 m_laws_szConfigS_27
def m_laws_szConfigS_29 : Unit → MCode := fun _ => .seq m_laws_szConfigS_7 m_laws_szConfigS_28
def m_laws_szConfigS_30 : Unit → MCode := fun _ => .seq m_laws_szConfigS_2 m_laws_szConfigS_29
def m_laws_szConfigS_31 : Unit → MCode := fun _ => .seq m_laws_szConfigS_1 m_laws_szConfigS_30
def m_laws_szConfigS : MCode := m_laws_szConfigS_31 ()
def h_laws_szConfigS : Hints := [(0, [0, 1], [], [], []), (1, [0, 1], [], [], []), (2, [0, 1, 11], [], [], []), (3, [4], [], [], []), (4, [0, 1, 5], [], [], []), (5, [0, 1, 5, 15], [], [], []), (7, [0, 1, 5], [], [], []), (8, [0, 1, 5, 25], [], [], []), (9, [4], [], [], []), (6, [0, 1, 5], [], [], []), (10, [4], [], [], [])]
def r_laws_szConfigS : List RV := [.t 4]
abbrev n_laws_szConfigS : Nat := 87
theorem k_laws_szConfigS : Known Pr mu n_laws_szConfigS m_laws_szConfigS r_laws_szConfigS Go.Proofs.Try.f87.ntmps := .of h_laws_szConfigS hm Go.Proofs.Try.func87 (by kernel_rfl) (by kernel_rfl) (by kernel_rfl) (by kernel_rfl)
def m_laws_toConfigS_1 : Unit → MCode := fun _ => .region [] [⟨(some 2), .mv (.const (.slice none 0 0)), none, []⟩] [0]
def m_laws_toConfigS_2 : Unit → MCode := fun _ => .region [] [⟨(some 5), .mv (.tmp 0), none, []⟩,
    ⟨(some 6), .len false (.tmp 5), none, []⟩,
    ⟨(some 7), .mks 4 64 [.int .i64 0, .int .i64 0, .slice none 0 0, .slice none 0 0] (.tmp 6) (.tmp 6), none, []⟩,
    ⟨(some 3), .mv (.tmp 7), none, []⟩] [0, 3]
def m_laws_toConfigS_3 : Unit → MCode := fun _ => .region [] [⟨(some 4), .mv (.const (.int .i64 0)), none, []⟩] [0, 3, 4]
def m_laws_toConfigS_4 : Unit → MCode := fun _ => .region [] [⟨(some 8), .mv (.tmp 4), none, []⟩,
    ⟨(some 9), .mv (.tmp 0), none, []⟩,
    ⟨(some 10), .len false (.tmp 9), none, []⟩,
    ⟨(some 11), .bin .lss (.tmp 8) (.tmp 10), none, []⟩] [0, 3, 4, 11]
def m_laws_toConfigS_5 : Unit → MCode := fun _ => .cond (.tmp 11) (fun _ => .skip) (fun _ => .exit 0)
def m_laws_toConfigS_6 : Unit → MCode := fun _ => .seq m_laws_toConfigS_4 m_laws_toConfigS_5
def m_laws_toConfigS_7 : Unit → MCode := fun _ => .region [] [⟨(some 14), .mv (.tmp 3), none, []⟩,
    ⟨(some 15), .mv (.tmp 4), none, []⟩,
    ⟨(some 16), .mv (.tmp 0), none, []⟩,
    ⟨(some 17), .mv (.tmp 4), none, []⟩,
    ⟨(some 18), .ia (.tmp 16) (.tmp 17) 4, none, []⟩,
    ⟨(some 19), .ld (.tmp 18) 4 true, none, []⟩,
    ⟨(some 20), .call 17 [(.tmp 19)], none, []⟩,
    ⟨(some 21), .ia (.tmp 14) (.tmp 15) 4, none, []⟩,
    ⟨none, .sto (.tmp 21) (.tmp 20) 4, none, []⟩] [0, 3, 4]
def m_laws_toConfigS_8 : Unit → MCode := fun _ => .block 1 m_laws_toConfigS_7
def m_laws_toConfigS_9 : Unit → MCode := fun _ => .region [] [⟨(some 12), .mv (.tmp 4), none, []⟩,
    ⟨(some 13), .bin .add (.tmp 12) (.const (.int .i64 1)), none, []⟩,
    ⟨(some 4), .mv (.tmp 13), none, []⟩] [0, 3, 4]
def m_laws_toConfigS_10 : Unit → MCode := fun _ => .seq m_laws_toConfigS_8 m_laws_toConfigS_9
def m_laws_toConfigS_11 : Unit → MCode := fun _ => .seq m_laws_toConfigS_6 m_laws_toConfigS_10
def m_laws_toConfigS_12 : Unit → MCode := fun _ => .loop m_laws_toConfigS_11
def m_laws_toConfigS_13 : Unit → MCode := fun _ => .block 0 m_laws_toConfigS_12
def m_laws_toConfigS_14 : Unit → MCode := fun _ => .seq m_laws_toConfigS_3 m_laws_toConfigS_13
def m_laws_toConfigS_15 : Unit → MCode := fun _ => .region [] [⟨(some 22), .mv (.tmp 3), none, []⟩,
    ⟨(some 2), .mv (.tmp 22), none, []⟩] [2]
def m_laws_toConfigS_16 : Unit → MCode := fun _ => .seq m_laws_toConfigS_15 (fun _ => .ret)
def m_laws_toConfigS_17 : Unit → MCode := fun _ => .seq m_laws_toConfigS_14 m_laws_toConfigS_16
def m_laws_toConfigS_18 : Unit → MCode := fun _ => .seq m_laws_toConfigS_2 m_laws_toConfigS_17
def m_laws_toConfigS_19 : Unit → MCode := fun _ => .seq m_laws_toConfigS_1 m_laws_toConfigS_18
def m_laws_toConfigS : MCode := m_laws_toConfigS_19 ()
def h_laws_toConfigS : Hints := [(0, [0], [], [], []), (1, [0, 3], [], [], []), (2, [0, 3, 4], [], [], []), (3, [0, 3, 4, 11], [], [], []), (5, [0, 3, 4], [], [], []), (4, [0, 3, 4], [], [], []), (6, [2], [], [], [])]
def r_laws_toConfigS : List RV := [.t 2]
abbrev n_laws_toConfigS : Nat := 88
theorem k_laws_toConfigS : Known Pr mu n_laws_toConfigS m_laws_toConfigS r_laws_toConfigS Go.Proofs.Try.f88.ntmps := .of h_laws_toConfigS hm Go.Proofs.Try.func88 (by kernel_rfl) (by kernel_rfl) (by kernel_rfl) (by kernel_rfl)
def m_laws_eqConfigS_1 : Unit → MCode := fun _ => .region [] [⟨(some 4), .mv (.const (.bool false)), none, []⟩] [0, 1]
def m_laws_eqConfigS_2 : Unit → MCode := fun _ => .region [] [⟨(some 6), .mv (.tmp 0), none, []⟩,
    ⟨(some 7), .len false (.tmp 6), none, []⟩,
    ⟨(some 8), .mv (.tmp 1), none, []⟩,
    ⟨(some 9), .len false (.tmp 8), none, []⟩,
    ⟨(some 10), .bin .neq (.tmp 7) (.tmp 9), none, []⟩] [0, 1, 10]
def m_laws_eqConfigS_3 : Unit → MCode := fun _ => .region [] [⟨(some 4), .mv (.const (.bool false)), none, []⟩] [4]
def m_laws_eqConfigS_4 : Unit → MCode := fun _ => .seq m_laws_eqConfigS_3 (fun _ => .ret)
def m_laws_eqConfigS_5 : Unit → MCode := fun _ => .cond (.tmp 10) m_laws_eqConfigS_4 (fun _ => .skip)
def m_laws_eqConfigS_6 : Unit → MCode := fun _ => .seq m_laws_eqConfigS_2 m_laws_eqConfigS_5
def m_laws_eqConfigS_7 : Unit → MCode := fun _ => .region [] [⟨(some 5), .mv (.const (.int .i64 0)), none, []⟩] [0, 1, 5]
def m_laws_eqConfigS_8 : Unit → MCode := fun _ => .region [] [⟨(some 11), .mv (.tmp 5), none, []⟩,
    ⟨(some 12), .mv (.tmp 0), none, []⟩,
    ⟨(some 13), .len false (.tmp 12), none, []⟩,
    ⟨(some 14), .bin .lss (.tmp 11) (.tmp 13), none, []⟩] [0, 1, 5, 14]
def m_laws_eqConfigS_9 : Unit → MCode := fun _ => .cond (.tmp 14) (fun _ => .skip) (fun _ => .exit 0)
def m_laws_eqConfigS_10 : Unit → MCode := fun _ => .seq m_laws_eqConfigS_8 m_laws_eqConfigS_9
def m_laws_eqConfigS_11 : Unit → MCode := fun _ => .region [] [⟨(some 17), .mv (.tmp 0), none, []⟩,
    ⟨(some 18), .mv (.tmp 5), none, []⟩,
    ⟨(some 19), .ia (.tmp 17) (.tmp 18) 4, none, []⟩,
    ⟨(some 20), .ld (.tmp 19) 4 true, none, []⟩,
    ⟨(some 21), .mv (.tmp 1), none, []⟩,
    ⟨(some 22), .mv (.tmp 5), none, []⟩,
    ⟨(some 23), .ia (.tmp 21) (.tmp 22) 4, none, [0, 1, 2, 3]⟩,
    ⟨(some 24), .ld (.tmp 23) 4 true, none, [0, 1, 2, 3]⟩,
    ⟨(some 25), .call 20 [(.tmp 20), (.tmp 24)], none, []⟩,
    ⟨(some 26), .not (.tmp 25), none, []⟩] [0, 1, 5, 26]
def m_laws_eqConfigS_12 : Unit → MCode := fun _ => .region [] [⟨(some 4), .mv (.const (.bool false)), none, []⟩] [4]
def m_laws_eqConfigS_13 : Unit → MCode := fun _ => .seq m_laws_eqConfigS_12 (fun _ => .ret)
def m_laws_eqConfigS_14 : Unit → MCode := fun _ => .cond (.tmp 26) m_laws_eqConfigS_13 (fun _ => .skip)
def m_laws_eqConfigS_15 : Unit → MCode := fun _ => .seq m_laws_eqConfigS_11 m_laws_eqConfigS_14
def m_laws_eqConfigS_16 : Unit → MCode := fun _ => .block 1 m_laws_eqConfigS_15
def m_laws_eqConfigS_17 : Unit → MCode := fun _ => .region [] [⟨(some 15), .mv (.tmp 5), none, []⟩,
    ⟨(some 16), .bin .add (.tmp 15) (.const (.int .i64 1)), none, []⟩,
    ⟨(some 5), .mv (.tmp 16), none, []⟩] [0, 1, 5]
def m_laws_eqConfigS_18 : Unit → MCode := fun _ => .seq m_laws_eqConfigS_16 m_laws_eqConfigS_17
def m_laws_eqConfigS_19 : Unit → MCode := fun _ => .seq m_laws_eqConfigS_10 m_laws_eqConfigS_18
def m_laws_eqConfigS_20 : Unit → MCode := fun _ => .loop m_laws_eqConfigS_19
def m_laws_eqConfigS_21 : Unit → MCode := fun _ => .block 0 m_laws_eqConfigS_20
def m_laws_eqConfigS_22 : Unit → MCode := fun _ => .seq m_laws_eqConfigS_7 m_laws_eqConfigS_21
def m_laws_eqConfigS_23 : Unit → MCode := fun _ => .region [] [⟨(some 4), .mv (.const (.bool true)), none, []⟩] [4]
def m_laws_eqConfigS_24 : Unit → MCode := fun _ => .seq m_laws_eqConfigS_23 (fun _ => .ret)
def m_laws_eqConfigS_25 : Unit → MCode := fun _ => .seq m_laws_eqConfigS_22 m_laws_eqConfigS_24
def m_laws_eqConfigS_26 : Unit → MCode := fun _ => .seq m_laws_eqConfigS_6 m_laws_eqConfigS_25
def m_laws_eqConfigS_27 : Unit → MCode := fun _ => .seq m_laws_eqConfigS_1 m_laws_eqConfigS_26
def m_laws_eqConfigS : MCode := m_laws_eqConfigS_27 ()
def h_laws_eqConfigS : Hints := [(0, [0, 1], [], [], []), (1, [0, 1, 10], [], [], []), (2, [4], [], [], []), (3, [0, 1, 5], [], [], []), (4, [0, 1, 5, 14], [], [], []), (6, [0, 1, 5, 26], [[], [], [], [], [], [], [0, 1, 2, 3], [0, 1, 2, 3]], [], []), (7, [4], [], [], []), (5, [0, 1, 5], [], [], []), (8, [4], [], [], [])]
def r_laws_eqConfigS : List RV := [.t 4]
abbrev n_laws_eqConfigS : Nat := 89
theorem k_laws_eqConfigS : Known Pr mu n_laws_eqConfigS m_laws_eqConfigS r_laws_eqConfigS Go.Proofs.Try.f89.ntmps := .of h_laws_eqConfigS hm Go.Proofs.Try.func89 (by kernel_rfl) (by kernel_rfl) (by kernel_rfl) (by kernel_rfl)
def m_laws_markConfigS_1 : Unit → MCode := fun _ => .region [] [⟨(some 4), .mv (.const (.int .i64 0)), none, []⟩] [0, 1]
def m_laws_markConfigS_2 : Unit → MCode := fun _ => .region [] [⟨(some 5), .mv (.const (.int .i64 0)), none, []⟩] [0, 1, 5]
def m_laws_markConfigS_3 : Unit → MCode := fun _ => .region [] [⟨(some 6), .mv (.tmp 5), none, []⟩,
    ⟨(some 7), .mv (.tmp 0), none, []⟩,
    ⟨(some 8), .len false (.tmp 7), none, []⟩,
    ⟨(some 9), .bin .lss (.tmp 6) (.tmp 8), none, []⟩] [0, 1, 5, 9]
def m_laws_markConfigS_4 : Unit → MCode := fun _ => .cond (.tmp 9) (fun _ => .skip) (fun _ => .exit 0)
def m_laws_markConfigS_5 : Unit → MCode := fun _ => .seq m_laws_markConfigS_3 m_laws_markConfigS_4
def m_laws_markConfigS_6 : Unit → MCode := fun _ => .region [] [⟨(some 12), .mv (.tmp 0), none, []⟩,
    ⟨(some 13), .mv (.tmp 5), none, []⟩,
    ⟨(some 14), .mv (.tmp 1), none, []⟩,
    ⟨(some 15), .ia (.tmp 12) (.tmp 13) 4, none, []⟩,
    ⟨(some 16), .fa (.tmp 15) 0, none, []⟩,
    ⟨none, .sto (.tmp 16) (.tmp 14) 1, none, []⟩] [0, 1, 5]
def m_laws_markConfigS_7 : Unit → MCode := fun _ => .region [] [⟨(some 17), .mv (.tmp 1), none, []⟩,
    ⟨(some 18), .bin .add (.tmp 17) (.const (.int .i64 1)), none, []⟩,
    ⟨(some 1), .mv (.tmp 18), none, []⟩] [0, 1, 5]
def m_laws_markConfigS_8 : Unit → MCode := fun _ => .region [] [⟨(some 19), .mv (.tmp 0), none, []⟩,
    ⟨(some 20), .mv (.tmp 5), none, []⟩,
    ⟨(some 21), .mv (.tmp 1), none, []⟩,
    ⟨(some 22), .ia (.tmp 19) (.tmp 20) 4, none, []⟩,
    ⟨(some 23), .fa (.tmp 22) 1, none, []⟩,
    ⟨none, .sto (.tmp 23) (.tmp 21) 1, none, []⟩] [0, 1, 5]
def m_laws_markConfigS_9 : Unit → MCode := fun _ => .region [] [⟨(some 24), .mv (.tmp 1), none, []⟩,
    ⟨(some 25), .bin .add (.tmp 24) (.const (.int .i64 1)), none, []⟩,
    ⟨(some 1), .mv (.tmp 25), none, []⟩] [0, 1, 5]
def m_laws_markConfigS_10 : Unit → MCode := fun _ => .region [] [⟨(some 26), .mv (.tmp 0), none, []⟩,
    ⟨(some 27), .mv (.tmp 5), none, []⟩,
    ⟨(some 28), .ia (.tmp 26) (.tmp 27) 4, none, []⟩,
    ⟨(some 29), .fa (.tmp 28) 2, none, []⟩,
    ⟨(some 30), .ld (.tmp 29) 1 false, none, []⟩,
    ⟨(some 31), .mv (.tmp 1), none, []⟩,
    ⟨(some 32), .callm 22 [(.tmp 30), (.tmp 31)], none, []⟩,
    ⟨(some 1), .mv (.tmp 32), none, []⟩] [0, 1, 5]
def m_laws_markConfigS_11 : Unit → MCode := fun _ => .region [] [⟨(some 33), .mv (.tmp 0), none, []⟩,
    ⟨(some 34), .mv (.tmp 5), none, []⟩,
    ⟨(some 35), .ia (.tmp 33) (.tmp 34) 4, none, []⟩,
    ⟨(some 36), .fa (.tmp 35) 3, none, []⟩,
    ⟨(some 37), .ld (.tmp 36) 1 false, none, []⟩,
    ⟨(some 38), .mv (.tmp 1), none, []⟩,
    ⟨(some 39), .callm 22 [(.tmp 37), (.tmp 38)], none, []⟩,
    ⟨(some 1), .mv (.tmp 39), none, []⟩] [0, 1, 5]
def m_laws_markConfigS_12 : Unit → MCode := fun _ => .seq m_laws_markConfigS_10 m_laws_markConfigS_11
def m_laws_markConfigS_13 : Unit → MCode := fun _ => .seq m_laws_markConfigS_9 m_laws_markConfigS_12
def m_laws_markConfigS_14 : Unit → MCode := fun _ => .seq m_laws_markConfigS_8 m_laws_markConfigS_13
def m_laws_markConfigS_15 : Unit → MCode := fun _ => .seq m_laws_markConfigS_7 m_laws_markConfigS_14
def m_laws_markConfigS_16 : Unit → MCode := fun _ => .seq m_laws_markConfigS_6 m_laws_markConfigS_15
def m_laws_markConfigS_17 : Unit → MCode := fun _ => .block 1 m_laws_markConfigS_16
def m_laws_markConfigS_18 : Unit → MCode := fun _ => .region [] [⟨(some 10), .mv (.tmp 5), none, []⟩,
    ⟨(some 11), .bin .add (.tmp 10) (.const (.int .i64 1)), none, []⟩,
    ⟨(some 5), .mv (.tmp 11), none, []⟩] [0, 1, 5]
def m_laws_markConfigS_19 : Unit → MCode := fun _ => .seq m_laws_markConfigS_17 m_laws_markConfigS_18
def m_laws_markConfigS_20 : Unit → MCode := fun _ => .seq m_laws_markConfigS_5 m_laws_markConfigS_19
def m_laws_markConfigS_21 : Unit → MCode := fun _ => .loop m_laws_markConfigS_20
def m_laws_markConfigS_22 : Unit → MCode := fun _ => .block 0 m_laws_markConfigS_21
def m_laws_markConfigS_23 : Unit → MCode := fun _ => .seq m_laws_markConfigS_2 m_laws_markConfigS_22
def m_laws_markConfigS_24 : Unit → MCode := fun _ => .region [] [⟨(some 40), .mv (.tmp 1), none, []⟩,
    ⟨(some 4), .mv (.tmp 40), none, []⟩] [4]
def m_laws_markConfigS_25 : Unit → MCode := fun _ => .seq m_laws_markConfigS_24 (fun _ => .ret)
def m_laws_markConfigS_26 : Unit → MCode := fun _ => .seq m_laws_markConfigS_23 m_laws_markConfigS_25
def m_laws_markConfigS_27 : Unit → MCode := fun _ => .seq m_laws_markConfigS_1 m_laws_markConfigS_26
def m_laws_markConfigS : MCode := m_laws_markConfigS_27 ()
def h_laws_markConfigS : Hints := [(0, [0, 1], [], [], []), (1, [0, 1, 5], [], [], []), (2, [0, 1, 5, 9], [], [], []), (4, [0, 1, 5], [], [], []), (5, [0, 1, 5], [], [], []), (6, [0, 1, 5], [], [], []), (7, [0, 1, 5], [], [], []), (8, [0, 1, 5], [], [], []), (9, [0, 1, 5], [], [], []), (3, [0, 1, 5], [], [], []), (10, [4], [], [], [])]
def r_laws_markConfigS : List RV := [.t 4]
abbrev n_laws_markConfigS : Nat := 90
theorem k_laws_markConfigS : Known Pr mu n_laws_markConfigS m_laws_markConfigS r_laws_markConfigS Go.Proofs.Try.f90.ntmps := .of h_laws_markConfigS hm Go.Proofs.Try.func90 (by kernel_rfl) (by kernel_rfl) (by kernel_rfl) (by kernel_rfl)
def m_impl_HasServer_1 : Unit → MCode := fun _ => .region [] [⟨(some 4), .mv (.const (.bool false)), none, []⟩] [0, 1]
def m_impl_HasServer_2 : Unit → MCode := fun _ => .region [] [⟨(some 5), .mv (.tmp 0), none, []⟩,
    ⟨(some 6), .mv (.tmp 1), none, []⟩,
    ⟨(some 7), .call 119 [(.tmp 5), (.tmp 6)], none, []⟩,
    ⟨(some 4), .mv (.tmp 7), none, []⟩] [4]
def m_impl_HasServer_3 : Unit → MCode := fun _ => .seq m_impl_HasServer_2 (fun _ => .ret)
def m_impl_HasServer_4 : Unit → MCode := fun _ => .seq m_impl_HasServer_1 m_impl_HasServer_3
def m_impl_HasServer : MCode := m_impl_HasServer_4 ()
def h_impl_HasServer : Hints := [(0, [0, 1], [], [], []), (1, [4], [], [], [])]
def r_impl_HasServer : List RV := [.t 4]
abbrev n_impl_HasServer : Nat := 98
theorem k_impl_HasServer : Known Pr mu n_impl_HasServer m_impl_HasServer r_impl_HasServer Go.Proofs.Try.f98.ntmps := .of h_impl_HasServer hm Go.Proofs.Try.func98 (by kernel_rfl) (by kernel_rfl) (by kernel_rfl) (by kernel_rfl)
def m_spec_HasServer_1 : Unit → MCode := fun _ => .region [] [⟨(some 4), .mv (.const (.bool false)), none, []⟩] [0, 1]
def m_spec_HasServer_2 : Unit → MCode := fun _ => .region [] [⟨(some 5), .mv (.const (.int .i64 0)), none, []⟩] [0, 1, 5]
def m_spec_HasServer_3 : Unit → MCode := fun _ => .region [] [⟨(some 6), .mv (.tmp 5), none, []⟩,
    ⟨(some 7), .mv (.tmp 0), none, []⟩,
    ⟨(some 8), .len false (.tmp 7), none, []⟩,
    ⟨(some 9), .bin .lss (.tmp 6) (.tmp 8), none, []⟩] [0, 1, 5, 9]
def m_spec_HasServer_4 : Unit → MCode := fun _ => .cond (.tmp 9) (fun _ => .skip) (fun _ => .exit 0)
def m_spec_HasServer_5 : Unit → MCode := fun _ => .seq m_spec_HasServer_3 m_spec_HasServer_4
def m_spec_HasServer_6 : Unit → MCode := fun _ => .region [] [⟨(some 12), .mv (.tmp 0), none, []⟩,
    ⟨(some 13), .mv (.tmp 5), none, []⟩,
    ⟨(some 14), .ia (.tmp 12) (.tmp 13) 1, none, []⟩,
    ⟨(some 15), .ld (.tmp 14) 1 false, none, []⟩,
    ⟨(some 16), .mv (.tmp 1), none, []⟩,
    ⟨(some 17), .bin .eql (.tmp 15) (.tmp 16), none, []⟩] [0, 1, 5, 17]
def m_spec_HasServer_7 : Unit → MCode := fun _ => .region [] [⟨(some 4), .mv (.const (.bool true)), none, []⟩] [4]
def m_spec_HasServer_8 : Unit → MCode := fun _ => .seq m_spec_HasServer_7 (fun _ => .ret)
def m_spec_HasServer_9 : Unit → MCode := fun _ => .cond (.tmp 17) m_spec_HasServer_8 (fun _ => .skip)
def m_spec_HasServer_10 : Unit → MCode := fun _ => .seq m_spec_HasServer_6 m_spec_HasServer_9
def m_spec_HasServer_11 : Unit → MCode := fun _ => .block 1 m_spec_HasServer_10
def m_spec_HasServer_12 : Unit → MCode := fun _ => .region [] [⟨(some 10), .mv (.tmp 5), none, []⟩,
    ⟨(some 11), .bin .add (.tmp 10) (.const (.int .i64 1)), none, []⟩,
    ⟨(some 5), .mv (.tmp 11), none, []⟩] [0, 1, 5]
def m_spec_HasServer_13 : Unit → MCode := fun _ => .seq m_spec_HasServer_11 m_spec_HasServer_12
def m_spec_HasServer_14 : Unit → MCode := fun _ => .seq m_spec_HasServer_5 m_spec_HasServer_13
def m_spec_HasServer_15 : Unit → MCode := fun _ => .loop m_spec_HasServer_14
def m_spec_HasServer_16 : Unit → MCode := fun _ => .block 0 m_spec_HasServer_15
def m_spec_HasServer_17 : Unit → MCode := fun _ => .seq m_spec_HasServer_2 m_spec_HasServer_16
def m_spec_HasServer_18 : Unit → MCode := fun _ => .region [] [⟨(some 4), .mv (.const (.bool false)), none, []⟩] [4]
def m_spec_HasServer_19 : Unit → MCode := fun _ => .seq m_spec_HasServer_18 (fun _ => .ret)
def m_spec_HasServer_20 : Unit → MCode := fun _ => .seq m_spec_HasServer_17 m_spec_HasServer_19
def m_spec_HasServer_21 : Unit → MCode := fun _ => .seq m_spec_HasServer_1 m_spec_HasServer_20
def m_spec_HasServer : MCode := m_spec_HasServer_21 ()
def h_spec_HasServer : Hints := [(0, [0, 1], [], [], []), (1, [0, 1, 5], [], [], []), (2, [0, 1, 5, 9], [], [], []), (4, [0, 1, 5, 17], [], [], []), (5, [4], [], [], []), (3, [0, 1, 5], [], [], []), (6, [4], [], [], [])]
def r_spec_HasServer : List RV := [.t 4]
abbrev n_spec_HasServer : Nat := 99
theorem k_spec_HasServer : Known Pr mu n_spec_HasServer m_spec_HasServer r_spec_HasServer Go.Proofs.Try.f99.ntmps := .of h_spec_HasServer hm Go.Proofs.Try.func99 (by kernel_rfl) (by kernel_rfl) (by kernel_rfl) (by kernel_rfl)
def m_impl_AreServers_1 : Unit → MCode := fun _ => .region [] [⟨(some 2), .mv (.const (.bool false)), none, []⟩] [0]
def m_impl_AreServers_2 : Unit → MCode := fun _ => .region [] [⟨(some 5), .mv (.tmp 0), none, []⟩,
    ⟨(some 6), .len false (.tmp 5), none, []⟩,
    ⟨(some 7), .mv (.const (.int .i64 0)), none, []⟩] [0, 5, 6, 7]
def m_impl_AreServers_3 : Unit → MCode := fun _ => .region [] [⟨(some 8), .bin .lss (.tmp 7) (.tmp 6), none, []⟩] [0, 5, 6, 7, 8]
def m_impl_AreServers_4 : Unit → MCode := fun _ => .cond (.tmp 8) (fun _ => .skip) (fun _ => .exit 0)
def m_impl_AreServers_5 : Unit → MCode := fun _ => .region [] [⟨(some 9), .mv (.tmp 7), none, []⟩,
    ⟨(some 10), .ia (.tmp 5) (.tmp 7) 1, none, []⟩,
    ⟨(some 11), .ld (.tmp 10) 1 false, none, []⟩,
    ⟨(some 3), .mv (.tmp 9), none, []⟩,
    ⟨(some 4), .mv (.tmp 11), none, []⟩] [0, 3, 4, 5, 6, 7]
def m_impl_AreServers_6 : Unit → MCode := fun _ => .region [] [⟨(some 12), .mv (.tmp 4), none, []⟩,
    ⟨(some 13), .call 84 [(.tmp 12), (.const (.int .i64 0)), (.const (.int .i64 4))], none, []⟩,
    ⟨(some 14), .not (.tmp 13), none, []⟩,
    ⟨(some 15), .mv (.tmp 14), none, []⟩,
    ⟨(some 16), .mv (.tmp 3), (some (15, false)), []⟩,
    ⟨(some 17), .bin .gtr (.tmp 16) (.const (.int .i64 0)), (some (15, false)), []⟩,
    ⟨(some 18), .mv (.tmp 17), (some (15, false)), []⟩,
    ⟨(some 19), .mv (.tmp 4), (some (18, true)), []⟩,
    ⟨(some 20), .mv (.tmp 0), (some (18, true)), []⟩,
    ⟨(some 21), .mv (.tmp 3), (some (18, true)), []⟩,
    ⟨(some 22), .bin .sub (.tmp 21) (.const (.int .i64 1)), (some (18, true)), []⟩,
    ⟨(some 23), .ia (.tmp 20) (.tmp 22) 1, (some (18, true)), []⟩,
    ⟨(some 24), .ld (.tmp 23) 1 false, (some (18, true)), []⟩,
    ⟨(some 25), .bin .leq (.tmp 19) (.tmp 24), (some (18, true)), []⟩,
    ⟨(some 26), .pick (.tmp 18) (.tmp 25) (.const (.bool false)), (some (15, false)), []⟩,
    ⟨(some 27), .pick (.tmp 15) (.const (.bool true)) (.tmp 26), none, []⟩] [0, 5, 6, 7, 27]
def m_impl_AreServers_7 : Unit → MCode := fun _ => .region [] [⟨(some 2), .mv (.const (.bool false)), none, []⟩] [2]
def m_impl_AreServers_8 : Unit → MCode := fun _ => .seq m_impl_AreServers_7 (fun _ => .ret)
def m_impl_AreServers_9 : Unit → MCode := fun _ => .cond (.tmp 27) m_impl_AreServers_8 (fun _ => .skip)
def m_impl_AreServers_10 : Unit → MCode := fun _ => .seq m_impl_AreServers_6 m_impl_AreServers_9
def m_impl_AreServers_11 : Unit → MCode := fun _ => .seq m_impl_AreServers_5 m_impl_AreServers_10
def m_impl_AreServers_12 : Unit → MCode := fun _ => .block 1 m_impl_AreServers_11
def m_impl_AreServers_13 : Unit → MCode := fun _ => .region [] [⟨(some 28), .bin .add (.tmp 7) (.const (.int .i64 1)), none, []⟩,
    ⟨(some 7), .mv (.tmp 28), none, []⟩] [0, 5, 6, 7]
def m_impl_AreServers_14 : Unit → MCode := fun _ => .seq m_impl_AreServers_12 m_impl_AreServers_13
def m_impl_AreServers_15 : Unit → MCode := fun _ => .seq m_impl_AreServers_4 m_impl_AreServers_14
def m_impl_AreServers_16 : Unit → MCode := fun _ => .seq m_impl_AreServers_3 m_impl_AreServers_15
def m_impl_AreServers_17 : Unit → MCode := fun _ => .loop m_impl_AreServers_16
def m_impl_AreServers_18 : Unit → MCode := fun _ => .block 0 m_impl_AreServers_17
def m_impl_AreServers_19 : Unit → MCode := fun _ => .seq m_impl_AreServers_2 m_impl_AreServers_18
def m_impl_AreServers_20 : Unit → MCode := fun _ => .region [] [⟨(some 2), .mv (.const (.bool true)), none, []⟩] [2]
def m_impl_AreServers_21 : Unit → MCode := fun _ => .seq m_impl_AreServers_20 (fun _ => .ret)
def m_impl_AreServers_22 : Unit → MCode := fun _ => .seq m_impl_AreServers_19 m_impl_AreServers_21
def m_impl_AreServers_23 : Unit → MCode := fun _ => .seq m_impl_AreServers_1 m_impl_AreServers_22
def m_impl_AreServers : MCode := m_impl_AreServers_23 ()
def h_impl_AreServers : Hints := [(0, [0], [], [], []), (1, [0, 5, 6, 7], [], [], []), (2, [0, 5, 6, 7, 8], [], [], []), (3, [0, 3, 4, 5, 6, 7], [], [], []), (4, [0, 5, 6, 7, 27], [], [], []), (5, [2], [], [], []), (6, [0, 5, 6, 7], [], [], []), (7, [2], [], [], [])]
def r_impl_AreServers : List RV := [.t 2]
abbrev n_impl_AreServers : Nat := 100
theorem k_impl_AreServers : Known Pr mu n_impl_AreServers m_impl_AreServers r_impl_AreServers Go.Proofs.Try.f100.ntmps := .of h_impl_AreServers hm Go.Proofs.Try.func100 (by kernel_rfl) (by kernel_rfl) (by kernel_rfl) (by kernel_rfl)
def m_impl_CommonServers_1 : Unit → MCode := fun _ => .region [] [⟨(some 4), .mv (.const (.slice none 0 0)), none, []⟩] [0, 1]
def m_impl_CommonServers_2 : Unit → MCode := fun _ => .region [] [⟨(some 5), .mv (.tmp 0), none, []⟩,
    ⟨(some 6), .mv (.tmp 0), none, []⟩,
    ⟨(some 7), .mv (.tmp 1), none, []⟩,
    ⟨(some 8), .call 120 [(.tmp 6), (.tmp 7)], none, []⟩,
    ⟨(some 9), .call 120 [(.tmp 5), (.tmp 8)], none, []⟩,
    ⟨(some 4), .mv (.tmp 9), none, []⟩] [4]
def m_impl_CommonServers_3 : Unit → MCode := fun _ => .seq m_impl_CommonServers_2 (fun _ => .ret)
def m_impl_CommonServers_4 : Unit → MCode := fun _ => .seq m_impl_CommonServers_1 m_impl_CommonServers_3
def m_impl_CommonServers : MCode := m_impl_CommonServers_4 ()
def h_impl_CommonServers : Hints := [(0, [0, 1], [], [], []), (1, [4], [], [], [])]
def r_impl_CommonServers : List RV := [.t 4]
abbrev n_impl_CommonServers : Nat := 101
theorem k_impl_CommonServers : Known Pr mu n_impl_CommonServers m_impl_CommonServers r_impl_CommonServers Go.Proofs.Try.f101.ntmps := .of h_impl_CommonServers hm Go.Proofs.Try.func101 (by kernel_rfl) (by kernel_rfl) (by kernel_rfl) (by kernel_rfl)
def m_spec_AreServers_1 : Unit → MCode := fun _ => .region [] [⟨(some 2), .mv (.const (.bool false)), none, []⟩] [0]
def m_spec_AreServers_2 : Unit → MCode := fun _ => .region [] [⟨(some 3), .mv (.const (.int .i64 0)), none, []⟩] [0, 3]
def m_spec_AreServers_3 : Unit → MCode := fun _ => .region [] [⟨(some 4), .mv (.tmp 3), none, []⟩,
    ⟨(some 5), .mv (.tmp 0), none, []⟩,
    ⟨(some 6), .len false (.tmp 5), none, []⟩,
    ⟨(some 7), .bin .lss (.tmp 4) (.tmp 6), none, []⟩] [0, 3, 7]
def m_spec_AreServers_4 : Unit → MCode := fun _ => .cond (.tmp 7) (fun _ => .skip) (fun _ => .exit 0)
def m_spec_AreServers_5 : Unit → MCode := fun _ => .seq m_spec_AreServers_3 m_spec_AreServers_4
def m_spec_AreServers_6 : Unit → MCode := fun _ => .region [] [⟨(some 10), .mv (.tmp 0), none, []⟩,
    ⟨(some 11), .mv (.tmp 3), none, []⟩,
    ⟨(some 12), .ia (.tmp 10) (.tmp 11) 1, none, []⟩,
    ⟨(some 13), .ld (.tmp 12) 1 false, none, []⟩,
    ⟨(some 14), .call 81 [(.tmp 13), (.const (.int .i64 0)), (.const (.int .i64 4))], none, []⟩,
    ⟨(some 15), .not (.tmp 14), none, []⟩,
    ⟨(some 16), .mv (.tmp 15), none, []⟩,
    ⟨(some 17), .mv (.tmp 3), (some (16, false)), []⟩,
    ⟨(some 18), .bin .gtr (.tmp 17) (.const (.int .i64 0)), (some (16, false)), []⟩,
    ⟨(some 19), .mv (.tmp 18), (some (16, false)), []⟩,
    ⟨(some 20), .mv (.tmp 0), (some (19, true)), []⟩,
    ⟨(some 21), .mv (.tmp 3), (some (19, true)), []⟩,
    ⟨(some 22), .bin .sub (.tmp 21) (.const (.int .i64 1)), (some (19, true)), []⟩,
    ⟨(some 23), .ia (.tmp 20) (.tmp 22) 1, (some (19, true)), []⟩,
    ⟨(some 24), .ld (.tmp 23) 1 false, (some (19, true)), []⟩,
    ⟨(some 25), .mv (.tmp 0), (some (19, true)), []⟩,
    ⟨(some 26), .mv (.tmp 3), (some (19, true)), []⟩,
    ⟨(some 27), .ia (.tmp 25) (.tmp 26) 1, (some (19, true)), [10, 11, 12, 13, 14]⟩,
    ⟨(some 28), .ld (.tmp 27) 1 false, (some (19, true)), [10, 11, 12, 13, 14]⟩,
    ⟨(some 29), .bin .geq (.tmp 24) (.tmp 28), (some (19, true)), []⟩,
    ⟨(some 30), .pick (.tmp 19) (.tmp 29) (.const (.bool false)), (some (16, false)), []⟩,
    ⟨(some 31), .pick (.tmp 16) (.const (.bool true)) (.tmp 30), none, []⟩] [0, 3, 31]
def m_spec_AreServers_7 : Unit → MCode := fun _ => .region [] [⟨(some 2), .mv (.const (.bool false)), none, []⟩] [2]
def m_spec_AreServers_8 : Unit → MCode := fun _ => .seq m_spec_AreServers_7 (fun _ => .ret)
def m_spec_AreServers_9 : Unit → MCode := fun _ => .cond (.tmp 31) m_spec_AreServers_8 (fun _ => .skip)
def m_spec_AreServers_10 : Unit → MCode := fun _ => .seq m_spec_AreServers_6 m_spec_AreServers_9
def m_spec_AreServers_11 : Unit → MCode := fun _ => .block 1 m_spec_AreServers_10
def m_spec_AreServers_12 : Unit → MCode := fun _ => .region [] [⟨(some 8), .mv (.tmp 3), none, []⟩,
    ⟨(some 9), .bin .add (.tmp 8) (.const (.int .i64 1)), none, []⟩,
    ⟨(some 3), .mv (.tmp 9), none, []⟩] [0, 3]
def m_spec_AreServers_13 : Unit → MCode := fun _ => .seq m_spec_AreServers_11 m_spec_AreServers_12
def m_spec_AreServers_14 : Unit → MCode := fun _ => .seq m_spec_AreServers_5 m_spec_AreServers_13
def m_spec_AreServers_15 : Unit → MCode := fun _ => .loop m_spec_AreServers_14
def m_spec_AreServers_16 : Unit → MCode := fun _ => .block 0 m_spec_AreServers_15
def m_spec_AreServers_17 : Unit → MCode := fun _ => .seq m_spec_AreServers_2 m_spec_AreServers_16
def m_spec_AreServers_18 : Unit → MCode := fun _ => .region [] [⟨(some 2), .mv (.const (.bool true)), none, []⟩] [2]
def m_spec_AreServers_19 : Unit → MCode := fun _ => .seq m_spec_AreServers_18 (fun _ => .ret)
def m_spec_AreServers_20 : Unit → MCode := fun _ => .seq m_spec_AreServers_17 m_spec_AreServers_19
def m_spec_AreServers_21 : Unit → MCode := fun _ => .seq m_spec_AreServers_1 m_spec_AreServers_20
def m_spec_AreServers : MCode := m_spec_AreServers_21 ()
def h_spec_AreServers : Hints := [(0, [0], [], [], []), (1, [0, 3], [], [], []), (2, [0, 3, 7], [], [], []), (4, [0, 3, 31], [[], [], [], [], [], [], [], [], [], [], [], [], [], [], [], [], [], [10, 11, 12, 13, 14], [10, 11, 12, 13, 14]], [], []), (5, [2], [], [], []), (3, [0, 3], [], [], []), (6, [2], [], [], [])]
def r_spec_AreServers : List RV := [.t 2]
abbrev n_spec_AreServers : Nat := 102
theorem k_spec_AreServers : Known Pr mu n_spec_AreServers m_spec_AreServers r_spec_AreServers Go.Proofs.Try.f102.ntmps := .of h_spec_AreServers hm Go.Proofs.Try.func102 (by kernel_rfl) (by kernel_rfl) (by kernel_rfl) (by kernel_rfl)
def m_spec_CommonServers_1 : Unit → MCode := fun _ => .region [] [⟨(some 4), .mv (.const (.slice none 0 0)), none, []⟩] [0, 1]
def m_spec_CommonServers_2 : Unit → MCode := fun _ => .region [] [⟨(some 7), .bsl 1 0 [.int .i64 0] [], none, []⟩,
    ⟨(some 5), .mv (.tmp 7), none, []⟩] [0, 1, 5]
def m_spec_CommonServers_3 : Unit → MCode := fun _ => .region [] [⟨(some 6), .mv (.const (.int .i64 0)), none, []⟩] [0, 1, 5, 6]
def m_spec_CommonServers_4 : Unit → MCode := fun _ => .region [] [⟨(some 8), .mv (.tmp 6), none, []⟩,
    ⟨(some 9), .mv (.tmp 0), none, []⟩,
    ⟨(some 10), .len false (.tmp 9), none, []⟩,
    ⟨(some 11), .bin .lss (.tmp 8) (.tmp 10), none, []⟩] [0, 1, 5, 6, 11]
def m_spec_CommonServers_5 : Unit → MCode := fun _ => .cond (.tmp 11) (fun _ => .skip) (fun _ => .exit 0)
def m_spec_CommonServers_6 : Unit → MCode := fun _ => .seq m_spec_CommonServers_4 m_spec_CommonServers_5
def m_spec_CommonServers_7 : Unit → MCode := fun _ => .region [] [⟨(some 14), .mv (.tmp 1), none, []⟩,
    ⟨(some 15), .mv (.tmp 0), none, []⟩,
    ⟨(some 16), .mv (.tmp 6), none, []⟩,
    ⟨(some 17), .ia (.tmp 15) (.tmp 16) 1, none, []⟩,
    ⟨(some 18), .ld (.tmp 17) 1 false, none, []⟩,
    ⟨(some 19), .call 99 [(.tmp 14), (.tmp 18)], none, []⟩] [0, 1, 5, 6, 19]
def m_spec_CommonServers_8 : Unit → MCode := fun _ => .region [] [⟨(some 20), .mv (.tmp 5), none, []⟩,
    ⟨(some 21), .mv (.tmp 0), none, []⟩,
    ⟨(some 22), .mv (.tmp 6), none, []⟩,
    ⟨(some 23), .ia (.tmp 21) (.tmp 22) 1, none, []⟩,
    ⟨(some 24), .ld (.tmp 23) 1 false, none, []⟩,
    ⟨(some 25), .call 110 [(.tmp 20), (.tmp 24)], none, []⟩,
    ⟨(some 5), .mv (.tmp 25), none, []⟩] [0, 1, 5, 6]
def m_spec_CommonServers_9 : Unit → MCode := fun _ => .cond (.tmp 19) m_spec_CommonServers_8 (fun _ => .skip)
def m_spec_CommonServers_10 : Unit → MCode := fun _ => .seq m_spec_CommonServers_7 m_spec_CommonServers_9
def m_spec_CommonServers_11 : Unit → MCode := fun _ => .block 1 m_spec_CommonServers_10
def m_spec_CommonServers_12 : Unit → MCode := fun _ => .region [] [⟨(some 12), .mv (.tmp 6), none, []⟩,
    ⟨(some 13), .bin .add (.tmp 12) (.const (.int .i64 1)), none, []⟩,
    ⟨(some 6), .mv (.tmp 13), none, []⟩] [0, 1, 5, 6]
def m_spec_CommonServers_13 : Unit → MCode := fun _ => .seq m_spec_CommonServers_11 m_spec_CommonServers_12
def m_spec_CommonServers_14 : Unit → MCode := fun _ => .seq m_spec_CommonServers_6 m_spec_CommonServers_13
def m_spec_CommonServers_15 : Unit → MCode := fun _ => .loop m_spec_CommonServers_14
def m_spec_CommonServers_16 : Unit → MCode := fun _ => .block 0 m_spec_CommonServers_15
def m_spec_CommonServers_17 : Unit → MCode := fun _ => .seq m_spec_CommonServers_3 m_spec_CommonServers_16
def m_spec_CommonServers_18 : Unit → MCode := fun _ => .region [] [⟨(some 26), .mv (.tmp 5), none, []⟩,
    ⟨(some 4), .mv (.tmp 26), none, []⟩] [4]
def m_spec_CommonServers_19 : Unit → MCode := fun _ => .seq m_spec_CommonServers_18 (fun _ => .ret)
def m_spec_CommonServers_20 : Unit → MCode := fun _ => .seq m_spec_CommonServers_17 m_spec_CommonServers_19
def m_spec_CommonServers_21 : Unit → MCode := fun _ => .seq m_spec_CommonServers_2 m_spec_CommonServers_20
def m_spec_CommonServers_22 : Unit → MCode := fun _ => .seq m_spec_CommonServers_1 m_spec_CommonServers_21
def m_spec_CommonServers : MCode := m_spec_CommonServers_22 ()
def h_spec_CommonServers : Hints := [(0, [0, 1], [], [], []), (1, [0, 1, 5], [], [], []), (2, [0, 1, 5, 6], [], [], []), (3, [0, 1, 5, 6, 11], [], [], []), (5, [0, 1, 5, 6, 19], [], [], []), (6, [0, 1, 5, 6], [], [], []), (4, [0, 1, 5, 6], [], [], []), (7, [4], [], [], [])]
def r_spec_CommonServers : List RV := [.t 4]
abbrev n_spec_CommonServers : Nat := 103
theorem k_spec_CommonServers : Known Pr mu n_spec_CommonServers m_spec_CommonServers r_spec_CommonServers Go.Proofs.Try.f103.ntmps := .of h_spec_CommonServers hm Go.Proofs.Try.func103 (by kernel_rfl) (by kernel_rfl) (by kernel_rfl) (by kernel_rfl)
def m_spec_l12Copy_1 : Unit → MCode := fun _ => .region [] [⟨(some 1), .box (.tmp 0), none, []⟩,
    ⟨(some 2), .alloc [.slice none 0 0, .int .i64 0], none, []⟩] [1, 2]
def m_spec_l12Copy_2 : Unit → MCode := fun _ => .region [] [⟨(some 6), .fa (.tmp 1) 1, none, []⟩,
    ⟨(some 7), .ld (.tmp 6) 1 false, none, []⟩,
    ⟨(some 8), .bld [.slice none 0 0, .int .i64 0] [(1, 1, (.tmp 7))], none, []⟩,
    ⟨(some 3), .alloc [.slice none 0 0, .int .i64 0], none, []⟩,
    ⟨none, .sto (.tmp 3) (.tmp 8) 2, none, []⟩] [1, 2, 3]
def m_spec_l12Copy_3 : Unit → MCode := fun _ => .region [] [⟨(some 4), .mv (.const (.int .i64 0)), none, []⟩] [1, 2, 3, 4]
def m_spec_l12Copy_4 : Unit → MCode := fun _ => .region [] [⟨(some 9), .mv (.tmp 4), none, []⟩,
    ⟨(some 10), .fa (.tmp 1) 0, none, []⟩,
    ⟨(some 11), .ld (.tmp 10) 1 false, none, []⟩,
    ⟨(some 12), .len false (.tmp 11), none, []⟩,
    ⟨(some 13), .bin .lss (.tmp 9) (.tmp 12), none, []⟩] [1, 2, 3, 4, 13]
def m_spec_l12Copy_5 : Unit → MCode := fun _ => .cond (.tmp 13) (fun _ => .skip) (fun _ => .exit 0)
def m_spec_l12Copy_6 : Unit → MCode := fun _ => .seq m_spec_l12Copy_4 m_spec_l12Copy_5
def m_spec_l12Copy_7 : Unit → MCode := fun _ => .region [] [⟨(some 16), .fa (.tmp 1) 0, none, []⟩,
    ⟨(some 17), .ld (.tmp 16) 1 false, none, []⟩,
    ⟨(some 18), .mv (.tmp 4), none, []⟩,
    ⟨(some 19), .ia (.tmp 17) (.tmp 18) 4, none, []⟩,
    ⟨(some 20), .ld (.tmp 19) 4 true, none, []⟩,
    ⟨(some 21), .call 83 [(.tmp 20)], none, []⟩,
    ⟨(some 5), .alloc [.int .i64 0, .int .i64 0, .slice none 0 0, .slice none 0 0], none, []⟩,
    ⟨none, .sto (.tmp 5) (.tmp 21) 4, none, []⟩] [1, 2, 3, 4, 5]
def m_spec_l12Copy_8 : Unit → MCode := fun _ => .region [] [⟨(some 22), .fa (.tmp 3) 0, none, []⟩,
    ⟨(some 23), .ld (.tmp 22) 1 false, none, []⟩,
    ⟨(some 24), .ld (.tmp 5) 4 true, none, []⟩,
    ⟨(some 25), .bsl 4 1 [.int .i64 0, .int .i64 0, .slice none 0 0, .slice none 0 0] [(0, (.tmp 24))], none, []⟩,
    ⟨(some 26), .app (.tmp 23) (.tmp 25) 4 64, none, []⟩,
    ⟨(some 27), .fa (.tmp 3) 0, none, []⟩,
    ⟨none, .sto (.tmp 27) (.tmp 26) 1, none, []⟩] [1, 2, 3, 4]
def m_spec_l12Copy_9 : Unit → MCode := fun _ => .seq m_spec_l12Copy_7 m_spec_l12Copy_8
def m_spec_l12Copy_10 : Unit → MCode := fun _ => .block 1 m_spec_l12Copy_9
def m_spec_l12Copy_11 : Unit → MCode := fun _ => .region [] [⟨(some 14), .mv (.tmp 4), none, []⟩,
    ⟨(some 15), .bin .add (.tmp 14) (.const (.int .i64 1)), none, []⟩,
    ⟨(some 4), .mv (.tmp 15), none, []⟩] [1, 2, 3, 4]
def m_spec_l12Copy_12 : Unit → MCode := fun _ => .seq m_spec_l12Copy_10 m_spec_l12Copy_11
def m_spec_l12Copy_13 : Unit → MCode := fun _ => .seq m_spec_l12Copy_6 m_spec_l12Copy_12
def m_spec_l12Copy_14 : Unit → MCode := fun _ => .loop m_spec_l12Copy_13
def m_spec_l12Copy_15 : Unit → MCode := fun _ => .block 0 m_spec_l12Copy_14
def m_spec_l12Copy_16 : Unit → MCode := fun _ => .seq m_spec_l12Copy_3 m_spec_l12Copy_15
def m_spec_l12Copy_17 : Unit → MCode := fun _ => .region [] [⟨(some 28), .ld (.tmp 3) 2 true, none, []⟩,
    ⟨none, .sto (.tmp 2) (.tmp 28) 2, none, []⟩] [2]
def m_spec_l12Copy_18 : Unit → MCode := fun _ => .seq m_spec_l12Copy_17 (fun _ => .ret)
def m_spec_l12Copy_19 : Unit → MCode := fun _ => .seq m_spec_l12Copy_16 m_spec_l12Copy_18
def m_spec_l12Copy_20 : Unit → MCode := fun _ => .seq m_spec_l12Copy_2 m_spec_l12Copy_19
def m_spec_l12Copy_21 : Unit → MCode := fun _ => .seq m_spec_l12Copy_1 m_spec_l12Copy_20
def m_spec_l12Copy : MCode := m_spec_l12Copy_21 ()
def h_spec_l12Copy : Hints := [(0, [1, 2], [], [], []), (1, [1, 2, 3], [], [], []), (2, [1, 2, 3, 4], [], [], []), (3, [1, 2, 3, 4, 13], [], [], []), (5, [1, 2, 3, 4, 5], [], [], []), (6, [1, 2, 3, 4], [], [], []), (4, [1, 2, 3, 4], [], [], []), (7, [2], [], [], [])]
def r_spec_l12Copy : List RV := [.c 2 2 true]
abbrev n_spec_l12Copy : Nat := 104
theorem k_spec_l12Copy : Known Pr mu n_spec_l12Copy m_spec_l12Copy r_spec_l12Copy Go.Proofs.Try.f104.ntmps := .of h_spec_l12Copy hm Go.Proofs.Try.func104 (by kernel_rfl) (by kernel_rfl) (by kernel_rfl) (by kernel_rfl)
def m_impl_masterCopy_1 : Unit → MCode := fun _ => .region [] [⟨(some 1), .box (.tmp 0), none, []⟩,
    ⟨(some 2), .alloc [.slice none 0 0, .int .i64 0], none, []⟩] [1, 2]
def m_impl_masterCopy_2 : Unit → MCode := fun _ => .region [] [⟨(some 6), .fa (.tmp 1) 1, none, []⟩,
    ⟨(some 7), .ld (.tmp 6) 1 false, none, []⟩,
    ⟨(some 8), .bld [.slice none 0 0, .int .i64 0] [(1, 1, (.tmp 7))], none, []⟩,
    ⟨(some 3), .alloc [.slice none 0 0, .int .i64 0], none, []⟩,
    ⟨none, .sto (.tmp 3) (.tmp 8) 2, none, []⟩] [1, 2, 3]
def m_impl_masterCopy_3 : Unit → MCode := fun _ => .region [] [⟨(some 9), .fa (.tmp 1) 0, none, []⟩,
    ⟨(some 10), .ld (.tmp 9) 1 false, none, []⟩,
    ⟨(some 11), .len false (.tmp 10), none, []⟩,
    ⟨(some 12), .mv (.const (.int .i64 0)), none, []⟩] [2, 3, 10, 11, 12]
def m_impl_masterCopy_4 : Unit → MCode := fun _ => .region [] [⟨(some 13), .bin .lss (.tmp 12) (.tmp 11), none, []⟩] [2, 3, 10, 11, 12, 13]
def m_impl_masterCopy_5 : Unit → MCode := fun _ => .cond (.tmp 13) (fun _ => .skip) (fun _ => .exit 0)
def m_impl_masterCopy_6 : Unit → MCode := fun _ => .region [] [⟨(some 14), .ia (.tmp 10) (.tmp 12) 4, none, []⟩,
    ⟨(some 15), .ld (.tmp 14) 4 true, none, []⟩,
    ⟨(some 5), .alloc [.int .i64 0, .int .i64 0, .slice none 0 0, .slice none 0 0], none, []⟩,
    ⟨none, .sto (.tmp 5) (.tmp 15) 4, none, []⟩] [2, 3, 5, 10, 11, 12]
def m_impl_masterCopy_7 : Unit → MCode := fun _ => .region [] [⟨(some 16), .fa (.tmp 3) 0, none, []⟩,
    ⟨(some 17), .ld (.tmp 16) 1 false, none, []⟩,
    ⟨(some 18), .ld (.tmp 5) 4 true, none, [0, 1]⟩,
    ⟨(some 19), .call 86 [(.tmp 18)], none, [0, 1]⟩,
    ⟨(some 20), .bsl 4 1 [.int .i64 0, .int .i64 0, .slice none 0 0, .slice none 0 0] [(0, (.tmp 19))], none, []⟩,
    ⟨(some 21), .app (.tmp 17) (.tmp 20) 4 64, none, []⟩,
    ⟨(some 22), .fa (.tmp 3) 0, none, []⟩,
    ⟨none, .sto (.tmp 22) (.tmp 21) 1, none, []⟩] [2, 3, 10, 11, 12]
def m_impl_masterCopy_8 : Unit → MCode := fun _ => .seq m_impl_masterCopy_6 m_impl_masterCopy_7
def m_impl_masterCopy_9 : Unit → MCode := fun _ => .block 1 m_impl_masterCopy_8
def m_impl_masterCopy_10 : Unit → MCode := fun _ => .region [] [⟨(some 23), .bin .add (.tmp 12) (.const (.int .i64 1)), none, []⟩,
    ⟨(some 12), .mv (.tmp 23), none, []⟩] [2, 3, 10, 11, 12]
def m_impl_masterCopy_11 : Unit → MCode := fun _ => .seq m_impl_masterCopy_9 m_impl_masterCopy_10
def m_impl_masterCopy_12 : Unit → MCode := fun _ => .seq m_impl_masterCopy_5 m_impl_masterCopy_11
def m_impl_masterCopy_13 : Unit → MCode := fun _ => .seq m_impl_masterCopy_4 m_impl_masterCopy_12
def m_impl_masterCopy_14 : Unit → MCode := fun _ => .loop m_impl_masterCopy_13
def m_impl_masterCopy_15 : Unit → MCode := fun _ => .block 0 m_impl_masterCopy_14
def m_impl_masterCopy_16 : Unit → MCode := fun _ => .seq m_impl_masterCopy_3 m_impl_masterCopy_15
def m_impl_masterCopy_17 : Unit → MCode := fun _ => .region [] [⟨(some 24), .ld (.tmp 3) 2 true, none, []⟩,
    ⟨none, .sto (.tmp 2) (.tmp 24) 2, none, []⟩] [2]
def m_impl_masterCopy_18 : Unit → MCode := fun _ => .seq m_impl_masterCopy_17 (fun _ => .ret)
def m_impl_masterCopy_19 : Unit → MCode := fun _ => .seq m_impl_masterCopy_16 m_impl_masterCopy_18
def m_impl_masterCopy_20 : Unit → MCode := fun _ => .seq m_impl_masterCopy_2 m_impl_masterCopy_19
def m_impl_masterCopy_21 : Unit → MCode := fun _ => .seq m_impl_masterCopy_1 m_impl_masterCopy_20
def m_impl_masterCopy : MCode := m_impl_masterCopy_21 ()
def h_impl_masterCopy : Hints := [(0, [1, 2], [], [], []), (1, [1, 2, 3], [], [], []), (2, [2, 3, 10, 11, 12], [], [], []), (3, [2, 3, 10, 11, 12, 13], [], [], []), (4, [2, 3, 5, 10, 11, 12], [], [], []), (5, [2, 3, 10, 11, 12], [[], [], [0, 1], [0, 1]], [], []), (6, [2, 3, 10, 11, 12], [], [], []), (7, [2], [], [], [])]
def r_impl_masterCopy : List RV := [.c 2 2 true]
abbrev n_impl_masterCopy : Nat := 105
theorem k_impl_masterCopy : Known Pr mu n_impl_masterCopy m_impl_masterCopy r_impl_masterCopy Go.Proofs.Try.f105.ntmps := .of h_impl_masterCopy hm Go.Proofs.Try.func105 (by kernel_rfl) (by kernel_rfl) (by kernel_rfl) (by kernel_rfl)
def m_laws_heldConfigS_1 : Unit → MCode := fun _ => .region [] [⟨(some 4), .mv (.const (.int .i64 0)), none, []⟩] [0, 1]
def m_laws_heldConfigS_2 : Unit → MCode := fun _ => .region [] [⟨(some 5), .mv (.const (.int .i64 0)), none, []⟩] [0, 1, 5]
def m_laws_heldConfigS_3 : Unit → MCode := fun _ => .region [] [⟨(some 6), .mv (.tmp 5), none, []⟩,
    ⟨(some 7), .mv (.tmp 0), none, []⟩,
    ⟨(some 8), .len false (.tmp 7), none, []⟩,
    ⟨(some 9), .bin .lss (.tmp 6) (.tmp 8), none, []⟩] [0, 1, 5, 9]
def m_laws_heldConfigS_4 : Unit → MCode := fun _ => .cond (.tmp 9) (fun _ => .skip) (fun _ => .exit 0)
def m_laws_heldConfigS_5 : Unit → MCode := fun _ => .seq m_laws_heldConfigS_3 m_laws_heldConfigS_4
def m_laws_heldConfigS_6 : Unit → MCode := fun _ => .region [] [⟨(some 12), .mv (.tmp 0), none, []⟩,
    ⟨(some 13), .mv (.tmp 5), none, []⟩,
    ⟨(some 14), .ia (.tmp 12) (.tmp 13) 4, none, []⟩,
    ⟨(some 15), .fa (.tmp 14) 0, none, []⟩,
    ⟨(some 16), .ld (.tmp 15) 1 false, none, []⟩,
    ⟨(some 17), .mv (.tmp 1), none, []⟩,
    ⟨(some 18), .bin .neq (.tmp 16) (.tmp 17), none, []⟩] [0, 1, 5, 18]
def m_laws_heldConfigS_7 : Unit → MCode := fun _ => .region [] [⟨(some 4), .mv (.const (.int .i64 (-1))), none, []⟩] [4]
def m_laws_heldConfigS_8 : Unit → MCode := fun _ => .seq m_laws_heldConfigS_7 (fun _ => .ret)
def m_laws_heldConfigS_9 : Unit → MCode := fun _ => .cond (.tmp 18) m_laws_heldConfigS_8 (fun _ => .skip)
def m_laws_heldConfigS_10 : Unit → MCode := fun _ => .seq m_laws_heldConfigS_6 m_laws_heldConfigS_9
def m_laws_heldConfigS_11 : Unit → MCode := fun _ => .region [] [⟨(some 19), .mv (.tmp 1), none, []⟩,
    ⟨(some 20), .bin .add (.tmp 19) (.const (.int .i64 1)), none, []⟩,
    ⟨(some 1), .mv (.tmp 20), none, []⟩] [0, 1, 5]
def m_laws_heldConfigS_12 : Unit → MCode := fun _ => .region [] [⟨(some 21), .mv (.tmp 0), none, []⟩,
    ⟨(some 22), .mv (.tmp 5), none, []⟩,
    ⟨(some 23), .ia (.tmp 21) (.tmp 22) 4, none, []⟩,
    ⟨(some 24), .fa (.tmp 23) 1, none, []⟩,
    ⟨(some 25), .ld (.tmp 24) 1 false, none, []⟩,
    ⟨(some 26), .mv (.tmp 1), none, []⟩,
    ⟨(some 27), .bin .neq (.tmp 25) (.tmp 26), none, []⟩] [0, 1, 5, 27]
def m_laws_heldConfigS_13 : Unit → MCode := fun _ => .region [] [⟨(some 4), .mv (.const (.int .i64 (-1))), none, []⟩] [4]
def m_laws_heldConfigS_14 : Unit → MCode := fun _ => .seq m_laws_heldConfigS_13 (fun _ => .ret)
def m_laws_heldConfigS_15 : Unit → MCode := fun _ => .cond (.tmp 27) m_laws_heldConfigS_14 (fun _ => .skip)
def m_laws_heldConfigS_16 : Unit → MCode := fun _ => .seq m_laws_heldConfigS_12 m_laws_heldConfigS_15
def m_laws_heldConfigS_17 : Unit → MCode := fun _ => .region [] [⟨(some 28), .mv (.tmp 1), none, []⟩,
    ⟨(some 29), .bin .add (.tmp 28) (.const (.int .i64 1)), none, []⟩,
    ⟨(some 1), .mv (.tmp 29), none, []⟩] [0, 1, 5]
def m_laws_heldConfigS_18 : Unit → MCode := fun _ => .region [] [⟨(some 30), .mv (.tmp 0), none, []⟩,
    ⟨(some 31), .mv (.tmp 5), none, []⟩,
    ⟨(some 32), .ia (.tmp 30) (.tmp 31) 4, none, []⟩,
    ⟨(some 33), .fa (.tmp 32) 2, none, []⟩,
    ⟨(some 34), .ld (.tmp 33) 1 false, none, []⟩,
    ⟨(some 35), .mv (.tmp 1), none, []⟩,
    ⟨(some 36), .call 23 [(.tmp 34), (.tmp 35)], none, []⟩,
    ⟨(some 1), .mv (.tmp 36), none, []⟩] [0, 1, 5]
def m_laws_heldConfigS_19 : Unit → MCode := fun _ => .region [] [⟨(some 37), .mv (.tmp 1), none, []⟩,
    ⟨(some 38), .bin .lss (.tmp 37) (.const (.int .i64 0)), none, []⟩] [0, 1, 5, 38]
def m_laws_heldConfigS_20 : Unit → MCode := fun _ => .region [] [⟨(some 4), .mv (.const (.int .i64 (-1))), none, []⟩] [4]
def m_laws_heldConfigS_21 : Unit → MCode := fun _ => .seq m_laws_heldConfigS_20 (fun _ => .ret)
def m_laws_heldConfigS_22 : Unit → MCode := fun _ => .cond (.tmp 38) m_laws_heldConfigS_21 (fun _ => .skip)
def m_laws_heldConfigS_23 : Unit → MCode := fun _ => .seq m_laws_heldConfigS_19 m_laws_heldConfigS_22
def m_laws_heldConfigS_24 : Unit → MCode := fun _ => .region [] [⟨(some 39), .mv (.tmp 0), none, []⟩,
    ⟨(some 40), .mv (.tmp 5), none, []⟩,
    ⟨(some 41), .ia (.tmp 39) (.tmp 40) 4, none, []⟩,
    ⟨(some 42), .fa (.tmp 41) 3, none, []⟩,
    ⟨(some 43), .ld (.tmp 42) 1 false, none, []⟩,
    ⟨(some 44), .mv (.tmp 1), none, []⟩,
    ⟨(some 45), .call 23 [(.tmp 43), (.tmp 44)], none, []⟩,
    ⟨(some 1), .mv (.tmp 45), none, []⟩] [0, 1, 5]
def m_laws_heldConfigS_25 : Unit → MCode := fun _ => .region [] [⟨(some 46), .mv (.tmp 1), none, []⟩,
    ⟨(some 47), .bin .lss (.tmp 46) (.const (.int .i64 0)), none, []⟩] [0, 1, 5, 47]
def m_laws_heldConfigS_26 : Unit → MCode := fun _ => .region [] [⟨(some 4), .mv (.const (.int .i64 (-1))), none, []⟩] [4]
def m_laws_heldConfigS_27 : Unit → MCode := fun _ => .seq m_laws_heldConfigS_26 (fun _ => .ret)
def m_laws_heldConfigS_28 : Unit → MCode := fun _ => .cond (.tmp 47) m_laws_heldConfigS_27 (fun _ => .skip)
def m_laws_heldConfigS_29 : Unit → MCode := fun _ => .seq m_laws_heldConfigS_25 m_laws_heldConfigS_28
def m_laws_heldConfigS_30 : Unit → MCode := fun _ => .seq m_laws_heldConfigS_24 m_laws_heldConfigS_29
def m_laws_heldConfigS_31 : Unit → MCode := fun _ => .seq m_laws_heldConfigS_23 m_laws_heldConfigS_30
def m_laws_heldConfigS_32 : Unit → MCode := fun _ => .seq m_laws_heldConfigS_18 m_laws_heldConfigS_31
def m_laws_heldConfigS_33 : Unit → MCode := fun _ => .seq m_laws_heldConfigS_17 m_laws_heldConfigS_32
def m_laws_heldConfigS_34 : Unit → MCode := fun _ => .seq m_laws_heldConfigS_16 m_laws_heldConfigS_33
def m_laws_heldConfigS_35 : Unit → MCode := fun _ => .seq m_laws_heldConfigS_11 m_laws_heldConfigS_34
def m_laws_heldConfigS_36 : Unit → MCode := fun _ => .seq m_laws_heldConfigS_10 m_laws_heldConfigS_35
def m_laws_heldConfigS_37 : Unit → MCode := fun _ => .block 1 m_laws_heldConfigS_36
def m_laws_heldConfigS_38 : Unit → MCode := fun _ => .region [] [⟨(some 10), .mv (.tmp 5), none, []⟩,
    ⟨(some 11), .bin .add (.tmp 10) (.const (.int .i64 1)), none, []⟩,
    ⟨(some 5), .mv (.tmp 11), none, []⟩] [0, 1, 5]
def m_laws_heldConfigS_39 : Unit → MCode := fun _ => .seq m_laws_heldConfigS_37 m_laws_heldConfigS_38
def m_laws_heldConfigS_40 : Unit → MCode := fun _ => .seq m_laws_heldConfigS_5 m_laws_heldConfigS_39
def m_laws_heldConfigS_41 : Unit → MCode := fun _ => .loop m_laws_heldConfigS_40
def m_laws_heldConfigS_42 : Unit → MCode := fun _ => .block 0 m_laws_heldConfigS_41
def m_laws_heldConfigS_43 : Unit → MCode := fun _ => .seq m_laws_heldConfigS_2 m_laws_heldConfigS_42
def m_laws_heldConfigS_44 : Unit → MCode := fun _ => .region [] [⟨(some 48), .mv (.tmp 1), none, []⟩,
    ⟨(some 4), .mv (.tmp 48), none, []⟩] [4]
def m_laws_heldConfigS_45 : Unit → MCode := fun _ => .seq m_laws_heldConfigS_44 (fun _ => .ret)
def m_laws_heldConfigS_46 : Unit → MCode := fun _ => .seq m_laws_heldConfigS_43 m_laws_heldConfigS_45
def m_laws_heldConfigS_47 : Unit → MCode := fun _ => .seq m_laws_heldConfigS_1 m_laws_heldConfigS_46
def m_laws_heldConfigS : MCode := m_laws_heldConfigS_47 ()
def h_laws_heldConfigS : Hints := [(0, [0, 1], [], [], []), (1, [0, 1, 5], [], [], []), (2, [0, 1, 5, 9], [], [], []), (4, [0, 1, 5, 18], [], [], []), (5, [4], [], [], []), (6, [0, 1, 5], [], [], []), (7, [0, 1, 5, 27], [], [], []), (8, [4], [], [], []), (9, [0, 1, 5], [], [], []), (10, [0, 1, 5], [], [], []), (11, [0, 1, 5, 38], [], [], []), (12, [4], [], [], []), (13, [0, 1, 5], [], [], []), (14, [0, 1, 5, 47], [], [], []), (15, [4], [], [], []), (3, [0, 1, 5], [], [], []), (16, [4], [], [], [])]
def r_laws_heldConfigS : List RV := [.t 4]
abbrev n_laws_heldConfigS : Nat := 106
theorem k_laws_heldConfigS : Known Pr mu n_laws_heldConfigS m_laws_heldConfigS r_laws_heldConfigS Go.Proofs.Try.f106.ntmps := .of h_laws_heldConfigS hm Go.Proofs.Try.func106 (by kernel_rfl) (by kernel_rfl) (by kernel_rfl) (by kernel_rfl)
def m_spec_l2Put_1 : Unit → MCode := fun _ => .region [] [⟨(some 4), .mv (.const (.slice none 0 0)), none, []⟩] [0, 1]
def m_spec_l2Put_2 : Unit → MCode := fun _ => .region [] [⟨(some 5), .mv (.const (.int .i64 0)), none, []⟩] [0, 1, 5]
def m_spec_l2Put_3 : Unit → MCode := fun _ => .region [] [⟨(some 6), .mv (.tmp 5), none, []⟩,
    ⟨(some 7), .mv (.tmp 0), none, []⟩,
    ⟨(some 8), .len false (.tmp 7), none, []⟩,
    ⟨(some 9), .bin .lss (.tmp 6) (.tmp 8), none, []⟩,
    ⟨(some 10), .mv (.tmp 9), none, []⟩,
    ⟨(some 11), .mv (.tmp 0), (some (10, true)), []⟩,
    ⟨(some 12), .mv (.tmp 5), (some (10, true)), []⟩,
    ⟨(some 13), .ia (.tmp 11) (.tmp 12) 1, (some (10, true)), []⟩,
    ⟨(some 14), .ld (.tmp 13) 1 false, (some (10, true)), []⟩,
    ⟨(some 15), .mv (.tmp 1), (some (10, true)), []⟩,
    ⟨(some 16), .bin .lss (.tmp 14) (.tmp 15), (some (10, true)), []⟩,
    ⟨(some 17), .pick (.tmp 10) (.tmp 16) (.const (.bool false)), none, []⟩] [0, 1, 5, 17]
def m_spec_l2Put_4 : Unit → MCode := fun _ => .cond (.tmp 17) (fun _ => .skip) (fun _ => .exit 0)
def m_spec_l2Put_5 : Unit → MCode := fun _ => .seq m_spec_l2Put_3 m_spec_l2Put_4
def m_spec_l2Put_6 : Unit → MCode := fun _ => .region [] [⟨(some 18), .mv (.tmp 5), none, []⟩,
    ⟨(some 19), .bin .add (.tmp 18) (.const (.int .i64 1)), none, []⟩,
    ⟨(some 5), .mv (.tmp 19), none, []⟩] [0, 1, 5]
def m_spec_l2Put_7 : Unit → MCode := fun _ => .block 1 m_spec_l2Put_6
def m_spec_l2Put_8 : Unit → MCode := fun _ => .seq m_spec_l2Put_5 m_spec_l2Put_7
def m_spec_l2Put_9 : Unit → MCode := fun _ => .loop m_spec_l2Put_8
def m_spec_l2Put_10 : Unit → MCode := fun _ => .block 0 m_spec_l2Put_9
def m_spec_l2Put_11 : Unit → MCode := fun _ => .region [] [⟨(some 20), .mv (.tmp 5), none, []⟩,
    ⟨(some 21), .mv (.tmp 0), none, []⟩,
    ⟨(some 22), .len false (.tmp 21), none, []⟩,
    ⟨(some 23), .bin .lss (.tmp 20) (.tmp 22), none, []⟩,
    ⟨(some 24), .mv (.tmp 23), none, []⟩,
    ⟨(some 25), .mv (.tmp 0), (some (24, true)), []⟩,
    ⟨(some 26), .mv (.tmp 5), (some (24, true)), []⟩,
    ⟨(some 27), .ia (.tmp 25) (.tmp 26) 1, (some (24, true)), []⟩,
    ⟨(some 28), .ld (.tmp 27) 1 false, (some (24, true)), []⟩,
    ⟨(some 29), .mv (.tmp 1), (some (24, true)), []⟩,
    ⟨(some 30), .bin .eql (.tmp 28) (.tmp 29), (some (24, true)), []⟩,
    ⟨(some 31), .pick (.tmp 24) (.tmp 30) (.const (.bool false)), none, []⟩] [0, 1, 5, 31]
def m_spec_l2Put_12 : Unit → MCode := fun _ => .region [] [⟨(some 32), .bsl 1 0 [.int .i64 0] [], none, []⟩,
    ⟨(some 33), .mv (.tmp 0), none, []⟩,
    ⟨(some 34), .app (.tmp 32) (.tmp 33) 1 8, none, []⟩,
    ⟨(some 4), .mv (.tmp 34), none, []⟩] [4]
def m_spec_l2Put_13 : Unit → MCode := fun _ => .seq m_spec_l2Put_12 (fun _ => .ret)
def m_spec_l2Put_14 : Unit → MCode := fun _ => .cond (.tmp 31) m_spec_l2Put_13 (fun _ => .skip)
def m_spec_l2Put_15 : Unit → MCode := fun _ => .seq m_spec_l2Put_11 m_spec_l2Put_14
def m_spec_l2Put_16 : Unit → MCode := fun _ => .region [⟨(some 43), .mv (.tmp 0), none, []⟩, ⟨(some 44), .mv (.tmp 5), none, []⟩, ⟨(some 45), .slf (.tmp 43) (some (.tmp 44)) none 1, none, []⟩] [⟨(some 35), .bsl 1 0 [.int .i64 0] [], none, []⟩,
    ⟨(some 36), .mv (.tmp 0), none, []⟩,
    ⟨(some 37), .mv (.tmp 5), none, []⟩,
    ⟨(some 38), .slc false (.tmp 36) none (some (.tmp 37)) none 1, none, [0]⟩,
    ⟨(some 39), .appn (.tmp 35) (.tmp 38) 1 8, none, [1000000]⟩,
    ⟨(some 40), .mv (.tmp 1), none, []⟩,
    ⟨(some 41), .bsl 1 1 [.int .i64 0] [(0, (.tmp 40))], none, []⟩,
    ⟨(some 42), .app (.tmp 39) (.tmp 41) 1 8, none, []⟩,
    ⟨(some 43), .mv (.tmp 43), none, []⟩,
    ⟨(some 44), .mv (.tmp 44), none, []⟩,
    ⟨(some 45), .mv (.tmp 45), none, []⟩,
    ⟨(some 46), .app (.tmp 42) (.tmp 45) 1 8, none, []⟩,
    ⟨(some 4), .mv (.tmp 46), none, []⟩] [4]
def m_spec_l2Put_17 : Unit → MCode := fun _ => .seq m_spec_l2Put_16 (fun _ => .ret)
def m_spec_l2Put_18 : Unit → MCode := fun _ => .seq m_spec_l2Put_15 m_spec_l2Put_17
def m_spec_l2Put_19 : Unit → MCode := fun _ => .seq m_spec_l2Put_10 m_spec_l2Put_18
def m_spec_l2Put_20 : Unit → MCode := fun _ => .seq m_spec_l2Put_2 m_spec_l2Put_19
def m_spec_l2Put_21 : Unit → MCode := fun _ => .seq m_spec_l2Put_1 m_spec_l2Put_20
def m_spec_l2Put : MCode := m_spec_l2Put_21 ()
def h_spec_l2Put : Hints := [(0, [0, 1], [], [], []), (1, [0, 1, 5], [], [], []), (2, [0, 1, 5, 17], [], [], []), (3, [0, 1, 5], [], [], []), (4, [0, 1, 5, 31], [], [], []), (5, [4], [], [], []), (6, [4], [[], [], [], [0], [1000000]], [8, 9, 10], [])]
def r_spec_l2Put : List RV := [.t 4]
abbrev n_spec_l2Put : Nat := 110
theorem k_spec_l2Put : Known Pr mu n_spec_l2Put m_spec_l2Put r_spec_l2Put Go.Proofs.Try.f110.ntmps := .of h_spec_l2Put hm Go.Proofs.Try.func110 (by kernel_rfl) (by kernel_rfl) (by kernel_rfl) (by kernel_rfl)
def m_impl_ascending_1 : Unit → MCode := fun _ => .region [] [⟨(some 2), .mv (.const (.slice none 0 0)), none, []⟩] [0]
def m_impl_ascending_2 : Unit → MCode := fun _ => .region [] [⟨(some 4), .mv (.tmp 0), none, []⟩,
    ⟨(some 5), .call 122 [(.tmp 4)], none, []⟩,
    ⟨(some 3), .mv (.tmp 5), none, []⟩] [3]
def m_impl_ascending_3 : Unit → MCode := fun _ => .region [] [⟨(some 6), .mv (.tmp 3), none, []⟩,
    ⟨(some 7), .callm 123 [(.tmp 6)], none, []⟩] [3]
def m_impl_ascending_4 : Unit → MCode := fun _ => .region [] [⟨(some 8), .mv (.tmp 3), none, []⟩,
    ⟨(some 9), .callm 124 [(.tmp 8)], none, []⟩,
    ⟨(some 2), .mv (.tmp 9), none, []⟩] [2]
def m_impl_ascending_5 : Unit → MCode := fun _ => .seq m_impl_ascending_4 (fun _ => .ret)
def m_impl_ascending_6 : Unit → MCode := fun _ => .seq m_impl_ascending_3 m_impl_ascending_5
def m_impl_ascending_7 : Unit → MCode := fun _ => .seq m_impl_ascending_2 m_impl_ascending_6
def m_impl_ascending_8 : Unit → MCode := fun _ => .seq m_impl_ascending_1 m_impl_ascending_7
def m_impl_ascending : MCode := m_impl_ascending_8 ()
def h_impl_ascending : Hints := [(0, [0], [], [], []), (1, [3], [], [], []), (2, [3], [], [], []), (3, [2], [], [], [])]
def r_impl_ascending : List RV := [.t 2]
abbrev n_impl_ascending : Nat := 111
theorem k_impl_ascending : Known Pr mu n_impl_ascending m_impl_ascending r_impl_ascending Go.Proofs.Try.f111.ntmps := .of h_impl_ascending hm Go.Proofs.Try.func111 (by kernel_rfl) (by kernel_rfl) (by kernel_rfl) (by kernel_rfl)
def m_slices_Contains_intint_1 : Unit → MCode := fun _ => .region [] [⟨(some 4), .mv (.const (.bool false)), none, []⟩] [0, 1]
def m_slices_Contains_intint_2 : Unit → MCode := fun _ => .region [] [⟨(some 5), .mv (.tmp 0), none, []⟩,
    ⟨(some 6), .mv (.tmp 1), none, []⟩,
    ⟨(some 7), .call 128 [(.tmp 5), (.tmp 6)], none, []⟩,
    ⟨(some 8), .bin .geq (.tmp 7) (.const (.int .i64 0)), none, []⟩,
    ⟨(some 4), .mv (.tmp 8), none, []⟩] [4]
def m_slices_Contains_intint_3 : Unit → MCode := fun _ => .seq m_slices_Contains_intint_2 (fun _ => .ret)
def m_slices_Contains_intint_4 : Unit → MCode := fun _ => .seq m_slices_Contains_intint_1 m_slices_Contains_intint_3
def m_slices_Contains_intint : MCode := m_slices_Contains_intint_4 ()
def h_slices_Contains_intint : Hints := [(0, [0, 1], [], [], []), (1, [4], [], [], [])]
def r_slices_Contains_intint : List RV := [.t 4]
abbrev n_slices_Contains_intint : Nat := 119
theorem k_slices_Contains_intint : Known Pr mu n_slices_Contains_intint m_slices_Contains_intint r_slices_Contains_intint Go.Proofs.Try.f119.ntmps := .of h_slices_Contains_intint hm Go.Proofs.Try.func119 (by kernel_rfl) (by kernel_rfl) (by kernel_rfl) (by kernel_rfl)
def m_impl_WithoutServers_1 : Unit → MCode := fun _ => .region [] [⟨(some 3), .box (.tmp 1), none, []⟩,
    ⟨(some 4), .mv (.const (.slice none 0 0)), none, []⟩] [0, 3]
def m_impl_WithoutServers_2 : Unit → MCode := fun _ => .region [] [⟨(some 5), .mv (.tmp 0), none, []⟩,
    ⟨(some 6), .call 111 [(.tmp 5)], none, []⟩,
    ⟨(some 7), .mkf 130 [(.tmp 3)], none, []⟩,
    ⟨(some 8), .callm 129 [(.tmp 6), (.tmp 7)], none, []⟩,
    ⟨(some 4), .mv (.tmp 8), none, []⟩] [4]
def m_impl_WithoutServers_3 : Unit → MCode := fun _ => .seq m_impl_WithoutServers_2 (fun _ => .ret)
def m_impl_WithoutServers_4 : Unit → MCode := fun _ => .seq m_impl_WithoutServers_1 m_impl_WithoutServers_3
def m_impl_WithoutServers : MCode := m_impl_WithoutServers_4 ()
def h_impl_WithoutServers : Hints := [(0, [0, 3], [], [], []), (1, [4], [], [], [])]
def r_impl_WithoutServers : List RV := [.t 4]
abbrev n_impl_WithoutServers : Nat := 120
theorem k_impl_WithoutServers : Known Pr mu n_impl_WithoutServers m_impl_WithoutServers r_impl_WithoutServers Go.Proofs.Try.f120.ntmps := .of h_impl_WithoutServers hm Go.Proofs.Try.func120 (by kernel_rfl) (by kernel_rfl) (by kernel_rfl) (by kernel_rfl)
def m_slices_Clone_intint_1 : Unit → MCode := fun _ => .region [] [⟨(some 2), .mv (.const (.slice none 0 0)), none, []⟩] [0]
def m_slices_Clone_intint_2 : Unit → MCode := fun _ => .region [] [⟨(some 3), .mv (.tmp 0), none, []⟩,
    ⟨(some 4), .nbin .eql (.tmp 3) (.const (.slice none 0 0)), none, []⟩] [0, 4]
def m_slices_Clone_intint_3 : Unit → MCode := fun _ => .region [] [⟨(some 2), .mv (.const (.slice none 0 0)), none, []⟩] [2]
def m_slices_Clone_intint_4 : Unit → MCode := fun _ => .seq m_slices_Clone_intint_3 (fun _ => .ret)
def m_slices_Clone_intint_5 : Unit → MCode := fun _ => .cond (.tmp 4) m_slices_Clone_intint_4 (fun _ => .skip)
def m_slices_Clone_intint_6 : Unit → MCode := fun _ => .seq m_slices_Clone_intint_2 m_slices_Clone_intint_5
def m_slices_Clone_intint_7 : Unit → MCode := fun _ => .region [] [⟨(some 5), .bsl 1 0 [.int .i64 0] [], none, []⟩,
    ⟨(some 6), .mv (.tmp 0), none, []⟩,
    ⟨(some 7), .app (.tmp 5) (.tmp 6) 1 8, none, []⟩,
    ⟨(some 2), .mv (.tmp 7), none, []⟩] [2]
def m_slices_Clone_intint_8 : Unit → MCode := fun _ => .seq m_slices_Clone_intint_7 (fun _ => .ret)
def m_slices_Clone_intint_9 : Unit → MCode := fun _ => .seq m_slices_Clone_intint_6 m_slices_Clone_intint_8
def m_slices_Clone_intint_10 : Unit → MCode := fun _ => .seq m_slices_Clone_intint_1 m_slices_Clone_intint_9
def m_slices_Clone_intint : MCode := m_slices_Clone_intint_10 ()
def h_slices_Clone_intint : Hints := [(0, [0], [], [], []), (1, [0, 4], [], [], []), (2, [2], [], [], []), (3, [2], [], [], [])]
def r_slices_Clone_intint : List RV := [.t 2]
abbrev n_slices_Clone_intint : Nat := 122
theorem k_slices_Clone_intint : Known Pr mu n_slices_Clone_intint m_slices_Clone_intint r_slices_Clone_intint Go.Proofs.Try.f122.ntmps := .of h_slices_Clone_intint hm Go.Proofs.Try.func122 (by kernel_rfl) (by kernel_rfl) (by kernel_rfl) (by kernel_rfl)
def m_slices_Sort_intint_1 : Unit → MCode := fun _ => .region [] [⟨(some 3), .mv (.tmp 0), none, []⟩,
    ⟨(some 4), .len false (.tmp 3), none, []⟩,
    ⟨(some 2), .mv (.tmp 4), none, []⟩] [0, 2]
def m_slices_Sort_intint_2 : Unit → MCode := fun _ => .region [] [⟨(some 5), .mv (.tmp 0), none, []⟩,
    ⟨(some 6), .mv (.tmp 2), none, []⟩,
    ⟨(some 7), .mv (.tmp 2), none, []⟩,
    ⟨(some 8), .conv .u64 (.tmp 7), none, []⟩,
    ⟨(some 9), .call 132 [(.tmp 8)], none, []⟩,
    ⟨(some 10), .callm 131 [(.tmp 5), (.const (.int .i64 0)), (.tmp 6), (.tmp 9)], none, []⟩] []
def m_slices_Sort_intint_3 : Unit → MCode := fun _ => .seq m_slices_Sort_intint_1 m_slices_Sort_intint_2
def m_slices_Sort_intint : MCode := m_slices_Sort_intint_3 ()
def h_slices_Sort_intint : Hints := [(0, [0, 2], [], [], []), (1, [], [], [], [])]
def r_slices_Sort_intint : List RV := []
abbrev n_slices_Sort_intint : Nat := 123
theorem k_slices_Sort_intint : Known Pr mu n_slices_Sort_intint m_slices_Sort_intint r_slices_Sort_intint Go.Proofs.Try.f123.ntmps := .of h_slices_Sort_intint hm Go.Proofs.Try.func123 (by kernel_rfl) (by kernel_rfl) (by kernel_rfl) (by kernel_rfl)
def m_slices_Compact_intint_1 : Unit → MCode := fun _ => .region [] [⟨(some 2), .mv (.const (.slice none 0 0)), none, []⟩] [0]
def m_slices_Compact_intint_2 : Unit → MCode := fun _ => .region [] [⟨(some 6), .mv (.tmp 0), none, []⟩,
    ⟨(some 7), .len false (.tmp 6), none, []⟩,
    ⟨(some 8), .bin .lss (.tmp 7) (.const (.int .i64 2)), none, []⟩] [0, 8]
def m_slices_Compact_intint_3 : Unit → MCode := fun _ => .region [] [⟨(some 9), .mv (.tmp 0), none, []⟩,
    ⟨(some 2), .mv (.tmp 9), none, []⟩] [2]
def m_slices_Compact_intint_4 : Unit → MCode := fun _ => .seq m_slices_Compact_intint_3 (fun _ => .ret)
def m_slices_Compact_intint_5 : Unit → MCode := fun _ => .cond (.tmp 8) m_slices_Compact_intint_4 (fun _ => .skip)
def m_slices_Compact_intint_6 : Unit → MCode := fun _ => .seq m_slices_Compact_intint_2 m_slices_Compact_intint_5
def m_slices_Compact_intint_7 : Unit → MCode := fun _ => .region [] [⟨(some 3), .mv (.const (.int .i64 1)), none, []⟩] [0, 3]
def m_slices_Compact_intint_8 : Unit → MCode := fun _ => .region [] [⟨(some 10), .mv (.tmp 3), none, []⟩,
    ⟨(some 11), .mv (.tmp 0), none, []⟩,
    ⟨(some 12), .len false (.tmp 11), none, []⟩,
    ⟨(some 13), .bin .lss (.tmp 10) (.tmp 12), none, []⟩] [0, 3, 13]
def m_slices_Compact_intint_9 : Unit → MCode := fun _ => .cond (.tmp 13) (fun _ => .skip) (fun _ => .exit 0)
def m_slices_Compact_intint_10 : Unit → MCode := fun _ => .seq m_slices_Compact_intint_8 m_slices_Compact_intint_9
def m_slices_Compact_intint_11 : Unit → MCode := fun _ => .region [] [⟨(some 16), .mv (.tmp 0), none, []⟩,
    ⟨(some 17), .mv (.tmp 3), none, []⟩,
    ⟨(some 18), .ia (.tmp 16) (.tmp 17) 1, none, []⟩,
    ⟨(some 19), .ld (.tmp 18) 1 false, none, []⟩,
    ⟨(some 20), .mv (.tmp 0), none, []⟩,
    ⟨(some 21), .mv (.tmp 3), none, []⟩,
    ⟨(some 22), .bin .sub (.tmp 21) (.const (.int .i64 1)), none, []⟩,
    ⟨(some 23), .ia (.tmp 20) (.tmp 22) 1, none, [0, 1, 2, 3]⟩,
    ⟨(some 24), .ld (.tmp 23) 1 false, none, [0, 1, 2, 3]⟩,
    ⟨(some 25), .bin .eql (.tmp 19) (.tmp 24), none, []⟩] [0, 3, 25]
def m_slices_Compact_intint_12 : Unit → MCode := fun _ => .region [] [⟨(some 26), .mv (.tmp 0), none, []⟩,
    ⟨(some 27), .mv (.tmp 3), none, []⟩,
    ⟨(some 28), .slc false (.tmp 26) (some (.tmp 27)) none none 1, none, []⟩,
    ⟨(some 4), .mv (.tmp 28), none, []⟩] [0, 3, 4]
def m_slices_Compact_intint_13 : Unit → MCode := fun _ => .region [] [⟨(some 5), .mv (.const (.int .i64 1)), none, []⟩] [0, 3, 4, 5]
def m_slices_Compact_intint_14 : Unit → MCode := fun _ => .region [] [⟨(some 29), .mv (.tmp 5), none, []⟩,
    ⟨(some 30), .mv (.tmp 4), none, []⟩,
    ⟨(some 31), .len false (.tmp 30), none, []⟩,
    ⟨(some 32), .bin .lss (.tmp 29) (.tmp 31), none, []⟩] [0, 3, 4, 5, 32]
def m_slices_Compact_intint_15 : Unit → MCode := fun _ => .cond (.tmp 32) (fun _ => .skip) (fun _ => .exit 2)
def m_slices_Compact_intint_16 : Unit → MCode := fun _ => .seq m_slices_Compact_intint_14 m_slices_Compact_intint_15
def m_slices_Compact_intint_17 : Unit → MCode := fun _ => .region [] [⟨(some 35), .mv (.tmp 4), none, []⟩,
    ⟨(some 36), .mv (.tmp 5), none, []⟩,
    ⟨(some 37), .ia (.tmp 35) (.tmp 36) 1, none, []⟩,
    ⟨(some 38), .ld (.tmp 37) 1 false, none, []⟩,
    ⟨(some 39), .mv (.tmp 4), none, []⟩,
    ⟨(some 40), .mv (.tmp 5), none, []⟩,
    ⟨(some 41), .bin .sub (.tmp 40) (.const (.int .i64 1)), none, []⟩,
    ⟨(some 42), .ia (.tmp 39) (.tmp 41) 1, none, [0, 1, 2, 3]⟩,
    ⟨(some 43), .ld (.tmp 42) 1 false, none, [0, 1, 2, 3]⟩,
    ⟨(some 44), .bin .neq (.tmp 38) (.tmp 43), none, []⟩] [0, 3, 4, 5, 44]
def m_slices_Compact_intint_18 : Unit → MCode := fun _ => .region [] [⟨(some 45), .mv (.tmp 0), none, []⟩,
    ⟨(some 46), .mv (.tmp 3), none, []⟩,
    ⟨(some 47), .mv (.tmp 4), none, []⟩,
    ⟨(some 48), .mv (.tmp 5), none, []⟩,
    ⟨(some 49), .ia (.tmp 47) (.tmp 48) 1, none, []⟩,
    ⟨(some 50), .ld (.tmp 49) 1 false, none, []⟩,
    ⟨(some 51), .ia (.tmp 45) (.tmp 46) 1, none, []⟩,
    ⟨none, .sto (.tmp 51) (.tmp 50) 1, none, []⟩] [0, 3, 4, 5]
def m_slices_Compact_intint_19 : Unit → MCode := fun _ => .region [] [⟨(some 52), .mv (.tmp 3), none, []⟩,
    ⟨(some 53), .bin .add (.tmp 52) (.const (.int .i64 1)), none, []⟩,
    ⟨(some 3), .mv (.tmp 53), none, []⟩] [0, 3, 4, 5]
def m_slices_Compact_intint_20 : Unit → MCode := fun _ => .seq m_slices_Compact_intint_18 m_slices_Compact_intint_19
def m_slices_Compact_intint_21 : Unit → MCode := fun _ => .cond (.tmp 44) m_slices_Compact_intint_20 (fun _ => .skip)
def m_slices_Compact_intint_22 : Unit → MCode := fun _ => .seq m_slices_Compact_intint_17 m_slices_Compact_intint_21
def m_slices_Compact_intint_23 : Unit → MCode := fun _ => .block 3 m_slices_Compact_intint_22
def m_slices_Compact_intint_24 : Unit → MCode := fun _ => .region [] [⟨(some 33), .mv (.tmp 5), none, []⟩,
    ⟨(some 34), .bin .add (.tmp 33) (.const (.int .i64 1)), none, []⟩,
    ⟨(some 5), .mv (.tmp 34), none, []⟩] [0, 3, 4, 5]
def m_slices_Compact_intint_25 : Unit → MCode := fun _ => .seq m_slices_Compact_intint_23 m_slices_Compact_intint_24
def m_slices_Compact_intint_26 : Unit → MCode := fun _ => .seq m_slices_Compact_intint_16 m_slices_Compact_intint_25
def m_slices_Compact_intint_27 : Unit → MCode := fun _ => .loop m_slices_Compact_intint_26
def m_slices_Compact_intint_28 : Unit → MCode := fun _ => .block 2 m_slices_Compact_intint_27
def m_slices_Compact_intint_29 : Unit → MCode := fun _ => .seq m_slices_Compact_intint_13 m_slices_Compact_intint_28
def m_slices_Compact_intint_30 : Unit → MCode := fun _ => .region [] [⟨(some 54), .mv (.tmp 0), none, []⟩,
    ⟨(some 55), .mv (.tmp 3), none, []⟩,
    ⟨(some 56), .slc false (.tmp 54) (some (.tmp 55)) none none 1, none, []⟩,
    ⟨none, .clr (.tmp 56) 1 [.int .i64 0], none, []⟩] [0, 3]
def m_slices_Compact_intint_31 : Unit → MCode := fun _ => .region [] [⟨(some 57), .mv (.tmp 0), none, []⟩,
    ⟨(some 58), .mv (.tmp 3), none, []⟩,
    ⟨(some 59), .slc false (.tmp 57) none (some (.tmp 58)) none 1, none, []⟩,
    ⟨(some 2), .mv (.tmp 59), none, []⟩] [2]
def m_slices_Compact_intint_32 : Unit → MCode := fun _ => .seq m_slices_Compact_intint_31 (fun _ => .ret)
def m_slices_Compact_intint_33 : Unit → MCode := fun _ => .seq m_slices_Compact_intint_30 m_slices_Compact_intint_32
def m_slices_Compact_intint_34 : Unit → MCode := fun _ => .seq m_slices_Compact_intint_29 m_slices_Compact_intint_33
def m_slices_Compact_intint_35 : Unit → MCode := fun _ => .seq m_slices_Compact_intint_12 m_slices_Compact_intint_34
def m_slices_Compact_intint_36 : Unit → MCode := fun _ => .cond (.tmp 25) m_slices_Compact_intint_35 (fun _ => .skip)
def m_slices_Compact_intint_37 : Unit → MCode := fun _ => .seq m_slices_Compact_intint_11 m_slices_Compact_intint_36
def m_slices_Compact_intint_38 : Unit → MCode := fun _ => .block 1 m_slices_Compact_intint_37
def m_slices_Compact_intint_39 : Unit → MCode := fun _ => .region [] [⟨(some 14), .mv (.tmp 3), none, []⟩,
    ⟨(some 15), .bin .add (.tmp 14) (.const (.int .i64 1)), none, []⟩,
    ⟨(some 3), .mv (.tmp 15), none, []⟩] [0, 3]
def m_slices_Compact_intint_40 : Unit → MCode := fun _ => .seq m_slices_Compact_intint_38 m_slices_Compact_intint_39
def m_slices_Compact_intint_41 : Unit → MCode := fun _ => .seq m_slices_Compact_intint_10 m_slices_Compact_intint_40
def m_slices_Compact_intint_42 : Unit → MCode := fun _ => .loop m_slices_Compact_intint_41
def m_slices_Compact_intint_43 : Unit → MCode := fun _ => .block 0 m_slices_Compact_intint_42
def m_slices_Compact_intint_44 : Unit → MCode := fun _ => .seq m_slices_Compact_intint_7 m_slices_Compact_intint_43
def m_slices_Compact_intint_45 : Unit → MCode := fun _ => .region [] [⟨(some 60), .mv (.tmp 0), none, []⟩,
    ⟨(some 2), .mv (.tmp 60), none, []⟩] [2]
def m_slices_Compact_intint_46 : Unit → MCode := fun _ => .seq m_slices_Compact_intint_45 (fun _ => .ret)
def m_slices_Compact_intint_47 : Unit → MCode := fun _ => .seq m_slices_Compact_intint_44 m_slices_Compact_intint_46
def m_slices_Compact_intint_48 : Unit → MCode := fun _ => .seq m_slices_Compact_intint_6 m_slices_Compact_intint_47
def m_slices_Compact_intint_49 : Unit → MCode := fun _ => .seq m_slices_Compact_intint_1 m_slices_Compact_intint_48
def m_slices_Compact_intint : MCode := m_slices_Compact_intint_49 ()
def h_slices_Compact_intint : Hints := [(0, [0], [], [], []), (1, [0, 8], [], [], []), (2, [2], [], [], []), (3, [0, 3], [], [], []), (4, [0, 3, 13], [], [], []), (6, [0, 3, 25], [[], [], [], [], [], [], [], [0, 1, 2, 3], [0, 1, 2, 3]], [], []), (7, [0, 3, 4], [], [], []), (8, [0, 3, 4, 5], [], [], []), (9, [0, 3, 4, 5, 32], [], [], []), (11, [0, 3, 4, 5, 44], [[], [], [], [], [], [], [], [0, 1, 2, 3], [0, 1, 2, 3]], [], []), (12, [0, 3, 4, 5], [], [], []), (13, [0, 3, 4, 5], [], [], []), (10, [0, 3, 4, 5], [], [], []), (14, [0, 3], [], [], []), (15, [2], [], [], []), (5, [0, 3], [], [], []), (16, [2], [], [], [])]
def r_slices_Compact_intint : List RV := [.t 2]
abbrev n_slices_Compact_intint : Nat := 124
theorem k_slices_Compact_intint : Known Pr mu n_slices_Compact_intint m_slices_Compact_intint r_slices_Compact_intint Go.Proofs.Try.f124.ntmps := .of h_slices_Compact_intint hm Go.Proofs.Try.func124 (by kernel_rfl) (by kernel_rfl) (by kernel_rfl) (by kernel_rfl)
def m_slices_Index_intint_1 : Unit → MCode := fun _ => .region [] [⟨(some 4), .mv (.const (.int .i64 0)), none, []⟩] [0, 1]
def m_slices_Index_intint_2 : Unit → MCode := fun _ => .region [] [⟨(some 6), .mv (.tmp 0), none, []⟩,
    ⟨(some 7), .len false (.tmp 6), none, []⟩,
    ⟨(some 8), .mv (.const (.int .i64 0)), none, []⟩] [0, 1, 7, 8]
def m_slices_Index_intint_3 : Unit → MCode := fun _ => .region [] [⟨(some 9), .bin .lss (.tmp 8) (.tmp 7), none, []⟩] [0, 1, 7, 8, 9]
def m_slices_Index_intint_4 : Unit → MCode := fun _ => .cond (.tmp 9) (fun _ => .skip) (fun _ => .exit 0)
def m_slices_Index_intint_5 : Unit → MCode := fun _ => .region [] [⟨(some 10), .mv (.tmp 8), none, []⟩,
    ⟨(some 5), .mv (.tmp 10), none, []⟩] [0, 1, 5, 7, 8]
def m_slices_Index_intint_6 : Unit → MCode := fun _ => .region [] [⟨(some 11), .mv (.tmp 1), none, []⟩,
    ⟨(some 12), .mv (.tmp 0), none, []⟩,
    ⟨(some 13), .mv (.tmp 5), none, []⟩,
    ⟨(some 14), .ia (.tmp 12) (.tmp 13) 1, none, []⟩,
    ⟨(some 15), .ld (.tmp 14) 1 false, none, []⟩,
    ⟨(some 16), .bin .eql (.tmp 11) (.tmp 15), none, []⟩] [0, 1, 5, 7, 8, 16]
def m_slices_Index_intint_7 : Unit → MCode := fun _ => .region [] [⟨(some 17), .mv (.tmp 5), none, []⟩,
    ⟨(some 4), .mv (.tmp 17), none, []⟩] [4]
def m_slices_Index_intint_8 : Unit → MCode := fun _ => .seq m_slices_Index_intint_7 (fun _ => .ret)
def m_slices_Index_intint_9 : Unit → MCode := fun _ => .cond (.tmp 16) m_slices_Index_intint_8 (fun _ => .skip)
def m_slices_Index_intint_10 : Unit → MCode := fun _ => .seq m_slices_Index_intint_6 m_slices_Index_intint_9
def m_slices_Index_intint_11 : Unit → MCode := fun _ => .seq m_slices_Index_intint_5 m_slices_Index_intint_10
def m_slices_Index_intint_12 : Unit → MCode := fun _ => .block 1 m_slices_Index_intint_11
def m_slices_Index_intint_13 : Unit → MCode := fun _ => .region [] [⟨(some 18), .bin .add (.tmp 8) (.const (.int .i64 1)), none, []⟩,
    ⟨(some 8), .mv (.tmp 18), none, []⟩] [0, 1, 7, 8]
def m_slices_Index_intint_14 : Unit → MCode := fun _ => .seq m_slices_Index_intint_12 m_slices_Index_intint_13
def m_slices_Index_intint_15 : Unit → MCode := fun _ => .seq m_slices_Index_intint_4 m_slices_Index_intint_14
def m_slices_Index_intint_16 : Unit → MCode := fun _ => .seq m_slices_Index_intint_3 m_slices_Index_intint_15
def m_slices_Index_intint_17 : Unit → MCode := fun _ => .loop m_slices_Index_intint_16
def m_slices_Index_intint_18 : Unit → MCode := fun _ => .block 0 m_slices_Index_intint_17
def m_slices_Index_intint_19 : Unit → MCode := fun _ => .seq m_slices_Index_intint_2 m_slices_Index_intint_18
def m_slices_Index_intint_20 : Unit → MCode := fun _ => .region [] [⟨(some 4), .mv (.const (.int .i64 (-1))), none, []⟩] [4]
def m_slices_Index_intint_21 : Unit → MCode := fun _ => .seq m_slices_Index_intint_20 (fun _ => .ret)
def m_slices_Index_intint_22 : Unit → MCode := fun _ => .seq m_slices_Index_intint_19 m_slices_Index_intint_21
def m_slices_Index_intint_23 : Unit → MCode := fun _ => .seq m_slices_Index_intint_1 m_slices_Index_intint_22
def m_slices_Index_intint : MCode := m_slices_Index_intint_23 ()
def h_slices_Index_intint : Hints := [(0, [0, 1], [], [], []), (1, [0, 1, 7, 8], [], [], []), (2, [0, 1, 7, 8, 9], [], [], []), (3, [0, 1, 5, 7, 8], [], [], []), (4, [0, 1, 5, 7, 8, 16], [], [], []), (5, [4], [], [], []), (6, [0, 1, 7, 8], [], [], []), (7, [4], [], [], [])]
def r_slices_Index_intint : List RV := [.t 4]
abbrev n_slices_Index_intint : Nat := 128
theorem k_slices_Index_intint : Known Pr mu n_slices_Index_intint m_slices_Index_intint r_slices_Index_intint Go.Proofs.Try.f128.ntmps := .of h_slices_Index_intint hm Go.Proofs.Try.func128 (by kernel_rfl) (by kernel_rfl) (by kernel_rfl) (by kernel_rfl)
def m_slices_DeleteFunc_intint_1 : Unit → MCode := fun _ => .region [] [⟨(some 4), .mv (.const (.slice none 0 0)), none, []⟩] [0, 1]
def m_slices_DeleteFunc_intint_2 : Unit → MCode := fun _ => .region [] [⟨(some 8), .mv (.tmp 0), none, []⟩,
    ⟨(some 9), .mv (.tmp 1), none, []⟩,
    ⟨(some 10), .call 133 [(.tmp 8), (.tmp 9)], none, []⟩,
    ⟨(some 5), .mv (.tmp 10), none, []⟩] [0, 1, 5]
def m_slices_DeleteFunc_intint_3 : Unit → MCode := fun _ => .region [] [⟨(some 11), .mv (.tmp 5), none, []⟩,
    ⟨(some 12), .bin .eql (.tmp 11) (.const (.int .i64 (-1))), none, []⟩] [0, 1, 5, 12]
def m_slices_DeleteFunc_intint_4 : Unit → MCode := fun _ => .region [] [⟨(some 13), .mv (.tmp 0), none, []⟩,
    ⟨(some 4), .mv (.tmp 13), none, []⟩] [4]
def m_slices_DeleteFunc_intint_5 : Unit → MCode := fun _ => .seq m_slices_DeleteFunc_intint_4 (fun _ => .ret)
def m_slices_DeleteFunc_intint_6 : Unit → MCode := fun _ => .cond (.tmp 12) m_slices_DeleteFunc_intint_5 (fun _ => .skip)
def m_slices_DeleteFunc_intint_7 : Unit → MCode := fun _ => .seq m_slices_DeleteFunc_intint_3 m_slices_DeleteFunc_intint_6
def m_slices_DeleteFunc_intint_8 : Unit → MCode := fun _ => .region [] [⟨(some 14), .mv (.tmp 5), none, []⟩,
    ⟨(some 15), .bin .add (.tmp 14) (.const (.int .i64 1)), none, []⟩,
    ⟨(some 6), .mv (.tmp 15), none, []⟩] [0, 1, 5, 6]
def m_slices_DeleteFunc_intint_9 : Unit → MCode := fun _ => .region [] [⟨(some 16), .mv (.tmp 6), none, []⟩,
    ⟨(some 17), .mv (.tmp 0), none, []⟩,
    ⟨(some 18), .len false (.tmp 17), none, []⟩,
    ⟨(some 19), .bin .lss (.tmp 16) (.tmp 18), none, []⟩] [0, 1, 5, 6, 19]
def m_slices_DeleteFunc_intint_10 : Unit → MCode := fun _ => .cond (.tmp 19) (fun _ => .skip) (fun _ => .exit 0)
def m_slices_DeleteFunc_intint_11 : Unit → MCode := fun _ => .seq m_slices_DeleteFunc_intint_9 m_slices_DeleteFunc_intint_10
def m_slices_DeleteFunc_intint_12 : Unit → MCode := fun _ => .region [] [⟨(some 22), .mv (.tmp 0), none, []⟩,
    ⟨(some 23), .mv (.tmp 6), none, []⟩,
    ⟨(some 24), .ia (.tmp 22) (.tmp 23) 1, none, []⟩,
    ⟨(some 25), .ld (.tmp 24) 1 false, none, []⟩,
    ⟨(some 7), .mv (.tmp 25), none, []⟩] [0, 1, 5, 6, 7]
def m_slices_DeleteFunc_intint_13 : Unit → MCode := fun _ => .region [] [⟨(some 26), .mv (.tmp 1), none, []⟩,
    ⟨(some 27), .mv (.tmp 7), none, []⟩,
    ⟨(some 28), .callv (.tmp 26) [(.tmp 27)], none, []⟩,
    ⟨(some 29), .not (.tmp 28), none, []⟩] [0, 1, 5, 6, 7, 29]
def m_slices_DeleteFunc_intint_14 : Unit → MCode := fun _ => .region [] [⟨(some 30), .mv (.tmp 0), none, []⟩,
    ⟨(some 31), .mv (.tmp 5), none, []⟩,
    ⟨(some 32), .mv (.tmp 7), none, []⟩,
    ⟨(some 33), .ia (.tmp 30) (.tmp 31) 1, none, []⟩,
    ⟨none, .sto (.tmp 33) (.tmp 32) 1, none, []⟩] [0, 1, 5, 6]
def m_slices_DeleteFunc_intint_15 : Unit → MCode := fun _ => .region [] [⟨(some 34), .mv (.tmp 5), none, []⟩,
    ⟨(some 35), .bin .add (.tmp 34) (.const (.int .i64 1)), none, []⟩,
    ⟨(some 5), .mv (.tmp 35), none, []⟩] [0, 1, 5, 6]
def m_slices_DeleteFunc_intint_16 : Unit → MCode := fun _ => .seq m_slices_DeleteFunc_intint_14 m_slices_DeleteFunc_intint_15
def m_slices_DeleteFunc_intint_17 : Unit → MCode := fun _ => .cond (.tmp 29) m_slices_DeleteFunc_intint_16 (fun _ => .skip)
def m_slices_DeleteFunc_intint_18 : Unit → MCode := fun _ => .seq m_slices_DeleteFunc_intint_13 m_slices_DeleteFunc_intint_17
def m_slices_DeleteFunc_intint_19 : Unit → MCode := fun _ => .seq m_slices_DeleteFunc_intint_12 m_slices_DeleteFunc_intint_18
def m_slices_DeleteFunc_intint_20 : Unit → MCode := fun _ => .block 1 m_slices_DeleteFunc_intint_19
def m_slices_DeleteFunc_intint_21 : Unit → MCode := fun _ => .region [] [⟨(some 20), .mv (.tmp 6), none, []⟩,
    ⟨(some 21), .bin .add (.tmp 20) (.const (.int .i64 1)), none, []⟩,
    ⟨(some 6), .mv (.tmp 21), none, []⟩] [0, 1, 5, 6]
def m_slices_DeleteFunc_intint_22 : Unit → MCode := fun _ => .seq m_slices_DeleteFunc_intint_20 m_slices_DeleteFunc_intint_21
def m_slices_DeleteFunc_intint_23 : Unit → MCode := fun _ => .seq m_slices_DeleteFunc_intint_11 m_slices_DeleteFunc_intint_22
def m_slices_DeleteFunc_intint_24 : Unit → MCode := fun _ => .loop m_slices_DeleteFunc_intint_23
def m_slices_DeleteFunc_intint_25 : Unit → MCode := fun _ => .block 0 m_slices_DeleteFunc_intint_24
def m_slices_DeleteFunc_intint_26 : Unit → MCode := fun _ => .seq m_slices_DeleteFunc_intint_8 m_slices_DeleteFunc_intint_25
def m_slices_DeleteFunc_intint_27 : Unit → MCode := fun _ => .region [] [⟨(some 36), .mv (.tmp 0), none, []⟩,
    ⟨(some 37), .mv (.tmp 5), none, []⟩,
    ⟨(some 38), .slc false (.tmp 36) (some (.tmp 37)) none none 1, none, []⟩,
    ⟨none, .clr (.tmp 38) 1 [.int .i64 0], none, []⟩] [0, 5]
def m_slices_DeleteFunc_intint_28 : Unit → MCode := fun _ => .region [] [⟨(some 39), .mv (.tmp 0), none, []⟩,
    ⟨(some 40), .mv (.tmp 5), none, []⟩,
    ⟨(some 41), .slc false (.tmp 39) none (some (.tmp 40)) none 1, none, []⟩,
    ⟨(some 4), .mv (.tmp 41), none, []⟩] [4]
def m_slices_DeleteFunc_intint_29 : Unit → MCode := fun _ => .seq m_slices_DeleteFunc_intint_28 (fun _ => .ret)
def m_slices_DeleteFunc_intint_30 : Unit → MCode := fun _ => .seq m_slices_DeleteFunc_intint_27 m_slices_DeleteFunc_intint_29
def m_slices_DeleteFunc_intint_31 : Unit → MCode := fun _ => .seq m_slices_DeleteFunc_intint_26 m_slices_DeleteFunc_intint_30
def m_slices_DeleteFunc_intint_32 : Unit → MCode := fun _ => .seq m_slices_DeleteFunc_intint_7 m_slices_DeleteFunc_intint_31
def m_slices_DeleteFunc_intint_33 : Unit → MCode := fun _ => .seq m_slices_DeleteFunc_intint_2 m_slices_DeleteFunc_intint_32
def m_slices_DeleteFunc_intint_34 : Unit → MCode := fun _ => .seq m_slices_DeleteFunc_intint_1 m_slices_DeleteFunc_intint_33
def m_slices_DeleteFunc_intint : MCode := m_slices_DeleteFunc_intint_34 ()
def h_slices_DeleteFunc_intint : Hints := [(0, [0, 1], [], [], []), (1, [0, 1, 5], [], [], []), (2, [0, 1, 5, 12], [], [], []), (3, [4], [], [], []), (4, [0, 1, 5, 6], [], [], []), (5, [0, 1, 5, 6, 19], [], [], []), (7, [0, 1, 5, 6, 7], [], [], []), (8, [0, 1, 5, 6, 7, 29], [], [], []), (9, [0, 1, 5, 6], [], [], []), (10, [0, 1, 5, 6], [], [], []), (6, [0, 1, 5, 6], [], [], []), (11, [0, 5], [], [], []), (12, [4], [], [], [])]
def r_slices_DeleteFunc_intint : List RV := [.t 4]
abbrev n_slices_DeleteFunc_intint : Nat := 129
theorem k_slices_DeleteFunc_intint : Known Pr mu n_slices_DeleteFunc_intint m_slices_DeleteFunc_intint r_slices_DeleteFunc_intint Go.Proofs.Try.f129.ntmps := .of h_slices_DeleteFunc_intint hm Go.Proofs.Try.func129 (by kernel_rfl) (by kernel_rfl) (by kernel_rfl) (by kernel_rfl)
def m_impl_WithoutServers_c1_1 : Unit → MCode := fun _ => .region [] [⟨(some 3), .mv (.const (.bool false)), none, []⟩] [0, 1]
def m_impl_WithoutServers_c1_2 : Unit → MCode := fun _ => .region [] [⟨(some 4), .ld (.tmp 1) 1 false, none, []⟩,
    ⟨(some 5), .mv (.tmp 0), none, []⟩,
    ⟨(some 6), .call 98 [(.tmp 4), (.tmp 5)], none, []⟩,
    ⟨(some 3), .mv (.tmp 6), none, []⟩] [3]
def m_impl_WithoutServers_c1_3 : Unit → MCode := fun _ => .seq m_impl_WithoutServers_c1_2 (fun _ => .ret)
def m_impl_WithoutServers_c1_4 : Unit → MCode := fun _ => .seq m_impl_WithoutServers_c1_1 m_impl_WithoutServers_c1_3
def m_impl_WithoutServers_c1 : MCode := m_impl_WithoutServers_c1_4 ()
def h_impl_WithoutServers_c1 : Hints := [(0, [0, 1], [], [], []), (1, [3], [], [], [])]
def r_impl_WithoutServers_c1 : List RV := [.t 3]
abbrev n_impl_WithoutServers_c1 : Nat := 130
theorem k_impl_WithoutServers_c1 : Known Pr mu n_impl_WithoutServers_c1 m_impl_WithoutServers_c1 r_impl_WithoutServers_c1 Go.Proofs.Try.f130.ntmps := .of h_impl_WithoutServers_c1 hm Go.Proofs.Try.func130 (by kernel_rfl) (by kernel_rfl) (by kernel_rfl) (by kernel_rfl)
def m_slices_pdqsortOrdered_int_1 : Unit → MCode := fun _ => .region [] [⟨(some 8), .mv (.const (.bool true)), none, []⟩] [0, 1, 2, 3, 8]
def m_slices_pdqsortOrdered_int_2 : Unit → MCode := fun _ => .region [] [⟨(some 9), .mv (.const (.bool true)), none, []⟩] [0, 1, 2, 3, 8, 9]
def m_slices_pdqsortOrdered_int_3 : Unit → MCode := fun _ => .region [] [⟨(some 19), .mv (.tmp 2), none, []⟩,
    ⟨(some 20), .mv (.tmp 1), none, []⟩,
    ⟨(some 21), .bin .sub (.tmp 19) (.tmp 20), none, []⟩,
    ⟨(some 10), .mv (.tmp 21), none, []⟩] [0, 1, 2, 3, 8, 9, 10]
def m_slices_pdqsortOrdered_int_4 : Unit → MCode := fun _ => .region [] [⟨(some 22), .mv (.tmp 10), none, []⟩,
    ⟨(some 23), .bin .leq (.tmp 22) (.const (.int .i64 12)), none, []⟩] [0, 1, 2, 3, 8, 9, 10, 23]
def m_slices_pdqsortOrdered_int_5 : Unit → MCode := fun _ => .region [] [⟨(some 24), .mv (.tmp 0), none, []⟩,
    ⟨(some 25), .mv (.tmp 1), none, []⟩,
    ⟨(some 26), .mv (.tmp 2), none, []⟩,
    ⟨(some 27), .callm 134 [(.tmp 24), (.tmp 25), (.tmp 26)], none, []⟩] []
def m_slices_pdqsortOrdered_int_6 : Unit → MCode := fun _ => .seq m_slices_pdqsortOrdered_int_5 (fun _ => .ret)
def m_slices_pdqsortOrdered_int_7 : Unit → MCode := fun _ => .cond (.tmp 23) m_slices_pdqsortOrdered_int_6 (fun _ => .skip)
def m_slices_pdqsortOrdered_int_8 : Unit → MCode := fun _ => .seq m_slices_pdqsortOrdered_int_4 m_slices_pdqsortOrdered_int_7
def m_slices_pdqsortOrdered_int_9 : Unit → MCode := fun _ => .region [] [⟨(some 28), .mv (.tmp 3), none, []⟩,
    ⟨(some 29), .bin .eql (.tmp 28) (.const (.int .i64 0)), none, []⟩] [0, 1, 2, 3, 8, 9, 10, 29]
def m_slices_pdqsortOrdered_int_10 : Unit → MCode := fun _ => .region [] [⟨(some 30), .mv (.tmp 0), none, []⟩,
    ⟨(some 31), .mv (.tmp 1), none, []⟩,
    ⟨(some 32), .mv (.tmp 2), none, []⟩,
    ⟨(some 33), .callm 135 [(.tmp 30), (.tmp 31), (.tmp 32)], none, []⟩] []
def m_slices_pdqsortOrdered_int_11 : Unit → MCode := fun _ => .seq m_slices_pdqsortOrdered_int_10 (fun _ => .ret)
def m_slices_pdqsortOrdered_int_12 : Unit → MCode := fun _ => .cond (.tmp 29) m_slices_pdqsortOrdered_int_11 (fun _ => .skip)
def m_slices_pdqsortOrdered_int_13 : Unit → MCode := fun _ => .seq m_slices_pdqsortOrdered_int_9 m_slices_pdqsortOrdered_int_12
def m_slices_pdqsortOrdered_int_14 : Unit → MCode := fun _ => .region [] [⟨(some 34), .mv (.tmp 8), none, []⟩,
    ⟨(some 35), .not (.tmp 34), none, []⟩] [0, 1, 2, 3, 8, 9, 10, 35]
def m_slices_pdqsortOrdered_int_15 : Unit → MCode := fun _ => .region [] [⟨(some 36), .mv (.tmp 0), none, []⟩,
    ⟨(some 37), .mv (.tmp 1), none, []⟩,
    ⟨(some 38), .mv (.tmp 2), none, []⟩,
    ⟨(some 39), .callm 136 [(.tmp 36), (.tmp 37), (.tmp 38)], none, []⟩] [0, 1, 2, 3, 8, 9, 10]
def m_slices_pdqsortOrdered_int_16 : Unit → MCode := fun _ => .region [] [⟨(some 40), .mv (.tmp 3), none, []⟩,
    ⟨(some 41), .bin .sub (.tmp 40) (.const (.int .i64 1)), none, []⟩,
    ⟨(some 3), .mv (.tmp 41), none, []⟩] [0, 1, 2, 3, 8, 9, 10]
def m_slices_pdqsortOrdered_int_17 : Unit → MCode := fun _ => .seq m_slices_pdqsortOrdered_int_15 m_slices_pdqsortOrdered_int_16
def m_slices_pdqsortOrdered_int_18 : Unit → MCode := fun _ => .cond (.tmp 35) m_slices_pdqsortOrdered_int_17 (fun _ => .skip)
def m_slices_pdqsortOrdered_int_19 : Unit → MCode := fun _ => .seq m_slices_pdqsortOrdered_int_14 m_slices_pdqsortOrdered_int_18
def m_slices_pdqsortOrdered_int_20 : Unit → MCode := fun _ => .region [] [⟨(some 43), .mv (.tmp 0), none, []⟩,
    ⟨(some 44), .mv (.tmp 1), none, []⟩,
    ⟨(some 45), .mv (.tmp 2), none, []⟩,
    ⟨(some 46), .call 137 [(.tmp 43), (.tmp 44), (.tmp 45)], none, []⟩,
    ⟨(some 42), .mv (.tmp 46), none, []⟩,
    ⟨(some 47), .ext (.tmp 42) 0, none, []⟩,
    ⟨(some 48), .ext (.tmp 42) 1, none, []⟩,
    ⟨(some 11), .mv (.tmp 47), none, []⟩,
    ⟨(some 12), .mv (.tmp 48), none, []⟩] [0, 1, 2, 3, 8, 9, 10, 11, 12]
def m_slices_pdqsortOrdered_int_21 : Unit → MCode := fun _ => .region [] [⟨(some 49), .mv (.tmp 12), none, []⟩,
    ⟨(some 50), .bin .eql (.tmp 49) (.const (.int .i64 2)), none, []⟩] [0, 1, 2, 3, 8, 9, 10, 11, 12, 50]
def m_slices_pdqsortOrdered_int_22 : Unit → MCode := fun _ => .region [] [⟨(some 51), .mv (.tmp 0), none, []⟩,
    ⟨(some 52), .mv (.tmp 1), none, []⟩,
    ⟨(some 53), .mv (.tmp 2), none, []⟩,
    ⟨(some 54), .callm 138 [(.tmp 51), (.tmp 52), (.tmp 53)], none, []⟩] [0, 1, 2, 3, 8, 9, 10, 11]
def m_slices_pdqsortOrdered_int_23 : Unit → MCode := fun _ => .region [] [⟨(some 55), .mv (.tmp 2), none, []⟩,
    ⟨(some 56), .bin .sub (.tmp 55) (.const (.int .i64 1)), none, []⟩,
    ⟨(some 57), .mv (.tmp 11), none, []⟩,
    ⟨(some 58), .mv (.tmp 1), none, []⟩,
    ⟨(some 59), .bin .sub (.tmp 57) (.tmp 58), none, []⟩,
    ⟨(some 60), .bin .sub (.tmp 56) (.tmp 59), none, []⟩,
    ⟨(some 11), .mv (.tmp 60), none, []⟩] [0, 1, 2, 3, 8, 9, 10, 11]
def m_slices_pdqsortOrdered_int_24 : Unit → MCode := fun _ => .region [] [⟨(some 12), .mv (.const (.int .i64 1)), none, []⟩] [0, 1, 2, 3, 8, 9, 10, 11, 12]
def m_slices_pdqsortOrdered_int_25 : Unit → MCode := fun _ => .seq m_slices_pdqsortOrdered_int_23 m_slices_pdqsortOrdered_int_24
def m_slices_pdqsortOrdered_int_26 : Unit → MCode := fun _ => .seq m_slices_pdqsortOrdered_int_22 m_slices_pdqsortOrdered_int_25
def m_slices_pdqsortOrdered_int_27 : Unit → MCode := fun _ => .cond (.tmp 50) m_slices_pdqsortOrdered_int_26 (fun _ => .skip)
def m_slices_pdqsortOrdered_int_28 : Unit → MCode := fun _ => .seq m_slices_pdqsortOrdered_int_21 m_slices_pdqsortOrdered_int_27
def m_slices_pdqsortOrdered_int_29 : Unit → MCode := fun _ => .region [] [⟨(some 61), .mv (.tmp 8), none, []⟩,
    ⟨(some 62), .mv (.tmp 61), none, []⟩,
    ⟨(some 63), .mv (.tmp 9), (some (62, true)), []⟩,
    ⟨(some 64), .pick (.tmp 62) (.tmp 63) (.const (.bool false)), none, []⟩,
    ⟨(some 65), .mv (.tmp 64), none, []⟩,
    ⟨(some 66), .mv (.tmp 12), (some (65, true)), []⟩,
    ⟨(some 67), .bin .eql (.tmp 66) (.const (.int .i64 1)), (some (65, true)), []⟩,
    ⟨(some 68), .pick (.tmp 65) (.tmp 67) (.const (.bool false)), none, []⟩] [0, 1, 2, 3, 8, 9, 10, 11, 68]
def m_slices_pdqsortOrdered_int_30 : Unit → MCode := fun _ => .region [] [⟨(some 69), .mv (.tmp 0), none, []⟩,
    ⟨(some 70), .mv (.tmp 1), none, []⟩,
    ⟨(some 71), .mv (.tmp 2), none, []⟩,
    ⟨(some 72), .callm 139 [(.tmp 69), (.tmp 70), (.tmp 71)], none, []⟩] [0, 1, 2, 3, 8, 9, 10, 11, 72]
def m_slices_pdqsortOrdered_int_31 : Unit → MCode := fun _ => .cond (.tmp 72) (fun _ => .ret) (fun _ => .skip)
def m_slices_pdqsortOrdered_int_32 : Unit → MCode := fun _ => .seq m_slices_pdqsortOrdered_int_30 m_slices_pdqsortOrdered_int_31
def m_slices_pdqsortOrdered_int_33 : Unit → MCode := fun _ => .cond (.tmp 68) m_slices_pdqsortOrdered_int_32 (fun _ => .skip)
def m_slices_pdqsortOrdered_int_34 : Unit → MCode := fun _ => .seq m_slices_pdqsortOrdered_int_29 m_slices_pdqsortOrdered_int_33
def m_slices_pdqsortOrdered_int_35 : Unit → MCode := fun _ => .region [] [⟨(some 73), .mv (.tmp 1), none, []⟩,
    ⟨(some 74), .bin .gtr (.tmp 73) (.const (.int .i64 0)), none, []⟩,
    ⟨(some 75), .mv (.tmp 74), none, []⟩,
    ⟨(some 76), .mv (.tmp 0), (some (75, true)), []⟩,
    ⟨(some 77), .mv (.tmp 1), (some (75, true)), []⟩,
    ⟨(some 78), .bin .sub (.tmp 77) (.const (.int .i64 1)), (some (75, true)), []⟩,
    ⟨(some 79), .ia (.tmp 76) (.tmp 78) 1, (some (75, true)), []⟩,
    ⟨(some 80), .ld (.tmp 79) 1 false, (some (75, true)), []⟩,
    ⟨(some 81), .mv (.tmp 0), (some (75, true)), []⟩,
    ⟨(some 82), .mv (.tmp 11), (some (75, true)), []⟩,
    ⟨(some 83), .ia (.tmp 81) (.tmp 82) 1, (some (75, true)), [3, 4, 5, 6, 7]⟩,
    ⟨(some 84), .ld (.tmp 83) 1 false, (some (75, true)), [3, 4, 5, 6, 7]⟩,
    ⟨(some 85), .call 140 [(.tmp 80), (.tmp 84)], (some (75, true)), []⟩,
    ⟨(some 86), .not (.tmp 85), (some (75, true)), []⟩,
    ⟨(some 87), .pick (.tmp 75) (.tmp 86) (.const (.bool false)), none, []⟩] [0, 1, 2, 3, 8, 9, 10, 11, 87]
def m_slices_pdqsortOrdered_int_36 : Unit → MCode := fun _ => .region [] [⟨(some 88), .mv (.tmp 0), none, []⟩,
    ⟨(some 89), .mv (.tmp 1), none, []⟩,
    ⟨(some 90), .mv (.tmp 2), none, []⟩,
    ⟨(some 91), .mv (.tmp 11), none, []⟩,
    ⟨(some 92), .callm 141 [(.tmp 88), (.tmp 89), (.tmp 90), (.tmp 91)], none, []⟩,
    ⟨(some 13), .mv (.tmp 92), none, []⟩] [0, 2, 3, 8, 9, 13]
def m_slices_pdqsortOrdered_int_37 : Unit → MCode := fun _ => .region [] [⟨(some 93), .mv (.tmp 13), none, []⟩,
    ⟨(some 1), .mv (.tmp 93), none, []⟩] [0, 1, 2, 3, 8, 9]
def m_slices_pdqsortOrdered_int_38 : Unit → MCode := fun _ => .seq m_slices_pdqsortOrdered_int_37 (fun _ => .exit 1)
def m_slices_pdqsortOrdered_int_39 : Unit → MCode := fun _ => .seq m_slices_pdqsortOrdered_int_36 m_slices_pdqsortOrdered_int_38
def m_slices_pdqsortOrdered_int_40 : Unit → MCode := fun _ => .cond (.tmp 87) m_slices_pdqsortOrdered_int_39 (fun _ => .skip)
def m_slices_pdqsortOrdered_int_41 : Unit → MCode := fun _ => .seq m_slices_pdqsortOrdered_int_35 m_slices_pdqsortOrdered_int_40
def m_slices_pdqsortOrdered_int_42 : Unit → MCode := fun _ => .region [] [⟨(some 95), .mv (.tmp 0), none, []⟩,
    ⟨(some 96), .mv (.tmp 1), none, []⟩,
    ⟨(some 97), .mv (.tmp 2), none, []⟩,
    ⟨(some 98), .mv (.tmp 11), none, []⟩,
    ⟨(some 99), .callm 142 [(.tmp 95), (.tmp 96), (.tmp 97), (.tmp 98)], none, []⟩,
    ⟨(some 94), .mv (.tmp 99), none, []⟩,
    ⟨(some 100), .ext (.tmp 94) 0, none, []⟩,
    ⟨(some 101), .ext (.tmp 94) 1, none, []⟩,
    ⟨(some 14), .mv (.tmp 100), none, []⟩,
    ⟨(some 15), .mv (.tmp 101), none, []⟩] [0, 1, 2, 3, 10, 14, 15]
def m_slices_pdqsortOrdered_int_43 : Unit → MCode := fun _ => .region [] [⟨(some 102), .mv (.tmp 15), none, []⟩,
    ⟨(some 9), .mv (.tmp 102), none, []⟩] [0, 1, 2, 3, 9, 10, 14]
def m_slices_pdqsortOrdered_int_44 : Unit → MCode := fun _ => .region [] [⟨(some 103), .mv (.tmp 14), none, []⟩,
    ⟨(some 104), .mv (.tmp 1), none, []⟩,
    ⟨(some 105), .bin .sub (.tmp 103) (.tmp 104), none, []⟩,
    ⟨(some 106), .mv (.tmp 2), none, []⟩,
    ⟨(some 107), .mv (.tmp 14), none, []⟩,
    ⟨(some 108), .bin .sub (.tmp 106) (.tmp 107), none, []⟩,
    ⟨(some 16), .mv (.tmp 105), none, []⟩,
    ⟨(some 17), .mv (.tmp 108), none, []⟩] [0, 1, 2, 3, 9, 10, 14, 16, 17]
def m_slices_pdqsortOrdered_int_45 : Unit → MCode := fun _ => .region [] [⟨(some 109), .mv (.tmp 10), none, []⟩,
    ⟨(some 110), .bin .quo (.tmp 109) (.const (.int .i64 8)), none, []⟩,
    ⟨(some 18), .mv (.tmp 110), none, []⟩] [0, 1, 2, 3, 9, 14, 16, 17, 18]
def m_slices_pdqsortOrdered_int_46 : Unit → MCode := fun _ => .region [] [⟨(some 111), .mv (.tmp 16), none, []⟩,
    ⟨(some 112), .mv (.tmp 17), none, []⟩,
    ⟨(some 113), .bin .lss (.tmp 111) (.tmp 112), none, []⟩] [0, 1, 2, 3, 9, 14, 16, 17, 18, 113]
def m_slices_pdqsortOrdered_int_47 : Unit → MCode := fun _ => .region [] [⟨(some 114), .mv (.tmp 16), none, []⟩,
    ⟨(some 115), .mv (.tmp 18), none, []⟩,
    ⟨(some 116), .bin .geq (.tmp 114) (.tmp 115), none, []⟩,
    ⟨(some 8), .mv (.tmp 116), none, []⟩] [0, 1, 2, 3, 8, 9, 14]
def m_slices_pdqsortOrdered_int_48 : Unit → MCode := fun _ => .region [] [⟨(some 117), .mv (.tmp 0), none, []⟩,
    ⟨(some 118), .mv (.tmp 1), none, []⟩,
    ⟨(some 119), .mv (.tmp 14), none, []⟩,
    ⟨(some 120), .mv (.tmp 3), none, []⟩,
    ⟨(some 121), .callm 131 [(.tmp 117), (.tmp 118), (.tmp 119), (.tmp 120)], none, []⟩] [0, 2, 3, 8, 9, 14]
def m_slices_pdqsortOrdered_int_49 : Unit → MCode := fun _ => .region [] [⟨(some 122), .mv (.tmp 14), none, []⟩,
    ⟨(some 123), .bin .add (.tmp 122) (.const (.int .i64 1)), none, []⟩,
    ⟨(some 1), .mv (.tmp 123), none, []⟩] [0, 1, 2, 3, 8, 9]
def m_slices_pdqsortOrdered_int_50 : Unit → MCode := fun _ => .seq m_slices_pdqsortOrdered_int_48 m_slices_pdqsortOrdered_int_49
def m_slices_pdqsortOrdered_int_51 : Unit → MCode := fun _ => .seq m_slices_pdqsortOrdered_int_47 m_slices_pdqsortOrdered_int_50
def m_slices_pdqsortOrdered_int_52 : Unit → MCode := fun _ => .region [] [⟨(some 124), .mv (.tmp 17), none, []⟩,
    ⟨(some 125), .mv (.tmp 18), none, []⟩,
    ⟨(some 126), .bin .geq (.tmp 124) (.tmp 125), none, []⟩,
    ⟨(some 8), .mv (.tmp 126), none, []⟩] [0, 1, 2, 3, 8, 9, 14]
def m_slices_pdqsortOrdered_int_53 : Unit → MCode := fun _ => .region [] [⟨(some 127), .mv (.tmp 0), none, []⟩,
    ⟨(some 128), .mv (.tmp 14), none, []⟩,
    ⟨(some 129), .bin .add (.tmp 128) (.const (.int .i64 1)), none, []⟩,
    ⟨(some 130), .mv (.tmp 2), none, []⟩,
    ⟨(some 131), .mv (.tmp 3), none, []⟩,
    ⟨(some 132), .callm 131 [(.tmp 127), (.tmp 129), (.tmp 130), (.tmp 131)], none, []⟩] [0, 1, 3, 8, 9, 14]
def m_slices_pdqsortOrdered_int_54 : Unit → MCode := fun _ => .region [] [⟨(some 133), .mv (.tmp 14), none, []⟩,
    ⟨(some 2), .mv (.tmp 133), none, []⟩] [0, 1, 2, 3, 8, 9]
def m_slices_pdqsortOrdered_int_55 : Unit → MCode := fun _ => .seq m_slices_pdqsortOrdered_int_53 m_slices_pdqsortOrdered_int_54
def m_slices_pdqsortOrdered_int_56 : Unit → MCode := fun _ => .seq m_slices_pdqsortOrdered_int_52 m_slices_pdqsortOrdered_int_55
def m_slices_pdqsortOrdered_int_57 : Unit → MCode := fun _ => .cond (.tmp 113) m_slices_pdqsortOrdered_int_51 m_slices_pdqsortOrdered_int_56
def m_slices_pdqsortOrdered_int_58 : Unit → MCode := fun _ => .seq m_slices_pdqsortOrdered_int_46 m_slices_pdqsortOrdered_int_57
def m_slices_pdqsortOrdered_int_59 : Unit → MCode := fun _ => .seq m_slices_pdqsortOrdered_int_45 m_slices_pdqsortOrdered_int_58
def m_slices_pdqsortOrdered_int_60 : Unit → MCode := fun _ => .seq m_slices_pdqsortOrdered_int_44 m_slices_pdqsortOrdered_int_59
def m_slices_pdqsortOrdered_int_61 : Unit → MCode := fun _ => .seq m_slices_pdqsortOrdered_int_43 m_slices_pdqsortOrdered_int_60
def m_slices_pdqsortOrdered_int_62 : Unit → MCode := fun _ => .seq m_slices_pdqsortOrdered_int_42 m_slices_pdqsortOrdered_int_61
def m_slices_pdqsortOrdered_int_63 : Unit → MCode := fun _ => .seq m_slices_pdqsortOrdered_int_41 m_slices_pdqsortOrdered_int_62
def m_slices_pdqsortOrdered_int_64 : Unit → MCode := fun _ => .seq m_slices_pdqsortOrdered_int_34 m_slices_pdqsortOrdered_int_63
def m_slices_pdqsortOrdered_int_65 : Unit → MCode := fun _ => .seq m_slices_pdqsortOrdered_int_28 m_slices_pdqsortOrdered_int_64
def m_slices_pdqsortOrdered_int_66 : Unit → MCode := fun _ => .seq m_slices_pdqsortOrdered_int_20 m_slices_pdqsortOrdered_int_65
def m_slices_pdqsortOrdered_int_67 : Unit → MCode := fun _ => .seq m_slices_pdqsortOrdered_int_19 m_slices_pdqsortOrdered_int_66
def m_slices_pdqsortOrdered_int_68 : Unit → MCode := fun _ => .seq m_slices_pdqsortOrdered_int_13 m_slices_pdqsortOrdered_int_67
def m_slices_pdqsortOrdered_int_69 : Unit → MCode := fun _ => .seq m_slices_pdqsortOrdered_int_8 m_slices_pdqsortOrdered_int_68
def m_slices_pdqsortOrdered_int_70 : Unit → MCode := fun _ => .seq m_slices_pdqsortOrdered_int_3 m_slices_pdqsortOrdered_int_69
def m_slices_pdqsortOrdered_int_71 : Unit → MCode := fun _ => .block 1 m_slices_pdqsortOrdered_int_70
def m_slices_pdqsortOrdered_int_72 : Unit → MCode := fun _ => .loop m_slices_pdqsortOrdered_int_71
def m_slices_pdqsortOrdered_int_73 : Unit → MCode := fun _ => .block 0 m_slices_pdqsortOrdered_int_72
def m_slices_pdqsortOrdered_int_74 : Unit → MCode := fun _ => .seq m_slices_pdqsortOrdered_int_2 m_slices_pdqsortOrdered_int_73
def m_slices_pdqsortOrdered_int_75 : Unit → MCode := fun _ => .seq m_slices_pdqsortOrdered_int_1 m_slices_pdqsortOrdered_int_74
def m_slices_pdqsortOrdered_int : MCode := m_slices_pdqsortOrdered_int_75 ()
def h_slices_pdqsortOrdered_int : Hints := [(0, [0, 1, 2, 3, 8], [], [], []), (1, [0, 1, 2, 3, 8, 9], [], [], []), (2, [0, 1, 2, 3, 8, 9, 10], [], [], []), (3, [0, 1, 2, 3, 8, 9, 10, 23], [], [], []), (4, [], [], [], []), (5, [0, 1, 2, 3, 8, 9, 10, 29], [], [], []), (6, [], [], [], []), (7, [0, 1, 2, 3, 8, 9, 10, 35], [], [], []), (8, [0, 1, 2, 3, 8, 9, 10], [], [], []), (9, [0, 1, 2, 3, 8, 9, 10], [], [], []), (10, [0, 1, 2, 3, 8, 9, 10, 11, 12], [], [], []), (11, [0, 1, 2, 3, 8, 9, 10, 11, 12, 50], [], [], []), (12, [0, 1, 2, 3, 8, 9, 10, 11], [], [], []), (13, [0, 1, 2, 3, 8, 9, 10, 11], [], [], []), (14, [0, 1, 2, 3, 8, 9, 10, 11, 12], [], [], []), (15, [0, 1, 2, 3, 8, 9, 10, 11, 68], [], [], []), (16, [0, 1, 2, 3, 8, 9, 10, 11, 72], [], [], []), (17, [0, 1, 2, 3, 8, 9, 10, 11, 87], [[], [], [], [], [], [], [], [], [], [], [3, 4, 5, 6, 7], [3, 4, 5, 6, 7]], [], []), (18, [0, 2, 3, 8, 9, 13], [], [], []), (19, [0, 1, 2, 3, 8, 9], [], [], []), (20, [0, 1, 2, 3, 10, 14, 15], [], [], []), (21, [0, 1, 2, 3, 9, 10, 14], [], [], []), (22, [0, 1, 2, 3, 9, 10, 14, 16, 17], [], [], []), (23, [0, 1, 2, 3, 9, 14, 16, 17, 18], [], [], []), (24, [0, 1, 2, 3, 9, 14, 16, 17, 18, 113], [], [], []), (25, [0, 1, 2, 3, 8, 9, 14], [], [], []), (26, [0, 2, 3, 8, 9, 14], [], [], []), (27, [0, 1, 2, 3, 8, 9], [], [], []), (28, [0, 1, 2, 3, 8, 9, 14], [], [], []), (29, [0, 1, 3, 8, 9, 14], [], [], []), (30, [0, 1, 2, 3, 8, 9], [], [], [])]
def r_slices_pdqsortOrdered_int : List RV := []
abbrev n_slices_pdqsortOrdered_int : Nat := 131
theorem k_slices_pdqsortOrdered_int : Known Pr mu n_slices_pdqsortOrdered_int m_slices_pdqsortOrdered_int r_slices_pdqsortOrdered_int Go.Proofs.Try.f131.ntmps := .of h_slices_pdqsortOrdered_int hm Go.Proofs.Try.func131 (by kernel_rfl) (by kernel_rfl) (by kernel_rfl) (by kernel_rfl)
def m_math_bits_Len_1 : Unit → MCode := fun _ => .region [] [⟨(some 2), .mv (.const (.int .i64 0)), none, []⟩] [0]
def m_math_bits_Len_2 : Unit → MCode := fun _ => .region [] [⟨(some 3), .mv (.tmp 0), none, []⟩,
    ⟨(some 4), .conv .u32 (.tmp 3), none, []⟩,
    ⟨(some 5), .call 143 [(.tmp 4)], none, []⟩,
    ⟨(some 2), .mv (.tmp 5), none, []⟩] [2]
def m_math_bits_Len_3 : Unit → MCode := fun _ => .seq m_math_bits_Len_2 (fun _ => .ret)
def m_math_bits_Len_4 : Unit → MCode := fun _ => .cond (.const (.bool false)) m_math_bits_Len_3 (fun _ => .skip)
def m_math_bits_Len_5 : Unit → MCode := fun _ => .region [] [⟨(some 6), .mv (.tmp 0), none, []⟩,
    ⟨(some 7), .call 144 [(.tmp 6)], none, []⟩,
    ⟨(some 2), .mv (.tmp 7), none, []⟩] [2]
def m_math_bits_Len_6 : Unit → MCode := fun _ => .seq m_math_bits_Len_5 (fun _ => .ret)
def m_math_bits_Len_7 : Unit → MCode := fun _ => .seq m_math_bits_Len_4 m_math_bits_Len_6
def m_math_bits_Len_8 : Unit → MCode := fun _ => .seq m_math_bits_Len_1 m_math_bits_Len_7
def m_math_bits_Len : MCode := m_math_bits_Len_8 ()
def h_math_bits_Len : Hints := [(0, [0], [], [], []), (1, [2], [], [], []), (2, [2], [], [], [])]
def r_math_bits_Len : List RV := [.t 2]
abbrev n_math_bits_Len : Nat := 132
theorem k_math_bits_Len : Known Pr mu n_math_bits_Len m_math_bits_Len r_math_bits_Len Go.Proofs.Try.f132.ntmps := .of h_math_bits_Len hm Go.Proofs.Try.func132 (by kernel_rfl) (by kernel_rfl) (by kernel_rfl) (by kernel_rfl)
def m_slices_IndexFunc_intint_1 : Unit → MCode := fun _ => .region [] [⟨(some 4), .mv (.const (.int .i64 0)), none, []⟩] [0, 1]
def m_slices_IndexFunc_intint_2 : Unit → MCode := fun _ => .region [] [⟨(some 6), .mv (.tmp 0), none, []⟩,
    ⟨(some 7), .len false (.tmp 6), none, []⟩,
    ⟨(some 8), .mv (.const (.int .i64 0)), none, []⟩] [0, 1, 7, 8]
def m_slices_IndexFunc_intint_3 : Unit → MCode := fun _ => .region [] [⟨(some 9), .bin .lss (.tmp 8) (.tmp 7), none, []⟩] [0, 1, 7, 8, 9]
def m_slices_IndexFunc_intint_4 : Unit → MCode := fun _ => .cond (.tmp 9) (fun _ => .skip) (fun _ => .exit 0)
def m_slices_IndexFunc_intint_5 : Unit → MCode := fun _ => .region [] [⟨(some 10), .mv (.tmp 8), none, []⟩,
    ⟨(some 5), .mv (.tmp 10), none, []⟩] [0, 1, 5, 7, 8]
def m_slices_IndexFunc_intint_6 : Unit → MCode := fun _ => .region [] [⟨(some 11), .mv (.tmp 1), none, []⟩,
    ⟨(some 12), .mv (.tmp 0), none, []⟩,
    ⟨(some 13), .mv (.tmp 5), none, []⟩,
    ⟨(some 14), .ia (.tmp 12) (.tmp 13) 1, none, []⟩,
    ⟨(some 15), .ld (.tmp 14) 1 false, none, []⟩,
    ⟨(some 16), .callv (.tmp 11) [(.tmp 15)], none, []⟩] [0, 1, 5, 7, 8, 16]
def m_slices_IndexFunc_intint_7 : Unit → MCode := fun _ => .region [] [⟨(some 17), .mv (.tmp 5), none, []⟩,
    ⟨(some 4), .mv (.tmp 17), none, []⟩] [4]
def m_slices_IndexFunc_intint_8 : Unit → MCode := fun _ => .seq m_slices_IndexFunc_intint_7 (fun _ => .ret)
def m_slices_IndexFunc_intint_9 : Unit → MCode := fun _ => .cond (.tmp 16) m_slices_IndexFunc_intint_8 (fun _ => .skip)
def m_slices_IndexFunc_intint_10 : Unit → MCode := fun _ => .seq m_slices_IndexFunc_intint_6 m_slices_IndexFunc_intint_9
def m_slices_IndexFunc_intint_11 : Unit → MCode := fun _ => .seq m_slices_IndexFunc_intint_5 m_slices_IndexFunc_intint_10
def m_slices_IndexFunc_intint_12 : Unit → MCode := fun _ => .block 1 m_slices_IndexFunc_intint_11
def m_slices_IndexFunc_intint_13 : Unit → MCode := fun _ => .region [] [⟨(some 18), .bin .add (.tmp 8) (.const (.int .i64 1)), none, []⟩,
    ⟨(some 8), .mv (.tmp 18), none, []⟩] [0, 1, 7, 8]
def m_slices_IndexFunc_intint_14 : Unit → MCode := fun _ => .seq m_slices_IndexFunc_intint_12 m_slices_IndexFunc_intint_13
def m_slices_IndexFunc_intint_15 : Unit → MCode := fun _ => .seq m_slices_IndexFunc_intint_4 m_slices_IndexFunc_intint_14
def m_slices_IndexFunc_intint_16 : Unit → MCode := fun _ => .seq m_slices_IndexFunc_intint_3 m_slices_IndexFunc_intint_15
def m_slices_IndexFunc_intint_17 : Unit → MCode := fun _ => .loop m_slices_IndexFunc_intint_16
def m_slices_IndexFunc_intint_18 : Unit → MCode := fun _ => .block 0 m_slices_IndexFunc_intint_17
def m_slices_IndexFunc_intint_19 : Unit → MCode := fun _ => .seq m_slices_IndexFunc_intint_2 m_slices_IndexFunc_intint_18
def m_slices_IndexFunc_intint_20 : Unit → MCode := fun _ => .region [] [⟨(some 4), .mv (.const (.int .i64 (-1))), none, []⟩] [4]
def m_slices_IndexFunc_intint_21 : Unit → MCode := fun _ => .seq m_slices_IndexFunc_intint_20 (fun _ => .ret)
def m_slices_IndexFunc_intint_22 : Unit → MCode := fun _ => .seq m_slices_IndexFunc_intint_19 m_slices_IndexFunc_intint_21
def m_slices_IndexFunc_intint_23 : Unit → MCode := fun _ => .seq m_slices_IndexFunc_intint_1 m_slices_IndexFunc_intint_22
def m_slices_IndexFunc_intint : MCode := m_slices_IndexFunc_intint_23 ()
def h_slices_IndexFunc_intint : Hints := [(0, [0, 1], [], [], []), (1, [0, 1, 7, 8], [], [], []), (2, [0, 1, 7, 8, 9], [], [], []), (3, [0, 1, 5, 7, 8], [], [], []), (4, [0, 1, 5, 7, 8, 16], [], [], []), (5, [4], [], [], []), (6, [0, 1, 7, 8], [], [], []), (7, [4], [], [], [])]
def r_slices_IndexFunc_intint : List RV := [.t 4]
abbrev n_slices_IndexFunc_intint : Nat := 133
theorem k_slices_IndexFunc_intint : Known Pr mu n_slices_IndexFunc_intint m_slices_IndexFunc_intint r_slices_IndexFunc_intint Go.Proofs.Try.f133.ntmps := .of h_slices_IndexFunc_intint hm Go.Proofs.Try.func133 (by kernel_rfl) (by kernel_rfl) (by kernel_rfl) (by kernel_rfl)
def m_slices_insertionSortOrdered_int_1 : Unit → MCode := fun _ => .region [] [⟨(some 8), .mv (.tmp 1), none, []⟩,
    ⟨(some 9), .bin .add (.tmp 8) (.const (.int .i64 1)), none, []⟩,
    ⟨(some 6), .mv (.tmp 9), none, []⟩] [0, 1, 2, 6]
def m_slices_insertionSortOrdered_int_2 : Unit → MCode := fun _ => .region [] [⟨(some 10), .mv (.tmp 6), none, []⟩,
    ⟨(some 11), .mv (.tmp 2), none, []⟩,
    ⟨(some 12), .bin .lss (.tmp 10) (.tmp 11), none, []⟩] [0, 1, 2, 6, 12]
def m_slices_insertionSortOrdered_int_3 : Unit → MCode := fun _ => .cond (.tmp 12) (fun _ => .skip) (fun _ => .exit 0)
def m_slices_insertionSortOrdered_int_4 : Unit → MCode := fun _ => .seq m_slices_insertionSortOrdered_int_2 m_slices_insertionSortOrdered_int_3
def m_slices_insertionSortOrdered_int_5 : Unit → MCode := fun _ => .region [] [⟨(some 15), .mv (.tmp 6), none, []⟩,
    ⟨(some 7), .mv (.tmp 15), none, []⟩] [0, 1, 2, 6, 7]
def m_slices_insertionSortOrdered_int_6 : Unit → MCode := fun _ => .region [] [⟨(some 16), .mv (.tmp 7), none, []⟩,
    ⟨(some 17), .mv (.tmp 1), none, []⟩,
    ⟨(some 18), .bin .gtr (.tmp 16) (.tmp 17), none, []⟩,
    ⟨(some 19), .mv (.tmp 18), none, []⟩,
    ⟨(some 20), .mv (.tmp 0), (some (19, true)), []⟩,
    ⟨(some 21), .mv (.tmp 7), (some (19, true)), []⟩,
    ⟨(some 22), .ia (.tmp 20) (.tmp 21) 1, (some (19, true)), []⟩,
    ⟨(some 23), .ld (.tmp 22) 1 false, (some (19, true)), []⟩,
    ⟨(some 24), .mv (.tmp 0), (some (19, true)), []⟩,
    ⟨(some 25), .mv (.tmp 7), (some (19, true)), []⟩,
    ⟨(some 26), .bin .sub (.tmp 25) (.const (.int .i64 1)), (some (19, true)), []⟩,
    ⟨(some 27), .ia (.tmp 24) (.tmp 26) 1, (some (19, true)), [4, 5, 6, 7]⟩,
    ⟨(some 28), .ld (.tmp 27) 1 false, (some (19, true)), [4, 5, 6, 7]⟩,
    ⟨(some 29), .call 140 [(.tmp 23), (.tmp 28)], (some (19, true)), []⟩,
    ⟨(some 30), .pick (.tmp 19) (.tmp 29) (.const (.bool false)), none, []⟩] [0, 1, 2, 6, 7, 30]
def m_slices_insertionSortOrdered_int_7 : Unit → MCode := fun _ => .cond (.tmp 30) (fun _ => .skip) (fun _ => .exit 2)
def m_slices_insertionSortOrdered_int_8 : Unit → MCode := fun _ => .seq m_slices_insertionSortOrdered_int_6 m_slices_insertionSortOrdered_int_7
def m_slices_insertionSortOrdered_int_9 : Unit → MCode := fun _ => .region [] [⟨(some 33), .mv (.tmp 0), none, []⟩,
    ⟨(some 34), .mv (.tmp 7), none, []⟩,
    ⟨(some 35), .mv (.tmp 0), none, []⟩,
    ⟨(some 36), .mv (.tmp 7), none, []⟩,
    ⟨(some 37), .bin .sub (.tmp 36) (.const (.int .i64 1)), none, []⟩,
    ⟨(some 38), .mv (.tmp 0), none, []⟩,
    ⟨(some 39), .mv (.tmp 7), none, []⟩,
    ⟨(some 40), .bin .sub (.tmp 39) (.const (.int .i64 1)), none, []⟩,
    ⟨(some 41), .ia (.tmp 38) (.tmp 40) 1, none, [0, 1, 2, 3, 4]⟩,
    ⟨(some 42), .ld (.tmp 41) 1 false, none, [0, 1, 2, 3, 4]⟩,
    ⟨(some 43), .mv (.tmp 0), none, []⟩,
    ⟨(some 44), .mv (.tmp 7), none, []⟩,
    ⟨(some 45), .ia (.tmp 43) (.tmp 44) 1, none, [0, 1, 2, 3, 4, 5, 6, 7, 8, 9]⟩,
    ⟨(some 46), .ld (.tmp 45) 1 false, none, [0, 1, 2, 3, 4, 5, 6, 7, 8, 9]⟩,
    ⟨(some 47), .ia (.tmp 33) (.tmp 34) 1, none, [2, 3, 4]⟩,
    ⟨none, .sto (.tmp 47) (.tmp 42) 1, none, []⟩,
    ⟨(some 48), .ia (.tmp 35) (.tmp 37) 1, none, []⟩,
    ⟨none, .sto (.tmp 48) (.tmp 46) 1, none, []⟩] [0, 1, 2, 6, 7]
def m_slices_insertionSortOrdered_int_10 : Unit → MCode := fun _ => .block 3 m_slices_insertionSortOrdered_int_9
def m_slices_insertionSortOrdered_int_11 : Unit → MCode := fun _ => .region [] [⟨(some 31), .mv (.tmp 7), none, []⟩,
    ⟨(some 32), .bin .sub (.tmp 31) (.const (.int .i64 1)), none, []⟩,
    ⟨(some 7), .mv (.tmp 32), none, []⟩] [0, 1, 2, 6, 7]
def m_slices_insertionSortOrdered_int_12 : Unit → MCode := fun _ => .seq m_slices_insertionSortOrdered_int_10 m_slices_insertionSortOrdered_int_11
def m_slices_insertionSortOrdered_int_13 : Unit → MCode := fun _ => .seq m_slices_insertionSortOrdered_int_8 m_slices_insertionSortOrdered_int_12
def m_slices_insertionSortOrdered_int_14 : Unit → MCode := fun _ => .loop m_slices_insertionSortOrdered_int_13
def m_slices_insertionSortOrdered_int_15 : Unit → MCode := fun _ => .block 2 m_slices_insertionSortOrdered_int_14
def m_slices_insertionSortOrdered_int_16 : Unit → MCode := fun _ => .seq m_slices_insertionSortOrdered_int_5 m_slices_insertionSortOrdered_int_15
def m_slices_insertionSortOrdered_int_17 : Unit → MCode := fun _ => .block 1 m_slices_insertionSortOrdered_int_16
def m_slices_insertionSortOrdered_int_18 : Unit → MCode := fun _ => .region [] [⟨(some 13), .mv (.tmp 6), none, []⟩,
    ⟨(some 14), .bin .add (.tmp 13) (.const (.int .i64 1)), none, []⟩,
    ⟨(some 6), .mv (.tmp 14), none, []⟩] [0, 1, 2, 6]
def m_slices_insertionSortOrdered_int_19 : Unit → MCode := fun _ => .seq m_slices_insertionSortOrdered_int_17 m_slices_insertionSortOrdered_int_18
def m_slices_insertionSortOrdered_int_20 : Unit → MCode := fun _ => .seq m_slices_insertionSortOrdered_int_4 m_slices_insertionSortOrdered_int_19
def m_slices_insertionSortOrdered_int_21 : Unit → MCode := fun _ => .loop m_slices_insertionSortOrdered_int_20
def m_slices_insertionSortOrdered_int_22 : Unit → MCode := fun _ => .block 0 m_slices_insertionSortOrdered_int_21
def m_slices_insertionSortOrdered_int_23 : Unit → MCode := fun _ => .seq m_slices_insertionSortOrdered_int_1 m_slices_insertionSortOrdered_int_22
def m_slices_insertionSortOrdered_int : MCode := m_slices_insertionSortOrdered_int_23 ()
def h_slices_insertionSortOrdered_int : Hints := [(0, [0, 1, 2, 6], [], [], []), (1, [0, 1, 2, 6, 12], [], [], []), (3, [0, 1, 2, 6, 7], [], [], []), (4, [0, 1, 2, 6, 7, 30], [[], [], [], [], [], [], [], [], [], [], [], [4, 5, 6, 7], [4, 5, 6, 7]], [], []), (6, [0, 1, 2, 6, 7], [[], [], [], [], [], [], [], [], [0, 1, 2, 3, 4], [0, 1, 2, 3, 4], [], [], [0, 1, 2, 3, 4, 5, 6, 7, 8, 9], [0, 1, 2, 3, 4, 5, 6, 7, 8, 9], [2, 3, 4]], [], [2, 3, 4]), (5, [0, 1, 2, 6, 7], [], [], []), (2, [0, 1, 2, 6], [], [], [])]
def r_slices_insertionSortOrdered_int : List RV := []
abbrev n_slices_insertionSortOrdered_int : Nat := 134
theorem k_slices_insertionSortOrdered_int : Known Pr mu n_slices_insertionSortOrdered_int m_slices_insertionSortOrdered_int r_slices_insertionSortOrdered_int Go.Proofs.Try.f134.ntmps := .of h_slices_insertionSortOrdered_int hm Go.Proofs.Try.func134 (by kernel_rfl) (by kernel_rfl) (by kernel_rfl) (by kernel_rfl)
def m_cmp_Less_int_1 : Unit → MCode := fun _ => .region [] [⟨(some 4), .mv (.const (.bool false)), none, []⟩] [0, 1]
def m_cmp_Less_int_2 : Unit → MCode := fun _ => .region [] [⟨(some 5), .mv (.tmp 0), none, []⟩,
    ⟨(some 6), .call 150 [(.tmp 5)], none, []⟩,
    ⟨(some 7), .mv (.tmp 6), none, []⟩,
    ⟨(some 8), .mv (.tmp 1), (some (7, true)), []⟩,
    ⟨(some 9), .call 150 [(.tmp 8)], (some (7, true)), []⟩,
    ⟨(some 10), .not (.tmp 9), (some (7, true)), []⟩,
    ⟨(some 11), .pick (.tmp 7) (.tmp 10) (.const (.bool false)), none, []⟩,
    ⟨(some 12), .mv (.tmp 11), none, []⟩,
    ⟨(some 13), .mv (.tmp 0), (some (12, false)), []⟩,
    ⟨(some 14), .mv (.tmp 1), (some (12, false)), []⟩,
    ⟨(some 15), .bin .lss (.tmp 13) (.tmp 14), (some (12, false)), []⟩,
    ⟨(some 16), .pick (.tmp 12) (.const (.bool true)) (.tmp 15), none, []⟩,
    ⟨(some 4), .mv (.tmp 16), none, []⟩] [4]
def m_cmp_Less_int_3 : Unit → MCode := fun _ => .seq m_cmp_Less_int_2 (fun _ => .ret)
def m_cmp_Less_int_4 : Unit → MCode := fun _ => .seq m_cmp_Less_int_1 m_cmp_Less_int_3
def m_cmp_Less_int : MCode := m_cmp_Less_int_4 ()
def h_cmp_Less_int : Hints := [(0, [0, 1], [], [], []), (1, [4], [], [], [])]
def r_cmp_Less_int : List RV := [.t 4]
abbrev n_cmp_Less_int : Nat := 140
theorem k_cmp_Less_int : Known Pr mu n_cmp_Less_int m_cmp_Less_int r_cmp_Less_int Go.Proofs.Try.f140.ntmps := .of h_cmp_Less_int hm Go.Proofs.Try.func140 (by kernel_rfl) (by kernel_rfl) (by kernel_rfl) (by kernel_rfl)
def m_math_bits_Len64_1 : Unit → MCode := fun _ => .region [] [⟨(some 2), .mv (.const (.int .i64 0)), none, []⟩] [0, 2]
def m_math_bits_Len64_2 : Unit → MCode := fun _ => .region [] [⟨(some 3), .mv (.tmp 0), none, []⟩,
    ⟨(some 4), .bin .geq (.tmp 3) (.const (.int .u64 4294967296)), none, []⟩] [0, 2, 4]
def m_math_bits_Len64_3 : Unit → MCode := fun _ => .region [] [⟨(some 5), .mv (.tmp 0), none, []⟩,
    ⟨(some 6), .bin .shr (.tmp 5) (.const (.int .u64 32)), none, []⟩,
    ⟨(some 0), .mv (.tmp 6), none, []⟩] [0]
def m_math_bits_Len64_4 : Unit → MCode := fun _ => .region [] [⟨(some 2), .mv (.const (.int .i64 32)), none, []⟩] [0, 2]
def m_math_bits_Len64_5 : Unit → MCode := fun _ => .seq m_math_bits_Len64_3 m_math_bits_Len64_4
def m_math_bits_Len64_6 : Unit → MCode := fun _ => .cond (.tmp 4) m_math_bits_Len64_5 (fun _ => .skip)
def m_math_bits_Len64_7 : Unit → MCode := fun _ => .seq m_math_bits_Len64_2 m_math_bits_Len64_6
def m_math_bits_Len64_8 : Unit → MCode := fun _ => .region [] [⟨(some 7), .mv (.tmp 0), none, []⟩,
    ⟨(some 8), .bin .geq (.tmp 7) (.const (.int .u64 65536)), none, []⟩] [0, 2, 8]
def m_math_bits_Len64_9 : Unit → MCode := fun _ => .region [] [⟨(some 9), .mv (.tmp 0), none, []⟩,
    ⟨(some 10), .bin .shr (.tmp 9) (.const (.int .u64 16)), none, []⟩,
    ⟨(some 0), .mv (.tmp 10), none, []⟩] [0, 2]
def m_math_bits_Len64_10 : Unit → MCode := fun _ => .region [] [⟨(some 11), .mv (.tmp 2), none, []⟩,
    ⟨(some 12), .bin .add (.tmp 11) (.const (.int .i64 16)), none, []⟩,
    ⟨(some 2), .mv (.tmp 12), none, []⟩] [0, 2]
def m_math_bits_Len64_11 : Unit → MCode := fun _ => .seq m_math_bits_Len64_9 m_math_bits_Len64_10
def m_math_bits_Len64_12 : Unit → MCode := fun _ => .cond (.tmp 8) m_math_bits_Len64_11 (fun _ => .skip)
def m_math_bits_Len64_13 : Unit → MCode := fun _ => .seq m_math_bits_Len64_8 m_math_bits_Len64_12
def m_math_bits_Len64_14 : Unit → MCode := fun _ => .region [] [⟨(some 13), .mv (.tmp 0), none, []⟩,
    ⟨(some 14), .bin .geq (.tmp 13) (.const (.int .u64 256)), none, []⟩] [0, 2, 14]
def m_math_bits_Len64_15 : Unit → MCode := fun _ => .region [] [⟨(some 15), .mv (.tmp 0), none, []⟩,
    ⟨(some 16), .bin .shr (.tmp 15) (.const (.int .u64 8)), none, []⟩,
    ⟨(some 0), .mv (.tmp 16), none, []⟩] [0, 2]
def m_math_bits_Len64_16 : Unit → MCode := fun _ => .region [] [⟨(some 17), .mv (.tmp 2), none, []⟩,
    ⟨(some 18), .bin .add (.tmp 17) (.const (.int .i64 8)), none, []⟩,
    ⟨(some 2), .mv (.tmp 18), none, []⟩] [0, 2]
def m_math_bits_Len64_17 : Unit → MCode := fun _ => .seq m_math_bits_Len64_15 m_math_bits_Len64_16
def m_math_bits_Len64_18 : Unit → MCode := fun _ => .cond (.tmp 14) m_math_bits_Len64_17 (fun _ => .skip)
def m_math_bits_Len64_19 : Unit → MCode := fun _ => .seq m_math_bits_Len64_14 m_math_bits_Len64_18
def m_math_bits_Len64_20 : Unit → MCode := fun _ => .region [] [⟨(some 19), .mv (.tmp 2), none, []⟩,
    ⟨(some 20), .mv (.tmp 0), none, []⟩,
    ⟨(some 21), .conv .u8 (.tmp 20), none, []⟩,
    ⟨(some 22), .sidx (.const (.string ⟨#[0, 1, 2, 2, 3, 3, 3, 3, 4, 4, 4, 4, 4, 4, 4, 4, 5, 5, 5, 5, 5, 5, 5, 5, 5, 5, 5, 5, 5, 5, 5, 5, 6, 6, 6, 6, 6, 6, 6, 6, 6, 6, 6, 6, 6, 6, 6, 6, 6, 6, 6, 6, 6, 6, 6, 6, 6, 6, 6, 6, 6, 6, 6, 6, 7, 7, 7, 7, 7, 7, 7, 7, 7, 7, 7, 7, 7, 7, 7, 7, 7, 7, 7, 7, 7, 7, 7, 7, 7, 7, 7, 7, 7, 7, 7, 7, 7, 7, 7, 7, 7, 7, 7, 7, 7, 7, 7, 7, 7, 7, 7, 7, 7, 7, 7, 7, 7, 7, 7, 7, 7, 7, 7, 7, 7, 7, 7, 7, 8, 8, 8, 8, 8, 8, 8, 8, 8, 8, 8, 8, 8, 8, 8, 8, 8, 8, 8, 8, 8, 8, 8, 8, 8, 8, 8, 8, 8, 8, 8, 8, 8, 8, 8, 8, 8, 8, 8, 8, 8, 8, 8, 8, 8, 8, 8, 8, 8, 8, 8, 8, 8, 8, 8, 8, 8, 8, 8, 8, 8, 8, 8, 8, 8, 8, 8, 8, 8, 8, 8, 8, 8, 8, 8, 8, 8, 8, 8, 8, 8, 8, 8, 8, 8, 8, 8, 8, 8, 8, 8, 8, 8, 8, 8, 8, 8, 8, 8, 8, 8, 8, 8, 8, 8, 8, 8, 8, 8, 8, 8, 8, 8, 8, 8, 8, 8, 8, 8, 8, 8, 8, 8, 8, 8, 8, 8, 8]⟩)) (.tmp 21), none, []⟩,
    ⟨(some 23), .conv .i64 (.tmp 22), none, []⟩,
    ⟨(some 24), .bin .add (.tmp 19) (.tmp 23), none, []⟩,
    ⟨(some 2), .mv (.tmp 24), none, []⟩] [2]
def m_math_bits_Len64_21 : Unit → MCode := fun _ => .seq m_math_bits_Len64_20 (fun _ => .ret)
def m_math_bits_Len64_22 : Unit → MCode := fun _ => .seq m_math_bits_Len64_19 m_math_bits_Len64_21
def m_math_bits_Len64_23 : Unit → MCode := fun _ => .seq m_math_bits_Len64_13 m_math_bits_Len64_22
def m_math_bits_Len64_24 : Unit → MCode := fun _ => .seq m_math_bits_Len64_7 m_math_bits_Len64_23
def m_math_bits_Len64_25 : Unit → MCode := fun _ => .seq m_math_bits_Len64_1 m_math_bits_Len64_24
def m_math_bits_Len64 : MCode := m_math_bits_Len64_25 ()
def h_math_bits_Len64 : Hints := [(0, [0, 2], [], [], []), (1, [0, 2, 4], [], [], []), (2, [0], [], [], []), (3, [0, 2], [], [], []), (4, [0, 2, 8], [], [], []), (5, [0, 2], [], [], []), (6, [0, 2], [], [], []), (7, [0, 2, 14], [], [], []), (8, [0, 2], [], [], []), (9, [0, 2], [], [], []), (10, [2], [], [], [])]
def r_math_bits_Len64 : List RV := [.t 2]
abbrev n_math_bits_Len64 : Nat := 144
theorem k_math_bits_Len64 : Known Pr mu n_math_bits_Len64 m_math_bits_Len64 r_math_bits_Len64 Go.Proofs.Try.f144.ntmps := .of h_math_bits_Len64 hm Go.Proofs.Try.func144 (by kernel_rfl) (by kernel_rfl) (by kernel_rfl) (by kernel_rfl)
def m_cmp_isNaN_int_1 : Unit → MCode := fun _ => .region [] [⟨(some 2), .mv (.const (.bool false)), none, []⟩] [0]
def m_cmp_isNaN_int_2 : Unit → MCode := fun _ => .region [] [⟨(some 3), .mv (.tmp 0), none, []⟩,
    ⟨(some 4), .mv (.tmp 0), none, []⟩,
    ⟨(some 5), .bin .neq (.tmp 3) (.tmp 4), none, []⟩,
    ⟨(some 2), .mv (.tmp 5), none, []⟩] [2]
def m_cmp_isNaN_int_3 : Unit → MCode := fun _ => .seq m_cmp_isNaN_int_2 (fun _ => .ret)
def m_cmp_isNaN_int_4 : Unit → MCode := fun _ => .seq m_cmp_isNaN_int_1 m_cmp_isNaN_int_3
def m_cmp_isNaN_int : MCode := m_cmp_isNaN_int_4 ()
def h_cmp_isNaN_int : Hints := [(0, [0], [], [], []), (1, [2], [], [], [])]
def r_cmp_isNaN_int : List RV := [.t 2]
abbrev n_cmp_isNaN_int : Nat := 150
theorem k_cmp_isNaN_int : Known Pr mu n_cmp_isNaN_int m_cmp_isNaN_int r_cmp_isNaN_int Go.Proofs.Try.f150.ntmps := .of h_cmp_isNaN_int hm Go.Proofs.Try.func150 (by kernel_rfl) (by kernel_rfl) (by kernel_rfl) (by kernel_rfl)
end Go.V.T
