/- The short code of the functions that FnExactSealServer reaches, held against the program. Conditions: none. -/
import Derived.Test.YtmllbaclcecliaaV5
import Derived.Test.YtmllbaclcecliaaProg
namespace Go.V.T
open Go Go.V
noncomputable abbrev Pr := Go.Proofs.Try.prog
def mu : Nat → Bool := fun n => Nat.beq n 21 || Nat.beq n 22 || Nat.beq n 58 || Nat.beq n 59 || Nat.beq n 82 || Nat.beq n 135 || Nat.beq n 141 || Nat.beq n 142 || Nat.beq n 150 || Nat.beq n 153 || Nat.beq n 154 || Nat.beq n 155 || Nat.beq n 157 || Nat.beq n 158 || Nat.beq n 160 || Nat.beq n 161 || Nat.beq n 164
theorem hm : Pr.follows .mixedOrders = true := by kernel_rfl
def m_laws_FnExactSealServer_1 : Unit → MCode := fun _ => .region [] [⟨(some 2), .box (.tmp 0), none, []⟩,
    ⟨(some 4), .mv (.const (.bool false)), none, []⟩] [1, 2]
def m_laws_FnExactSealServer_2 : Unit → MCode := fun _ => .region [] [⟨(some 5), .mv (.const (.int .i64 1048576)), none, []⟩] [1, 2, 5]
def m_laws_FnExactSealServer_3 : Unit → MCode := fun _ => .region [] [⟨(some 16), .ld (.tmp 2) 12 true, none, []⟩,
    ⟨(some 17), .mv (.tmp 5), none, []⟩,
    ⟨(some 18), .call 15 [(.tmp 16), (.tmp 17)], none, []⟩,
    ⟨(some 5), .mv (.tmp 18), none, []⟩] [1, 2, 5]
def m_laws_FnExactSealServer_4 : Unit → MCode := fun _ => .region [] [⟨(some 19), .mv (.tmp 5), none, []⟩,
    ⟨(some 20), .bin .lss (.tmp 19) (.const (.int .i64 0)), none, []⟩] [1, 2, 20]
def m_laws_FnExactSealServer_5 : Unit → MCode := fun _ => .region [] [⟨(some 4), .mv (.const (.bool true)), none, []⟩] [4]
def m_laws_FnExactSealServer_6 : Unit → MCode := fun _ => .seq m_laws_FnExactSealServer_5 (fun _ => .ret)
def m_laws_FnExactSealServer_7 : Unit → MCode := fun _ => .cond (.tmp 20) m_laws_FnExactSealServer_6 (fun _ => .skip)
def m_laws_FnExactSealServer_8 : Unit → MCode := fun _ => .seq m_laws_FnExactSealServer_4 m_laws_FnExactSealServer_7
def m_laws_FnExactSealServer_9 : Unit → MCode := fun _ => .region [] [⟨(some 22), .ld (.tmp 2) 12 true, none, []⟩,
    ⟨(some 23), .call 17 [(.tmp 22)], none, []⟩,
    ⟨(some 24), .mv (.tmp 1), none, []⟩,
    ⟨(some 25), .call 40 [(.tmp 23), (.tmp 24)], none, []⟩,
    ⟨(some 21), .mv (.tmp 25), none, []⟩,
    ⟨(some 26), .ext (.tmp 21) 0, none, []⟩,
    ⟨(some 27), .ext (.tmp 21) 1, none, []⟩,
    ⟨(some 6), .alloc [.bool false, .bool false, .int .i64 0, .int .i64 0, .int .i64 0, .int .i64 0, .slice none 0 0, .slice none 0 0, .int .i64 0, .slice none 0 0, .int .i64 0, .slice none 0 0], none, []⟩,
    ⟨none, .sto (.tmp 6) (.tmp 26) 12, none, []⟩,
    ⟨(some 7), .mv (.tmp 27), none, []⟩] [1, 2, 6, 7]
def m_laws_FnExactSealServer_10 : Unit → MCode := fun _ => .region [] [⟨(some 28), .ld (.tmp 2) 12 true, none, []⟩,
    ⟨(some 29), .call 17 [(.tmp 28)], none, []⟩,
    ⟨(some 8), .alloc [.bool false, .bool false, .int .i64 0, .int .i64 0, .int .i64 0, .int .i64 0, .slice none 0 0, .slice none 0 0, .int .i64 0, .slice none 0 0, .int .i64 0, .slice none 0 0], none, []⟩,
    ⟨none, .sto (.tmp 8) (.tmp 29) 12, none, []⟩] [1, 2, 6, 7, 8]
def m_laws_FnExactSealServer_11 : Unit → MCode := fun _ => .region [] [⟨(some 31), .ld (.tmp 8) 12 true, none, []⟩,
    ⟨(some 32), .mv (.tmp 1), none, []⟩,
    ⟨(some 33), .call 41 [(.tmp 31), (.tmp 32)], none, []⟩,
    ⟨(some 30), .mv (.tmp 33), none, []⟩,
    ⟨(some 34), .ext (.tmp 30) 0, none, []⟩,
    ⟨(some 35), .ext (.tmp 30) 1, none, []⟩,
    ⟨(some 9), .alloc [.bool false, .bool false, .int .i64 0, .int .i64 0, .int .i64 0, .int .i64 0, .slice none 0 0, .slice none 0 0, .int .i64 0, .slice none 0 0, .int .i64 0, .slice none 0 0], none, []⟩,
    ⟨none, .sto (.tmp 9) (.tmp 34) 12, none, []⟩,
    ⟨(some 10), .mv (.tmp 35), none, []⟩] [1, 2, 6, 7, 8, 9, 10]
def m_laws_FnExactSealServer_12 : Unit → MCode := fun _ => .region [] [⟨(some 36), .ld (.tmp 9) 12 true, none, []⟩,
    ⟨(some 37), .ld (.tmp 6) 12 true, none, []⟩,
    ⟨(some 38), .call 20 [(.tmp 36), (.tmp 37)], none, []⟩,
    ⟨(some 39), .not (.tmp 38), none, []⟩,
    ⟨(some 40), .mv (.tmp 39), none, []⟩,
    ⟨(some 41), .mv (.tmp 10), (some (40, false)), []⟩,
    ⟨(some 42), .mv (.tmp 7), (some (40, false)), []⟩,
    ⟨(some 43), .bbin .neq (.tmp 41) (.tmp 42), (some (40, false)), []⟩,
    ⟨(some 44), .pick (.tmp 40) (.const (.bool true)) (.tmp 43), none, []⟩] [1, 2, 6, 7, 8, 9, 10, 44]
def m_laws_FnExactSealServer_13 : Unit → MCode := fun _ => .region [] [⟨(some 4), .mv (.const (.bool false)), none, []⟩] [4]
def m_laws_FnExactSealServer_14 : Unit → MCode := fun _ => .seq m_laws_FnExactSealServer_13 (fun _ => .ret)
def m_laws_FnExactSealServer_15 : Unit → MCode := fun _ => .cond (.tmp 44) m_laws_FnExactSealServer_14 (fun _ => .skip)
def m_laws_FnExactSealServer_16 : Unit → MCode := fun _ => .seq m_laws_FnExactSealServer_12 m_laws_FnExactSealServer_15
def m_laws_FnExactSealServer_17 : Unit → MCode := fun _ => .region [] [⟨(some 45), .ld (.tmp 8) 12 true, none, []⟩,
    ⟨(some 46), .ld (.tmp 2) 12 true, none, [0]⟩,
    ⟨(some 47), .call 17 [(.tmp 46)], none, [0]⟩,
    ⟨(some 48), .call 20 [(.tmp 45), (.tmp 47)], none, []⟩,
    ⟨(some 49), .not (.tmp 48), none, []⟩] [1, 2, 6, 7, 8, 9, 10, 49]
def m_laws_FnExactSealServer_18 : Unit → MCode := fun _ => .region [] [⟨(some 4), .mv (.const (.bool false)), none, []⟩] [4]
def m_laws_FnExactSealServer_19 : Unit → MCode := fun _ => .seq m_laws_FnExactSealServer_18 (fun _ => .ret)
def m_laws_FnExactSealServer_20 : Unit → MCode := fun _ => .cond (.tmp 49) m_laws_FnExactSealServer_19 (fun _ => .skip)
def m_laws_FnExactSealServer_21 : Unit → MCode := fun _ => .seq m_laws_FnExactSealServer_17 m_laws_FnExactSealServer_20
def m_laws_FnExactSealServer_22 : Unit → MCode := fun _ => .region [] [⟨(some 11), .mv (.const (.int .i64 1)), none, []⟩] [1, 2, 6, 7, 8, 9, 10, 11]
def m_laws_FnExactSealServer_23 : Unit → MCode := fun _ => .region [] [⟨(some 50), .ld (.tmp 8) 12 true, none, []⟩,
    ⟨(some 51), .mv (.tmp 11), none, []⟩,
    ⟨(some 52), .callm 21 [(.tmp 50), (.tmp 51)], none, []⟩,
    ⟨(some 11), .mv (.tmp 52), none, []⟩] [1, 2, 6, 7, 9, 10, 11]
def m_laws_FnExactSealServer_24 : Unit → MCode := fun _ => .region [] [⟨(some 53), .mv (.tmp 11), none, []⟩,
    ⟨(some 54), .bin .lss (.tmp 53) (.const (.int .i64 0)), none, []⟩,
    ⟨(some 55), .mv (.tmp 54), none, []⟩,
    ⟨(some 56), .ld (.tmp 9) 12 true, (some (55, false)), []⟩,
    ⟨(some 57), .ld (.tmp 6) 12 true, (some (55, false)), []⟩,
    ⟨(some 58), .call 20 [(.tmp 56), (.tmp 57)], (some (55, false)), []⟩,
    ⟨(some 59), .not (.tmp 58), (some (55, false)), []⟩,
    ⟨(some 60), .pick (.tmp 55) (.const (.bool true)) (.tmp 59), none, []⟩,
    ⟨(some 61), .mv (.tmp 60), none, []⟩,
    ⟨(some 62), .mv (.tmp 10), (some (61, false)), []⟩,
    ⟨(some 63), .mv (.tmp 7), (some (61, false)), []⟩,
    ⟨(some 64), .bbin .neq (.tmp 62) (.tmp 63), (some (61, false)), []⟩,
    ⟨(some 65), .pick (.tmp 61) (.const (.bool true)) (.tmp 64), none, []⟩] [1, 2, 6, 7, 9, 65]
def m_laws_FnExactSealServer_25 : Unit → MCode := fun _ => .region [] [⟨(some 4), .mv (.const (.bool false)), none, []⟩] [4]
def m_laws_FnExactSealServer_26 : Unit → MCode := fun _ => .seq m_laws_FnExactSealServer_25 (fun _ => .ret)
def m_laws_FnExactSealServer_27 : Unit → MCode := fun _ => .cond (.tmp 65) m_laws_FnExactSealServer_26 (fun _ => .skip)
def m_laws_FnExactSealServer_28 : Unit → MCode := fun _ => .seq m_laws_FnExactSealServer_24 m_laws_FnExactSealServer_27
def m_laws_FnExactSealServer_29 : Unit → MCode := fun _ => .region [] [⟨(some 12), .mv (.const (.int .i64 1)), none, []⟩] [1, 2, 6, 7, 9, 12]
def m_laws_FnExactSealServer_30 : Unit → MCode := fun _ => .region [] [⟨(some 66), .ld (.tmp 9) 12 true, none, []⟩,
    ⟨(some 67), .mv (.tmp 12), none, []⟩,
    ⟨(some 68), .callm 21 [(.tmp 66), (.tmp 67)], none, []⟩,
    ⟨(some 12), .mv (.tmp 68), none, []⟩] [1, 2, 6, 7, 9, 12]
def m_laws_FnExactSealServer_31 : Unit → MCode := fun _ => .region [] [⟨(some 13), .mv (.const (.int .i64 1)), none, []⟩] [1, 2, 6, 7, 9, 12, 13]
def m_laws_FnExactSealServer_32 : Unit → MCode := fun _ => .region [] [⟨(some 69), .ld (.tmp 9) 12 true, none, []⟩,
    ⟨(some 70), .mv (.tmp 13), none, []⟩,
    ⟨(some 71), .call 39 [(.tmp 69), (.tmp 70)], none, []⟩,
    ⟨(some 13), .mv (.tmp 71), none, []⟩] [1, 2, 6, 7, 9, 12, 13]
def m_laws_FnExactSealServer_33 : Unit → MCode := fun _ => .region [] [⟨(some 72), .mv (.tmp 13), none, []⟩,
    ⟨(some 73), .bin .lss (.tmp 72) (.const (.int .i64 0)), none, []⟩] [1, 2, 6, 7, 9, 12, 13, 73]
def m_laws_FnExactSealServer_34 : Unit → MCode := fun _ => .region [] [⟨(some 4), .mv (.const (.bool false)), none, []⟩] [4]
def m_laws_FnExactSealServer_35 : Unit → MCode := fun _ => .seq m_laws_FnExactSealServer_34 (fun _ => .ret)
def m_laws_FnExactSealServer_36 : Unit → MCode := fun _ => .cond (.tmp 73) m_laws_FnExactSealServer_35 (fun _ => .skip)
def m_laws_FnExactSealServer_37 : Unit → MCode := fun _ => .seq m_laws_FnExactSealServer_33 m_laws_FnExactSealServer_36
def m_laws_FnExactSealServer_38 : Unit → MCode := fun _ => .region [] [⟨(some 74), .mv (.tmp 13), none, []⟩,
    ⟨(some 75), .mv (.tmp 12), none, []⟩,
    ⟨(some 76), .bin .neq (.tmp 74) (.tmp 75), none, []⟩] [1, 2, 6, 7, 9, 12, 76]
def m_laws_FnExactSealServer_39 : Unit → MCode := fun _ => .region [] [⟨(some 4), .mv (.const (.bool false)), none, []⟩] [4]
def m_laws_FnExactSealServer_40 : Unit → MCode := fun _ => .seq m_laws_FnExactSealServer_39 (fun _ => .ret)
def m_laws_FnExactSealServer_41 : Unit → MCode := fun _ => .cond (.tmp 76) m_laws_FnExactSealServer_40 (fun _ => .skip)
def m_laws_FnExactSealServer_42 : Unit → MCode := fun _ => .seq m_laws_FnExactSealServer_38 m_laws_FnExactSealServer_41
def m_laws_FnExactSealServer_43 : Unit → MCode := fun _ => .region [] [⟨(some 78), .ld (.tmp 2) 12 true, none, []⟩,
    ⟨(some 79), .call 17 [(.tmp 78)], none, []⟩,
    ⟨(some 80), .mv (.tmp 1), none, []⟩,
    ⟨(some 81), .call 41 [(.tmp 79), (.tmp 80)], none, []⟩,
    ⟨(some 77), .mv (.tmp 81), none, []⟩,
    ⟨(some 82), .ext (.tmp 77) 0, none, []⟩,
    ⟨(some 83), .ext (.tmp 77) 1, none, []⟩,
    ⟨(some 14), .alloc [.bool false, .bool false, .int .i64 0, .int .i64 0, .int .i64 0, .int .i64 0, .slice none 0 0, .slice none 0 0, .int .i64 0, .slice none 0 0, .int .i64 0, .slice none 0 0], none, []⟩,
    ⟨none, .sto (.tmp 14) (.tmp 82) 12, none, []⟩,
    ⟨(some 15), .mv (.tmp 83), none, []⟩] [6, 7, 9, 12, 14, 15]
def m_laws_FnExactSealServer_44 : Unit → MCode := fun _ => .region [] [⟨(some 84), .ld (.tmp 14) 12 true, none, []⟩,
    ⟨(some 85), .ld (.tmp 6) 12 true, none, []⟩,
    ⟨(some 86), .call 20 [(.tmp 84), (.tmp 85)], none, []⟩,
    ⟨(some 87), .not (.tmp 86), none, []⟩,
    ⟨(some 88), .mv (.tmp 87), none, []⟩,
    ⟨(some 89), .mv (.tmp 15), (some (88, false)), []⟩,
    ⟨(some 90), .mv (.tmp 7), (some (88, false)), []⟩,
    ⟨(some 91), .bbin .neq (.tmp 89) (.tmp 90), (some (88, false)), []⟩,
    ⟨(some 92), .pick (.tmp 88) (.const (.bool true)) (.tmp 91), none, []⟩] [9, 12, 92]
def m_laws_FnExactSealServer_45 : Unit → MCode := fun _ => .region [] [⟨(some 4), .mv (.const (.bool false)), none, []⟩] [4]
def m_laws_FnExactSealServer_46 : Unit → MCode := fun _ => .seq m_laws_FnExactSealServer_45 (fun _ => .ret)
def m_laws_FnExactSealServer_47 : Unit → MCode := fun _ => .cond (.tmp 92) m_laws_FnExactSealServer_46 (fun _ => .skip)
def m_laws_FnExactSealServer_48 : Unit → MCode := fun _ => .seq m_laws_FnExactSealServer_44 m_laws_FnExactSealServer_47
def m_laws_FnExactSealServer_49 : Unit → MCode := fun _ => .region [] [⟨(some 13), .mv (.const (.int .i64 1)), none, []⟩] [9, 12, 13]
def m_laws_FnExactSealServer_50 : Unit → MCode := fun _ => .region [] [⟨(some 93), .ld (.tmp 9) 12 true, none, []⟩,
    ⟨(some 94), .mv (.tmp 13), none, []⟩,
    ⟨(some 95), .call 39 [(.tmp 93), (.tmp 94)], none, []⟩,
    ⟨(some 13), .mv (.tmp 95), none, []⟩] [12, 13]
def m_laws_FnExactSealServer_51 : Unit → MCode := fun _ => .region [] [⟨(some 96), .mv (.tmp 13), none, []⟩,
    ⟨(some 97), .bin .lss (.tmp 96) (.const (.int .i64 0)), none, []⟩] [12, 13, 97]
def m_laws_FnExactSealServer_52 : Unit → MCode := fun _ => .region [] [⟨(some 4), .mv (.const (.bool false)), none, []⟩] [4]
def m_laws_FnExactSealServer_53 : Unit → MCode := fun _ => .seq m_laws_FnExactSealServer_52 (fun _ => .ret)
def m_laws_FnExactSealServer_54 : Unit → MCode := fun _ => .cond (.tmp 97) m_laws_FnExactSealServer_53 (fun _ => .skip)
def m_laws_FnExactSealServer_55 : Unit → MCode := fun _ => .seq m_laws_FnExactSealServer_51 m_laws_FnExactSealServer_54
def m_laws_FnExactSealServer_56 : Unit → MCode := fun _ => .region [] [⟨(some 98), .mv (.tmp 13), none, []⟩,
    ⟨(some 99), .mv (.tmp 12), none, []⟩,
    ⟨(some 100), .bin .neq (.tmp 98) (.tmp 99), none, []⟩] [100]
def m_laws_FnExactSealServer_57 : Unit → MCode := fun _ => .region [] [⟨(some 4), .mv (.const (.bool false)), none, []⟩] [4]
def m_laws_FnExactSealServer_58 : Unit → MCode := fun _ => .seq m_laws_FnExactSealServer_57 (fun _ => .ret)
def m_laws_FnExactSealServer_59 : Unit → MCode := fun _ => .cond (.tmp 100) m_laws_FnExactSealServer_58 (fun _ => .skip)
def m_laws_FnExactSealServer_60 : Unit → MCode := fun _ => .seq m_laws_FnExactSealServer_56 m_laws_FnExactSealServer_59
def m_laws_FnExactSealServer_61 : Unit → MCode := fun _ => .region [] [⟨(some 4), .mv (.const (.bool true)), none, []⟩] [4]
def m_laws_FnExactSealServer_62 : Unit → MCode := fun _ => .seq m_laws_FnExactSealServer_61 (fun _ => .ret)
def m_laws_FnExactSealServer_63 : Unit → MCode := fun _ => .seq m_laws_FnExactSealServer_60 m_laws_FnExactSealServer_62
def m_laws_FnExactSealServer_64 : Unit → MCode := fun _ => .seq m_laws_FnExactSealServer_55 m_laws_FnExactSealServer_63
def m_laws_FnExactSealServer_65 : Unit → MCode := fun _ => .seq m_laws_FnExactSealServer_50 m_laws_FnExactSealServer_64
def m_laws_FnExactSealServer_66 : Unit → MCode := fun _ => .seq m_laws_FnExactSealServer_49 m_laws_FnExactSealServer_65
def m_laws_FnExactSealServer_67 : Unit → MCode := fun _ => .seq m_laws_FnExactSealServer_48 m_laws_FnExactSealServer_66
def m_laws_FnExactSealServer_68 : Unit → MCode := fun _ => .seq m_laws_FnExactSealServer_43 m_laws_FnExactSealServer_67
def m_laws_FnExactSealServer_69 : Unit → MCode := fun _ => .seq m_laws_FnExactSealServer_42 m_laws_FnExactSealServer_68
def m_laws_FnExactSealServer_70 : Unit → MCode := fun _ => .seq m_laws_FnExactSealServer_37 m_laws_FnExactSealServer_69
def m_laws_FnExactSealServer_71 : Unit → MCode := fun _ => .seq m_laws_FnExactSealServer_32 m_laws_FnExactSealServer_70
def m_laws_FnExactSealServer_72 : Unit → MCode := fun _ => .seq m_laws_FnExactSealServer_31 m_laws_FnExactSealServer_71
def m_laws_FnExactSealServer_73 : Unit → MCode := fun _ => .seq m_laws_FnExactSealServer_30 m_laws_FnExactSealServer_72
def m_laws_FnExactSealServer_74 : Unit → MCode := fun _ => .seq m_laws_FnExactSealServer_29 m_laws_FnExactSealServer_73
def m_laws_FnExactSealServer_75 : Unit → MCode := fun _ => .seq m_laws_FnExactSealServer_28 m_laws_FnExactSealServer_74
def m_laws_FnExactSealServer_76 : Unit → MCode := fun _ => .seq m_laws_FnExactSealServer_23 m_laws_FnExactSealServer_75
def m_laws_FnExactSealServer_77 : Unit → MCode := fun _ => .seq m_laws_FnExactSealServer_22 m_laws_FnExactSealServer_76
def m_laws_FnExactSealServer_78 : Unit → MCode := fun _ => .seq m_laws_FnExactSealServer_21 m_laws_FnExactSealServer_77
def m_laws_FnExactSealServer_79 : Unit → MCode := fun _ => .seq m_laws_FnExactSealServer_16 m_laws_FnExactSealServer_78
def m_laws_FnExactSealServer_80 : Unit → MCode := fun _ => .seq m_laws_FnExactSealServer_11 m_laws_FnExactSealServer_79
def m_laws_FnExactSealServer_81 : Unit → MCode := fun _ => .seq m_laws_FnExactSealServer_10 m_laws_FnExactSealServer_80
def m_laws_FnExactSealServer_82 : Unit → MCode := fun _ => .seq m_laws_FnExactSealServer_9 m_laws_FnExactSealServer_81
def m_laws_FnExactSealServer_83 : Unit → MCode := fun _ => .seq m_laws_FnExactSealServer_8 m_laws_FnExactSealServer_82
def m_laws_FnExactSealServer_84 : Unit → MCode := fun _ => .seq m_laws_FnExactSealServer_3 m_laws_FnExactSealServer_83
def m_laws_FnExactSealServer_85 : Unit → MCode := fun _ => .seq m_laws_FnExactSealServer_2 m_laws_FnExactSealServer_84
def m_laws_FnExactSealServer_86 : Unit → MCode := fun _ => .seq m_laws_FnExactSealServer_1 m_laws_FnExactSealServer_85
def m_laws_FnExactSealServer : MCode := m_laws_FnExactSealServer_86 ()
def h_laws_FnExactSealServer : Hints := [(0, [1, 2], [], [], []), (1, [1, 2, 5], [], [], []), (2, [1, 2, 5], [], [], []), (3, [1, 2, 20], [], [], []), (4, [4], [], [], []), (5, [1, 2, 6, 7], [], [], []), (6, [1, 2, 6, 7, 8], [], [], []), (7, [1, 2, 6, 7, 8, 9, 10], [], [], []), (8, [1, 2, 6, 7, 8, 9, 10, 44], [], [], []), (9, [4], [], [], []), (10, [1, 2, 6, 7, 8, 9, 10, 49], [[], [0], [0]], [], []), (11, [4], [], [], []), (12, [1, 2, 6, 7, 8, 9, 10, 11], [], [], []), (13, [1, 2, 6, 7, 9, 10, 11], [], [], []), (14, [1, 2, 6, 7, 9, 65], [], [], []), (15, [4], [], [], []), (16, [1, 2, 6, 7, 9, 12], [], [], []), (17, [1, 2, 6, 7, 9, 12], [], [], []), (18, [1, 2, 6, 7, 9, 12, 13], [], [], []), (19, [1, 2, 6, 7, 9, 12, 13], [], [], []), (20, [1, 2, 6, 7, 9, 12, 13, 73], [], [], []), (21, [4], [], [], []), (22, [1, 2, 6, 7, 9, 12, 76], [], [], []), (23, [4], [], [], []), (24, [6, 7, 9, 12, 14, 15], [], [], []), (25, [9, 12, 92], [], [], []), (26, [4], [], [], []), (27, [9, 12, 13], [], [], []), (28, [12, 13], [], [], []), (29, [12, 13, 97], [], [], []), (30, [4], [], [], []), (31, [100], [], [], []), (32, [4], [], [], []), (33, [4], [], [], [])]
def r_laws_FnExactSealServer : List RV := [.t 4]
abbrev n_laws_FnExactSealServer : Nat := 6
theorem k_laws_FnExactSealServer : Known Pr mu n_laws_FnExactSealServer m_laws_FnExactSealServer r_laws_FnExactSealServer Go.Proofs.Try.f6.ntmps := .of h_laws_FnExactSealServer hm Go.Proofs.Try.func6 (by kernel_rfl) (by kernel_rfl) (by kernel_rfl) (by kernel_rfl)
def m_laws_szServer_1 : Unit → MCode := fun _ => .region [] [⟨(some 2), .box (.tmp 0), none, []⟩,
    ⟨(some 4), .mv (.const (.int .i64 0)), none, []⟩] [1, 2]
def m_laws_szServer_2 : Unit → MCode := fun _ => .region [] [⟨(some 5), .fa (.tmp 2) 4, none, []⟩,
    ⟨(some 6), .ld (.tmp 5) 4 true, none, []⟩,
    ⟨(some 7), .mv (.tmp 1), none, []⟩,
    ⟨(some 8), .call 51 [(.tmp 6), (.tmp 7)], none, []⟩,
    ⟨(some 1), .mv (.tmp 8), none, []⟩] [1, 2]
def m_laws_szServer_3 : Unit → MCode := fun _ => .region [] [⟨(some 9), .mv (.tmp 1), none, []⟩,
    ⟨(some 10), .bin .lss (.tmp 9) (.const (.int .i64 0)), none, []⟩] [1, 2, 10]
def m_laws_szServer_4 : Unit → MCode := fun _ => .region [] [⟨(some 4), .mv (.const (.int .i64 (-1))), none, []⟩] [4]
def m_laws_szServer_5 : Unit → MCode := fun _ => .seq m_laws_szServer_4 (fun _ => .ret)
def m_laws_szServer_6 : Unit → MCode := fun _ => .cond (.tmp 10) m_laws_szServer_5 (fun _ => .skip)
def m_laws_szServer_7 : Unit → MCode := fun _ => .seq m_laws_szServer_3 m_laws_szServer_6
def m_laws_szServer_8 : Unit → MCode := fun _ => .region [] [⟨(some 11), .fa (.tmp 2) 9, none, []⟩,
    ⟨(some 12), .ld (.tmp 11) 1 false, none, []⟩,
    ⟨(some 13), .mv (.tmp 1), none, []⟩,
    ⟨(some 14), .call 75 [(.tmp 12), (.tmp 13)], none, []⟩,
    ⟨(some 1), .mv (.tmp 14), none, []⟩] [1, 2]
def m_laws_szServer_9 : Unit → MCode := fun _ => .region [] [⟨(some 15), .mv (.tmp 1), none, []⟩,
    ⟨(some 16), .bin .lss (.tmp 15) (.const (.int .i64 0)), none, []⟩] [1, 2, 16]
def m_laws_szServer_10 : Unit → MCode := fun _ => .region [] [⟨(some 4), .mv (.const (.int .i64 (-1))), none, []⟩] [4]
def m_laws_szServer_11 : Unit → MCode := fun _ => .seq m_laws_szServer_10 (fun _ => .ret)
def m_laws_szServer_12 : Unit → MCode := fun _ => .cond (.tmp 16) m_laws_szServer_11 (fun _ => .skip)
def m_laws_szServer_13 : Unit → MCode := fun _ => .seq m_laws_szServer_9 m_laws_szServer_12
def m_laws_szServer_14 : Unit → MCode := fun _ => .region [] [⟨(some 17), .fa (.tmp 2) 11, none, []⟩,
    ⟨(some 18), .ld (.tmp 17) 1 false, none, []⟩,
    ⟨(some 19), .mv (.tmp 1), none, []⟩,
    ⟨(some 20), .call 75 [(.tmp 18), (.tmp 19)], none, []⟩,
    ⟨(some 1), .mv (.tmp 20), none, []⟩] [1]
def m_laws_szServer_15 : Unit → MCode := fun _ => .region [] [⟨(some 21), .mv (.tmp 1), none, []⟩,
    ⟨(some 22), .bin .lss (.tmp 21) (.const (.int .i64 0)), none, []⟩] [1, 22]
def m_laws_szServer_16 : Unit → MCode := fun _ => .region [] [⟨(some 4), .mv (.const (.int .i64 (-1))), none, []⟩] [4]
def m_laws_szServer_17 : Unit → MCode := fun _ => .seq m_laws_szServer_16 (fun _ => .ret)
def m_laws_szServer_18 : Unit → MCode := fun _ => .cond (.tmp 22) m_laws_szServer_17 (fun _ => .skip)
def m_laws_szServer_19 : Unit → MCode := fun _ => .seq m_laws_szServer_15 m_laws_szServer_18
def m_laws_szServer_20 : Unit → MCode := fun _ => .region [] [⟨(some 23), .mv (.tmp 1), none, []⟩,
    ⟨(some 4), .mv (.tmp 23), none, []⟩] [4]
def m_laws_szServer_21 : Unit → MCode := fun _ => .seq m_laws_szServer_20 (fun _ => .ret)
def m_laws_szServer_22 : Unit → MCode := fun _ => .seq m_laws_szServer_19 m_laws_szServer_21
def m_laws_szServer_23 : Unit → MCode := fun _ => .seq m_laws_szServer_14 m_laws_szServer_22
def m_laws_szServer_24 : Unit → MCode := fun _ => .seq m_laws_szServer_13 m_laws_szServer_23
def m_laws_szServer_25 : Unit → MCode := fun _ => .seq m_laws_szServer_8 m_laws_szServer_24
def m_laws_szServer_26 : Unit → MCode := fun _ => .seq m_laws_szServer_7 m_laws_szServer_25
def m_laws_szServer_27 : Unit → MCode := fun _ => .seq m_laws_szServer_2 m_laws_szServer_26
def m_laws_szServer_28 : Unit → MCode := fun _ => .seq m_laws_szServer_1 m_laws_szServer_27
def m_laws_szServer : MCode := m_laws_szServer_28 ()
def h_laws_szServer : Hints := [(0, [1, 2], [], [], []), (1, [1, 2], [], [], []), (2, [1, 2, 10], [], [], []), (3, [4], [], [], []), (4, [1, 2], [], [], []), (5, [1, 2, 16], [], [], []), (6, [4], [], [], []), (7, [1], [], [], []), (8, [1, 22], [], [], []), (9, [4], [], [], []), (10, [4], [], [], [])]
def r_laws_szServer : List RV := [.t 4]
abbrev n_laws_szServer : Nat := 15
theorem k_laws_szServer : Known Pr mu n_laws_szServer m_laws_szServer r_laws_szServer Go.Proofs.Try.f15.ntmps := .of h_laws_szServer hm Go.Proofs.Try.func15 (by kernel_rfl) (by kernel_rfl) (by kernel_rfl) (by kernel_rfl)
def m_laws_toServer_1 : Unit → MCode := fun _ => .region [] [⟨(some 1), .box (.tmp 0), none, []⟩,
    ⟨(some 2), .alloc [.bool false, .bool false, .int .i64 0, .int .i64 0, .int .i64 0, .int .i64 0, .slice none 0 0, .slice none 0 0, .int .i64 0, .slice none 0 0, .int .i64 0, .slice none 0 0], none, []⟩] [1, 2]
def m_laws_toServer_2 : Unit → MCode := fun _ => .region [] [⟨(some 3), .alloc [.bool false, .bool false, .int .i64 0, .int .i64 0, .int .i64 0, .int .i64 0, .slice none 0 0, .slice none 0 0, .int .i64 0, .slice none 0 0, .int .i64 0, .slice none 0 0], none, []⟩] [1, 2, 3]
def m_laws_toServer_3 : Unit → MCode := fun _ => .region [] [⟨(some 4), .fa (.tmp 1) 0, none, []⟩,
    ⟨(some 5), .ld (.tmp 4) 1 false, none, []⟩,
    ⟨(some 6), .fa (.tmp 3) 0, none, []⟩,
    ⟨none, .sto (.tmp 6) (.tmp 5) 1, none, []⟩] [1, 2, 3]
def m_laws_toServer_4 : Unit → MCode := fun _ => .region [] [⟨(some 7), .fa (.tmp 1) 1, none, []⟩,
    ⟨(some 8), .ld (.tmp 7) 1 false, none, []⟩,
    ⟨(some 9), .fa (.tmp 3) 1, none, []⟩,
    ⟨none, .sto (.tmp 9) (.tmp 8) 1, none, []⟩] [1, 2, 3]
def m_laws_toServer_5 : Unit → MCode := fun _ => .region [] [⟨(some 10), .fa (.tmp 1) 2, none, []⟩,
    ⟨(some 11), .ld (.tmp 10) 1 false, none, []⟩,
    ⟨(some 12), .fa (.tmp 3) 2, none, []⟩,
    ⟨none, .sto (.tmp 12) (.tmp 11) 1, none, []⟩] [1, 2, 3]
def m_laws_toServer_6 : Unit → MCode := fun _ => .region [] [⟨(some 13), .fa (.tmp 1) 3, none, []⟩,
    ⟨(some 14), .ld (.tmp 13) 1 false, none, []⟩,
    ⟨(some 15), .fa (.tmp 3) 3, none, []⟩,
    ⟨none, .sto (.tmp 15) (.tmp 14) 1, none, []⟩] [1, 2, 3]
def m_laws_toServer_7 : Unit → MCode := fun _ => .region [] [⟨(some 16), .fa (.tmp 1) 4, none, []⟩,
    ⟨(some 17), .ld (.tmp 16) 4 true, none, []⟩,
    ⟨(some 18), .call 53 [(.tmp 17)], none, []⟩,
    ⟨(some 19), .fa (.tmp 3) 4, none, []⟩,
    ⟨none, .sto (.tmp 19) (.tmp 18) 4, none, []⟩] [1, 2, 3]
def m_laws_toServer_8 : Unit → MCode := fun _ => .region [] [⟨(some 20), .fa (.tmp 1) 8, none, []⟩,
    ⟨(some 21), .ld (.tmp 20) 1 false, none, []⟩,
    ⟨(some 22), .fa (.tmp 3) 8, none, []⟩,
    ⟨none, .sto (.tmp 22) (.tmp 21) 1, none, []⟩] [1, 2, 3]
def m_laws_toServer_9 : Unit → MCode := fun _ => .region [] [⟨(some 23), .fa (.tmp 1) 9, none, []⟩,
    ⟨(some 24), .ld (.tmp 23) 1 false, none, []⟩,
    ⟨(some 25), .call 78 [(.tmp 24)], none, []⟩,
    ⟨(some 26), .fa (.tmp 3) 9, none, []⟩,
    ⟨none, .sto (.tmp 26) (.tmp 25) 1, none, []⟩] [1, 2, 3]
def m_laws_toServer_10 : Unit → MCode := fun _ => .region [] [⟨(some 27), .fa (.tmp 1) 10, none, []⟩,
    ⟨(some 28), .ld (.tmp 27) 1 false, none, []⟩,
    ⟨(some 29), .fa (.tmp 3) 10, none, []⟩,
    ⟨none, .sto (.tmp 29) (.tmp 28) 1, none, []⟩] [1, 2, 3]
def m_laws_toServer_11 : Unit → MCode := fun _ => .region [] [⟨(some 30), .fa (.tmp 1) 11, none, []⟩,
    ⟨(some 31), .ld (.tmp 30) 1 false, none, []⟩,
    ⟨(some 32), .call 78 [(.tmp 31)], none, []⟩,
    ⟨(some 33), .fa (.tmp 3) 11, none, []⟩,
    ⟨none, .sto (.tmp 33) (.tmp 32) 1, none, []⟩] [2, 3]
def m_laws_toServer_12 : Unit → MCode := fun _ => .region [] [⟨(some 34), .ld (.tmp 3) 12 true, none, []⟩,
    ⟨none, .sto (.tmp 2) (.tmp 34) 12, none, []⟩] [2]
def m_laws_toServer_13 : Unit → MCode := fun _ => .seq m_laws_toServer_12 (fun _ => .ret)
def m_laws_toServer_14 : Unit → MCode := fun _ => .seq m_laws_toServer_11 m_laws_toServer_13
def m_laws_toServer_15 : Unit → MCode := fun _ => .seq m_laws_toServer_10 m_laws_toServer_14
def m_laws_toServer_16 : Unit → MCode := fun _ => .seq m_laws_toServer_9 m_laws_toServer_15
def m_laws_toServer_17 : Unit → MCode := fun _ => .seq m_laws_toServer_8 m_laws_toServer_16
def m_laws_toServer_18 : Unit → MCode := fun _ => .seq m_laws_toServer_7 m_laws_toServer_17
def m_laws_toServer_19 : Unit → MCode := fun _ => .seq m_laws_toServer_6 m_laws_toServer_18
def m_laws_toServer_20 : Unit → MCode := fun _ => .seq m_laws_toServer_5 m_laws_toServer_19
def m_laws_toServer_21 : Unit → MCode := fun _ => .seq m_laws_toServer_4 m_laws_toServer_20
def m_laws_toServer_22 : Unit → MCode := fun _ => .seq m_laws_toServer_3 m_laws_toServer_21
def m_laws_toServer_23 : Unit → MCode := fun _ => .seq m_laws_toServer_2 m_laws_toServer_22
def m_laws_toServer_24 : Unit → MCode := fun _ => .seq m_laws_toServer_1 m_laws_toServer_23
def m_laws_toServer : MCode := m_laws_toServer_24 ()
def h_laws_toServer : Hints := [(0, [1, 2], [], [], []), (1, [1, 2, 3], [], [], []), (2, [1, 2, 3], [], [], []), (3, [1, 2, 3], [], [], []), (4, [1, 2, 3], [], [], []), (5, [1, 2, 3], [], [], []), (6, [1, 2, 3], [], [], []), (7, [1, 2, 3], [], [], []), (8, [1, 2, 3], [], [], []), (9, [1, 2, 3], [], [], []), (10, [2, 3], [], [], []), (11, [2], [], [], [])]
def r_laws_toServer : List RV := [.c 2 12 true]
abbrev n_laws_toServer : Nat := 17
theorem k_laws_toServer : Known Pr mu n_laws_toServer m_laws_toServer r_laws_toServer Go.Proofs.Try.f17.ntmps := .of h_laws_toServer hm Go.Proofs.Try.func17 (by kernel_rfl) (by kernel_rfl) (by kernel_rfl) (by kernel_rfl)
def m_laws_eqEntryS_1 : Unit → MCode := fun _ => .region [] [⟨(some 4), .mv (.const (.bool false)), none, []⟩] [0, 1]
def m_laws_eqEntryS_2 : Unit → MCode := fun _ => .region [] [⟨(some 6), .mv (.tmp 0), none, []⟩,
    ⟨(some 7), .len false (.tmp 6), none, []⟩,
    ⟨(some 8), .mv (.tmp 1), none, []⟩,
    ⟨(some 9), .len false (.tmp 8), none, []⟩,
    ⟨(some 10), .bin .neq (.tmp 7) (.tmp 9), none, []⟩] [0, 1, 10]
def m_laws_eqEntryS_3 : Unit → MCode := fun _ => .region [] [⟨(some 4), .mv (.const (.bool false)), none, []⟩] [4]
def m_laws_eqEntryS_4 : Unit → MCode := fun _ => .seq m_laws_eqEntryS_3 (fun _ => .ret)
def m_laws_eqEntryS_5 : Unit → MCode := fun _ => .cond (.tmp 10) m_laws_eqEntryS_4 (fun _ => .skip)
def m_laws_eqEntryS_6 : Unit → MCode := fun _ => .seq m_laws_eqEntryS_2 m_laws_eqEntryS_5
def m_laws_eqEntryS_7 : Unit → MCode := fun _ => .region [] [⟨(some 5), .mv (.const (.int .i64 0)), none, []⟩] [0, 1, 5]
def m_laws_eqEntryS_8 : Unit → MCode := fun _ => .region [] [⟨(some 11), .mv (.tmp 5), none, []⟩,
    ⟨(some 12), .mv (.tmp 0), none, []⟩,
    ⟨(some 13), .len false (.tmp 12), none, []⟩,
    ⟨(some 14), .bin .lss (.tmp 11) (.tmp 13), none, []⟩] [0, 1, 5, 14]
def m_laws_eqEntryS_9 : Unit → MCode := fun _ => .cond (.tmp 14) (fun _ => .skip) (fun _ => .exit 0)
def m_laws_eqEntryS_10 : Unit → MCode := fun _ => .seq m_laws_eqEntryS_8 m_laws_eqEntryS_9
def m_laws_eqEntryS_11 : Unit → MCode := fun _ => .region [] [⟨(some 17), .mv (.tmp 0), none, []⟩,
    ⟨(some 18), .mv (.tmp 5), none, []⟩,
    ⟨(some 19), .ia (.tmp 17) (.tmp 18) 7, none, []⟩,
    ⟨(some 20), .ld (.tmp 19) 7 true, none, []⟩,
    ⟨(some 21), .mv (.tmp 1), none, []⟩,
    ⟨(some 22), .mv (.tmp 5), none, []⟩,
    ⟨(some 23), .ia (.tmp 21) (.tmp 22) 7, none, [0, 1, 2, 3]⟩,
    ⟨(some 24), .ld (.tmp 23) 7 true, none, [0, 1, 2, 3]⟩,
    ⟨(some 25), .call 81 [(.tmp 20), (.tmp 24)], none, []⟩,
    ⟨(some 26), .not (.tmp 25), none, []⟩] [0, 1, 5, 26]
def m_laws_eqEntryS_12 : Unit → MCode := fun _ => .region [] [⟨(some 4), .mv (.const (.bool false)), none, []⟩] [4]
def m_laws_eqEntryS_13 : Unit → MCode := fun _ => .seq m_laws_eqEntryS_12 (fun _ => .ret)
def m_laws_eqEntryS_14 : Unit → MCode := fun _ => .cond (.tmp 26) m_laws_eqEntryS_13 (fun _ => .skip)
def m_laws_eqEntryS_15 : Unit → MCode := fun _ => .seq m_laws_eqEntryS_11 m_laws_eqEntryS_14
def m_laws_eqEntryS_16 : Unit → MCode := fun _ => .block 1 m_laws_eqEntryS_15
def m_laws_eqEntryS_17 : Unit → MCode := fun _ => .region [] [⟨(some 15), .mv (.tmp 5), none, []⟩,
    ⟨(some 16), .bin .add (.tmp 15) (.const (.int .i64 1)), none, []⟩,
    ⟨(some 5), .mv (.tmp 16), none, []⟩] [0, 1, 5]
def m_laws_eqEntryS_18 : Unit → MCode := fun _ => .seq m_laws_eqEntryS_16 m_laws_eqEntryS_17
def m_laws_eqEntryS_19 : Unit → MCode := fun _ => .seq m_laws_eqEntryS_10 m_laws_eqEntryS_18
def m_laws_eqEntryS_20 : Unit → MCode := fun _ => .loop m_laws_eqEntryS_19
def m_laws_eqEntryS_21 : Unit → MCode := fun _ => .block 0 m_laws_eqEntryS_20
def m_laws_eqEntryS_22 : Unit → MCode := fun _ => .seq m_laws_eqEntryS_7 m_laws_eqEntryS_21
def m_laws_eqEntryS_23 : Unit → MCode := fun _ => .region [] [⟨(some 4), .mv (.const (.bool true)), none, []⟩] [4]
def m_laws_eqEntryS_24 : Unit → MCode := fun _ => .seq m_laws_eqEntryS_23 (fun _ => .ret)
def m_laws_eqEntryS_25 : Unit → MCode := fun _ => .seq m_laws_eqEntryS_22 m_laws_eqEntryS_24
def m_laws_eqEntryS_26 : Unit → MCode := fun _ => .seq m_laws_eqEntryS_6 m_laws_eqEntryS_25
def m_laws_eqEntryS_27 : Unit → MCode := fun _ => .seq m_laws_eqEntryS_1 m_laws_eqEntryS_26
def m_laws_eqEntryS : MCode := m_laws_eqEntryS_27 ()
def h_laws_eqEntryS : Hints := [(0, [0, 1], [], [], []), (1, [0, 1, 10], [], [], []), (2, [4], [], [], []), (3, [0, 1, 5], [], [], []), (4, [0, 1, 5, 14], [], [], []), (6, [0, 1, 5, 26], [[], [], [], [], [], [], [0, 1, 2, 3], [0, 1, 2, 3]], [], []), (7, [4], [], [], []), (5, [0, 1, 5], [], [], []), (8, [4], [], [], [])]
def r_laws_eqEntryS : List RV := [.t 4]
abbrev n_laws_eqEntryS : Nat := 19
theorem k_laws_eqEntryS : Known Pr mu n_laws_eqEntryS m_laws_eqEntryS r_laws_eqEntryS Go.Proofs.Try.f19.ntmps := .of h_laws_eqEntryS hm Go.Proofs.Try.func19 (by kernel_rfl) (by kernel_rfl) (by kernel_rfl) (by kernel_rfl)
def m_laws_eqServer_1 : Unit → MCode := fun _ => .region [] [⟨(some 2), .box (.tmp 0), none, []⟩,
    ⟨(some 3), .box (.tmp 1), none, []⟩,
    ⟨(some 4), .mv (.const (.bool false)), none, []⟩] [2, 3]
def m_laws_eqServer_2 : Unit → MCode := fun _ => .region [] [⟨(some 5), .fa (.tmp 2) 0, none, []⟩,
    ⟨(some 6), .ld (.tmp 5) 1 false, none, []⟩,
    ⟨(some 7), .fa (.tmp 3) 0, none, []⟩,
    ⟨(some 8), .ld (.tmp 7) 1 false, none, []⟩,
    ⟨(some 9), .bbin .neq (.tmp 6) (.tmp 8), none, []⟩] [2, 3, 9]
def m_laws_eqServer_3 : Unit → MCode := fun _ => .region [] [⟨(some 4), .mv (.const (.bool false)), none, []⟩] [4]
def m_laws_eqServer_4 : Unit → MCode := fun _ => .seq m_laws_eqServer_3 (fun _ => .ret)
def m_laws_eqServer_5 : Unit → MCode := fun _ => .cond (.tmp 9) m_laws_eqServer_4 (fun _ => .skip)
def m_laws_eqServer_6 : Unit → MCode := fun _ => .seq m_laws_eqServer_2 m_laws_eqServer_5
def m_laws_eqServer_7 : Unit → MCode := fun _ => .region [] [⟨(some 10), .fa (.tmp 2) 1, none, []⟩,
    ⟨(some 11), .ld (.tmp 10) 1 false, none, []⟩,
    ⟨(some 12), .fa (.tmp 3) 1, none, []⟩,
    ⟨(some 13), .ld (.tmp 12) 1 false, none, []⟩,
    ⟨(some 14), .bbin .neq (.tmp 11) (.tmp 13), none, []⟩] [2, 3, 14]
def m_laws_eqServer_8 : Unit → MCode := fun _ => .region [] [⟨(some 4), .mv (.const (.bool false)), none, []⟩] [4]
def m_laws_eqServer_9 : Unit → MCode := fun _ => .seq m_laws_eqServer_8 (fun _ => .ret)
def m_laws_eqServer_10 : Unit → MCode := fun _ => .cond (.tmp 14) m_laws_eqServer_9 (fun _ => .skip)
def m_laws_eqServer_11 : Unit → MCode := fun _ => .seq m_laws_eqServer_7 m_laws_eqServer_10
def m_laws_eqServer_12 : Unit → MCode := fun _ => .region [] [⟨(some 15), .fa (.tmp 2) 2, none, []⟩,
    ⟨(some 16), .ld (.tmp 15) 1 false, none, []⟩,
    ⟨(some 17), .fa (.tmp 3) 2, none, []⟩,
    ⟨(some 18), .ld (.tmp 17) 1 false, none, []⟩,
    ⟨(some 19), .bin .neq (.tmp 16) (.tmp 18), none, []⟩] [2, 3, 19]
def m_laws_eqServer_13 : Unit → MCode := fun _ => .region [] [⟨(some 4), .mv (.const (.bool false)), none, []⟩] [4]
def m_laws_eqServer_14 : Unit → MCode := fun _ => .seq m_laws_eqServer_13 (fun _ => .ret)
def m_laws_eqServer_15 : Unit → MCode := fun _ => .cond (.tmp 19) m_laws_eqServer_14 (fun _ => .skip)
def m_laws_eqServer_16 : Unit → MCode := fun _ => .seq m_laws_eqServer_12 m_laws_eqServer_15
def m_laws_eqServer_17 : Unit → MCode := fun _ => .region [] [⟨(some 20), .fa (.tmp 2) 3, none, []⟩,
    ⟨(some 21), .ld (.tmp 20) 1 false, none, []⟩,
    ⟨(some 22), .fa (.tmp 3) 3, none, []⟩,
    ⟨(some 23), .ld (.tmp 22) 1 false, none, []⟩,
    ⟨(some 24), .bin .neq (.tmp 21) (.tmp 23), none, []⟩] [2, 3, 24]
def m_laws_eqServer_18 : Unit → MCode := fun _ => .region [] [⟨(some 4), .mv (.const (.bool false)), none, []⟩] [4]
def m_laws_eqServer_19 : Unit → MCode := fun _ => .seq m_laws_eqServer_18 (fun _ => .ret)
def m_laws_eqServer_20 : Unit → MCode := fun _ => .cond (.tmp 24) m_laws_eqServer_19 (fun _ => .skip)
def m_laws_eqServer_21 : Unit → MCode := fun _ => .seq m_laws_eqServer_17 m_laws_eqServer_20
def m_laws_eqServer_22 : Unit → MCode := fun _ => .region [] [⟨(some 25), .fa (.tmp 2) 4, none, []⟩,
    ⟨(some 26), .ld (.tmp 25) 4 true, none, []⟩,
    ⟨(some 27), .fa (.tmp 3) 4, none, []⟩,
    ⟨(some 28), .ld (.tmp 27) 4 true, none, []⟩,
    ⟨(some 29), .call 55 [(.tmp 26), (.tmp 28)], none, []⟩,
    ⟨(some 30), .not (.tmp 29), none, []⟩] [2, 3, 30]
def m_laws_eqServer_23 : Unit → MCode := fun _ => .region [] [⟨(some 4), .mv (.const (.bool false)), none, []⟩] [4]
def m_laws_eqServer_24 : Unit → MCode := fun _ => .seq m_laws_eqServer_23 (fun _ => .ret)
def m_laws_eqServer_25 : Unit → MCode := fun _ => .cond (.tmp 30) m_laws_eqServer_24 (fun _ => .skip)
def m_laws_eqServer_26 : Unit → MCode := fun _ => .seq m_laws_eqServer_22 m_laws_eqServer_25
def m_laws_eqServer_27 : Unit → MCode := fun _ => .region [] [⟨(some 31), .fa (.tmp 2) 8, none, []⟩,
    ⟨(some 32), .ld (.tmp 31) 1 false, none, []⟩,
    ⟨(some 33), .fa (.tmp 3) 8, none, []⟩,
    ⟨(some 34), .ld (.tmp 33) 1 false, none, []⟩,
    ⟨(some 35), .bin .neq (.tmp 32) (.tmp 34), none, []⟩] [2, 3, 35]
def m_laws_eqServer_28 : Unit → MCode := fun _ => .region [] [⟨(some 4), .mv (.const (.bool false)), none, []⟩] [4]
def m_laws_eqServer_29 : Unit → MCode := fun _ => .seq m_laws_eqServer_28 (fun _ => .ret)
def m_laws_eqServer_30 : Unit → MCode := fun _ => .cond (.tmp 35) m_laws_eqServer_29 (fun _ => .skip)
def m_laws_eqServer_31 : Unit → MCode := fun _ => .seq m_laws_eqServer_27 m_laws_eqServer_30
def m_laws_eqServer_32 : Unit → MCode := fun _ => .region [] [⟨(some 36), .fa (.tmp 2) 9, none, []⟩,
    ⟨(some 37), .ld (.tmp 36) 1 false, none, []⟩,
    ⟨(some 38), .fa (.tmp 3) 9, none, []⟩,
    ⟨(some 39), .ld (.tmp 38) 1 false, none, []⟩,
    ⟨(some 40), .call 19 [(.tmp 37), (.tmp 39)], none, []⟩,
    ⟨(some 41), .not (.tmp 40), none, []⟩] [2, 3, 41]
def m_laws_eqServer_33 : Unit → MCode := fun _ => .region [] [⟨(some 4), .mv (.const (.bool false)), none, []⟩] [4]
def m_laws_eqServer_34 : Unit → MCode := fun _ => .seq m_laws_eqServer_33 (fun _ => .ret)
def m_laws_eqServer_35 : Unit → MCode := fun _ => .cond (.tmp 41) m_laws_eqServer_34 (fun _ => .skip)
def m_laws_eqServer_36 : Unit → MCode := fun _ => .seq m_laws_eqServer_32 m_laws_eqServer_35
def m_laws_eqServer_37 : Unit → MCode := fun _ => .region [] [⟨(some 42), .fa (.tmp 2) 10, none, []⟩,
    ⟨(some 43), .ld (.tmp 42) 1 false, none, []⟩,
    ⟨(some 44), .fa (.tmp 3) 10, none, []⟩,
    ⟨(some 45), .ld (.tmp 44) 1 false, none, []⟩,
    ⟨(some 46), .bin .neq (.tmp 43) (.tmp 45), none, []⟩] [2, 3, 46]
def m_laws_eqServer_38 : Unit → MCode := fun _ => .region [] [⟨(some 4), .mv (.const (.bool false)), none, []⟩] [4]
def m_laws_eqServer_39 : Unit → MCode := fun _ => .seq m_laws_eqServer_38 (fun _ => .ret)
def m_laws_eqServer_40 : Unit → MCode := fun _ => .cond (.tmp 46) m_laws_eqServer_39 (fun _ => .skip)
def m_laws_eqServer_41 : Unit → MCode := fun _ => .seq m_laws_eqServer_37 m_laws_eqServer_40
def m_laws_eqServer_42 : Unit → MCode := fun _ => .region [] [⟨(some 47), .fa (.tmp 2) 11, none, []⟩,
    ⟨(some 48), .ld (.tmp 47) 1 false, none, []⟩,
    ⟨(some 49), .fa (.tmp 3) 11, none, []⟩,
    ⟨(some 50), .ld (.tmp 49) 1 false, none, []⟩,
    ⟨(some 51), .call 19 [(.tmp 48), (.tmp 50)], none, []⟩,
    ⟨(some 52), .not (.tmp 51), none, []⟩] [52]
def m_laws_eqServer_43 : Unit → MCode := fun _ => .region [] [⟨(some 4), .mv (.const (.bool false)), none, []⟩] [4]
def m_laws_eqServer_44 : Unit → MCode := fun _ => .seq m_laws_eqServer_43 (fun _ => .ret)
def m_laws_eqServer_45 : Unit → MCode := fun _ => .cond (.tmp 52) m_laws_eqServer_44 (fun _ => .skip)
def m_laws_eqServer_46 : Unit → MCode := fun _ => .seq m_laws_eqServer_42 m_laws_eqServer_45
def m_laws_eqServer_47 : Unit → MCode := fun _ => .region [] [⟨(some 4), .mv (.const (.bool true)), none, []⟩] [4]
def m_laws_eqServer_48 : Unit → MCode := fun _ => .seq m_laws_eqServer_47 (fun _ => .ret)
def m_laws_eqServer_49 : Unit → MCode := fun _ => .seq m_laws_eqServer_46 m_laws_eqServer_48
def m_laws_eqServer_50 : Unit → MCode := fun _ => .seq m_laws_eqServer_41 m_laws_eqServer_49
def m_laws_eqServer_51 : Unit → MCode := fun _ => .seq m_laws_eqServer_36 m_laws_eqServer_50
def m_laws_eqServer_52 : Unit → MCode := fun _ => .seq m_laws_eqServer_31 m_laws_eqServer_51
def m_laws_eqServer_53 : Unit → MCode := fun _ => .seq m_laws_eqServer_26 m_laws_eqServer_52
def m_laws_eqServer_54 : Unit → MCode := fun _ => .seq m_laws_eqServer_21 m_laws_eqServer_53
def m_laws_eqServer_55 : Unit → MCode := fun _ => .seq m_laws_eqServer_16 m_laws_eqServer_54
def m_laws_eqServer_56 : Unit → MCode := fun _ => .seq m_laws_eqServer_11 m_laws_eqServer_55
def m_laws_eqServer_57 : Unit → MCode := fun _ => .seq m_laws_eqServer_6 m_laws_eqServer_56
def m_laws_eqServer_58 : Unit → MCode := fun _ => .seq m_laws_eqServer_1 m_laws_eqServer_57
def m_laws_eqServer : MCode := m_laws_eqServer_58 ()
def h_laws_eqServer : Hints := [(0, [2, 3], [], [], []), (1, [2, 3, 9], [], [], []), (2, [4], [], [], []), (3, [2, 3, 14], [], [], []), (4, [4], [], [], []), (5, [2, 3, 19], [], [], []), (6, [4], [], [], []), (7, [2, 3, 24], [], [], []), (8, [4], [], [], []), (9, [2, 3, 30], [], [], []), (10, [4], [], [], []), (11, [2, 3, 35], [], [], []), (12, [4], [], [], []), (13, [2, 3, 41], [], [], []), (14, [4], [], [], []), (15, [2, 3, 46], [], [], []), (16, [4], [], [], []), (17, [52], [], [], []), (18, [4], [], [], []), (19, [4], [], [], [])]
def r_laws_eqServer : List RV := [.t 4]
abbrev n_laws_eqServer : Nat := 20
theorem k_laws_eqServer : Known Pr mu n_laws_eqServer m_laws_eqServer r_laws_eqServer Go.Proofs.Try.f20.ntmps := .of h_laws_eqServer hm Go.Proofs.Try.func20 (by kernel_rfl) (by kernel_rfl) (by kernel_rfl) (by kernel_rfl)
def m_laws_markServer_1 : Unit → MCode := fun _ => .region [] [⟨(some 2), .box (.tmp 0), none, []⟩,
    ⟨(some 4), .mv (.const (.int .i64 0)), none, []⟩] [1, 2]
def m_laws_markServer_2 : Unit → MCode := fun _ => .region [] [⟨(some 5), .fa (.tmp 2) 4, none, []⟩,
    ⟨(some 6), .ld (.tmp 5) 4 true, none, []⟩,
    ⟨(some 7), .mv (.tmp 1), none, []⟩,
    ⟨(some 8), .callm 82 [(.tmp 6), (.tmp 7)], none, []⟩,
    ⟨(some 1), .mv (.tmp 8), none, []⟩] [1, 2]
def m_laws_markServer_3 : Unit → MCode := fun _ => .region [] [⟨(some 9), .fa (.tmp 2) 9, none, []⟩,
    ⟨(some 10), .ld (.tmp 9) 1 false, none, []⟩,
    ⟨(some 11), .mv (.tmp 1), none, []⟩,
    ⟨(some 12), .callm 22 [(.tmp 10), (.tmp 11)], none, []⟩,
    ⟨(some 1), .mv (.tmp 12), none, []⟩] [1, 2]
def m_laws_markServer_4 : Unit → MCode := fun _ => .region [] [⟨(some 13), .fa (.tmp 2) 11, none, []⟩,
    ⟨(some 14), .ld (.tmp 13) 1 false, none, []⟩,
    ⟨(some 15), .mv (.tmp 1), none, []⟩,
    ⟨(some 16), .callm 22 [(.tmp 14), (.tmp 15)], none, []⟩,
    ⟨(some 1), .mv (.tmp 16), none, []⟩] [1]
def m_laws_markServer_5 : Unit → MCode := fun _ => .region [] [⟨(some 17), .mv (.tmp 1), none, []⟩,
    ⟨(some 4), .mv (.tmp 17), none, []⟩] [4]
def m_laws_markServer_6 : Unit → MCode := fun _ => .seq m_laws_markServer_5 (fun _ => .ret)
def m_laws_markServer_7 : Unit → MCode := fun _ => .seq m_laws_markServer_4 m_laws_markServer_6
def m_laws_markServer_8 : Unit → MCode := fun _ => .seq m_laws_markServer_3 m_laws_markServer_7
def m_laws_markServer_9 : Unit → MCode := fun _ => .seq m_laws_markServer_2 m_laws_markServer_8
def m_laws_markServer_10 : Unit → MCode := fun _ => .seq m_laws_markServer_1 m_laws_markServer_9
def m_laws_markServer : MCode := m_laws_markServer_10 ()
def h_laws_markServer : Hints := [(0, [1, 2], [], [], []), (1, [1, 2], [], [], []), (2, [1, 2], [], [], []), (3, [1], [], [], []), (4, [4], [], [], [])]
def r_laws_markServer : List RV := [.t 4]
abbrev n_laws_markServer : Nat := 21
theorem k_laws_markServer : Known Pr mu n_laws_markServer m_laws_markServer r_laws_markServer Go.Proofs.Try.f21.ntmps := .of h_laws_markServer hm Go.Proofs.Try.func21 (by kernel_rfl) (by kernel_rfl) (by kernel_rfl) (by kernel_rfl)
def m_laws_markEntryS_1 : Unit → MCode := fun _ => .region [] [⟨(some 4), .mv (.const (.int .i64 0)), none, []⟩] [0, 1]
def m_laws_markEntryS_2 : Unit → MCode := fun _ => .region [] [⟨(some 5), .mv (.const (.int .i64 0)), none, []⟩] [0, 1, 5]
def m_laws_markEntryS_3 : Unit → MCode := fun _ => .region [] [⟨(some 6), .mv (.tmp 5), none, []⟩,
    ⟨(some 7), .mv (.tmp 0), none, []⟩,
    ⟨(some 8), .len false (.tmp 7), none, []⟩,
    ⟨(some 9), .bin .lss (.tmp 6) (.tmp 8), none, []⟩] [0, 1, 5, 9]
def m_laws_markEntryS_4 : Unit → MCode := fun _ => .cond (.tmp 9) (fun _ => .skip) (fun _ => .exit 0)
def m_laws_markEntryS_5 : Unit → MCode := fun _ => .seq m_laws_markEntryS_3 m_laws_markEntryS_4
def m_laws_markEntryS_6 : Unit → MCode := fun _ => .region [] [⟨(some 12), .mv (.tmp 0), none, []⟩,
    ⟨(some 13), .mv (.tmp 5), none, []⟩,
    ⟨(some 14), .mv (.tmp 1), none, []⟩,
    ⟨(some 15), .ia (.tmp 12) (.tmp 13) 7, none, []⟩,
    ⟨(some 16), .fa (.tmp 15) 0, none, []⟩,
    ⟨none, .sto (.tmp 16) (.tmp 14) 1, none, []⟩] [0, 1, 5]
def m_laws_markEntryS_7 : Unit → MCode := fun _ => .region [] [⟨(some 17), .mv (.tmp 1), none, []⟩,
    ⟨(some 18), .bin .add (.tmp 17) (.const (.int .i64 1)), none, []⟩,
    ⟨(some 1), .mv (.tmp 18), none, []⟩] [0, 1, 5]
def m_laws_markEntryS_8 : Unit → MCode := fun _ => .region [] [⟨(some 19), .mv (.tmp 0), none, []⟩,
    ⟨(some 20), .mv (.tmp 5), none, []⟩,
    ⟨(some 21), .mv (.tmp 1), none, []⟩,
    ⟨(some 22), .ia (.tmp 19) (.tmp 20) 7, none, []⟩,
    ⟨(some 23), .fa (.tmp 22) 1, none, []⟩,
    ⟨(some 24), .fa (.tmp 23) 0, none, []⟩,
    ⟨none, .sto (.tmp 24) (.tmp 21) 1, none, []⟩] [0, 1, 5]
def m_laws_markEntryS_9 : Unit → MCode := fun _ => .region [] [⟨(some 25), .mv (.tmp 1), none, []⟩,
    ⟨(some 26), .bin .add (.tmp 25) (.const (.int .i64 1)), none, []⟩,
    ⟨(some 1), .mv (.tmp 26), none, []⟩] [0, 1, 5]
def m_laws_markEntryS_10 : Unit → MCode := fun _ => .region [] [⟨(some 27), .mv (.tmp 0), none, []⟩,
    ⟨(some 28), .mv (.tmp 5), none, []⟩,
    ⟨(some 29), .mv (.tmp 1), none, []⟩,
    ⟨(some 30), .ia (.tmp 27) (.tmp 28) 7, none, []⟩,
    ⟨(some 31), .fa (.tmp 30) 1, none, []⟩,
    ⟨(some 32), .fa (.tmp 31) 1, none, []⟩,
    ⟨none, .sto (.tmp 32) (.tmp 29) 1, none, []⟩] [0, 1, 5]
def m_laws_markEntryS_11 : Unit → MCode := fun _ => .region [] [⟨(some 33), .mv (.tmp 1), none, []⟩,
    ⟨(some 34), .bin .add (.tmp 33) (.const (.int .i64 1)), none, []⟩,
    ⟨(some 1), .mv (.tmp 34), none, []⟩] [0, 1, 5]
def m_laws_markEntryS_12 : Unit → MCode := fun _ => .region [] [⟨(some 35), .mv (.tmp 0), none, []⟩,
    ⟨(some 36), .mv (.tmp 5), none, []⟩,
    ⟨(some 37), .mv (.tmp 1), none, []⟩,
    ⟨(some 38), .ia (.tmp 35) (.tmp 36) 7, none, []⟩,
    ⟨(some 39), .fa (.tmp 38) 1, none, []⟩,
    ⟨(some 40), .fa (.tmp 39) 2, none, []⟩,
    ⟨none, .sto (.tmp 40) (.tmp 37) 1, none, []⟩] [0, 1, 5]
def m_laws_markEntryS_13 : Unit → MCode := fun _ => .region [] [⟨(some 41), .mv (.tmp 1), none, []⟩,
    ⟨(some 42), .bin .add (.tmp 41) (.const (.int .i64 1)), none, []⟩,
    ⟨(some 1), .mv (.tmp 42), none, []⟩] [0, 1, 5]
def m_laws_markEntryS_14 : Unit → MCode := fun _ => .region [] [⟨(some 43), .mv (.tmp 0), none, []⟩,
    ⟨(some 44), .mv (.tmp 5), none, []⟩,
    ⟨(some 45), .mv (.tmp 1), none, []⟩,
    ⟨(some 46), .ia (.tmp 43) (.tmp 44) 7, none, []⟩,
    ⟨(some 47), .fa (.tmp 46) 1, none, []⟩,
    ⟨(some 48), .fa (.tmp 47) 3, none, []⟩,
    ⟨none, .sto (.tmp 48) (.tmp 45) 1, none, []⟩] [0, 1, 5]
def m_laws_markEntryS_15 : Unit → MCode := fun _ => .region [] [⟨(some 49), .mv (.tmp 1), none, []⟩,
    ⟨(some 50), .bin .add (.tmp 49) (.const (.int .i64 1)), none, []⟩,
    ⟨(some 1), .mv (.tmp 50), none, []⟩] [0, 1, 5]
def m_laws_markEntryS_16 : Unit → MCode := fun _ => .region [] [⟨(some 51), .mv (.tmp 0), none, []⟩,
    ⟨(some 52), .mv (.tmp 5), none, []⟩,
    ⟨(some 53), .mv (.tmp 1), none, []⟩,
    ⟨(some 54), .ia (.tmp 51) (.tmp 52) 7, none, []⟩,
    ⟨(some 55), .fa (.tmp 54) 1, none, []⟩,
    ⟨(some 56), .fa (.tmp 55) 4, none, []⟩,
    ⟨none, .sto (.tmp 56) (.tmp 53) 1, none, []⟩] [0, 1, 5]
def m_laws_markEntryS_17 : Unit → MCode := fun _ => .region [] [⟨(some 57), .mv (.tmp 1), none, []⟩,
    ⟨(some 58), .bin .add (.tmp 57) (.const (.int .i64 1)), none, []⟩,
    ⟨(some 1), .mv (.tmp 58), none, []⟩] [0, 1, 5]
def m_laws_markEntryS_18 : Unit → MCode := fun _ => .region [] [⟨(some 59), .mv (.tmp 0), none, []⟩,
    ⟨(some 60), .mv (.tmp 5), none, []⟩,
    ⟨(some 61), .mv (.tmp 1), none, []⟩,
    ⟨(some 62), .ia (.tmp 59) (.tmp 60) 7, none, []⟩,
    ⟨(some 63), .fa (.tmp 62) 1, none, []⟩,
    ⟨(some 64), .fa (.tmp 63) 5, none, []⟩,
    ⟨none, .sto (.tmp 64) (.tmp 61) 1, none, []⟩] [0, 1, 5]
def m_laws_markEntryS_19 : Unit → MCode := fun _ => .region [] [⟨(some 65), .mv (.tmp 1), none, []⟩,
    ⟨(some 66), .bin .add (.tmp 65) (.const (.int .i64 1)), none, []⟩,
    ⟨(some 1), .mv (.tmp 66), none, []⟩] [0, 1, 5]
def m_laws_markEntryS_20 : Unit → MCode := fun _ => .seq m_laws_markEntryS_18 m_laws_markEntryS_19
def m_laws_markEntryS_21 : Unit → MCode := fun _ => .seq m_laws_markEntryS_17 m_laws_markEntryS_20
def m_laws_markEntryS_22 : Unit → MCode := fun _ => .seq m_laws_markEntryS_16 m_laws_markEntryS_21
def m_laws_markEntryS_23 : Unit → MCode := fun _ => .seq m_laws_markEntryS_15 m_laws_markEntryS_22
def m_laws_markEntryS_24 : Unit → MCode := fun _ => .seq m_laws_markEntryS_14 m_laws_markEntryS_23
def m_laws_markEntryS_25 : Unit → MCode := fun _ => .seq m_laws_markEntryS_13 m_laws_markEntryS_24
def m_laws_markEntryS_26 : Unit → MCode := fun _ => .seq m_laws_markEntryS_12 m_laws_markEntryS_25
def m_laws_markEntryS_27 : Unit → MCode := fun _ => .seq m_laws_markEntryS_11 m_laws_markEntryS_26
def m_laws_markEntryS_28 : Unit → MCode := fun _ => .seq m_laws_markEntryS_10 m_laws_markEntryS_27
def m_laws_markEntryS_29 : Unit → MCode := fun _ => .seq m_laws_markEntryS_9 m_laws_markEntryS_28
def m_laws_markEntryS_30 : Unit → MCode := fun _ => .seq m_laws_markEntryS_8 m_laws_markEntryS_29
def m_laws_markEntryS_31 : Unit → MCode := fun _ => .seq m_laws_markEntryS_7 m_laws_markEntryS_30
def m_laws_markEntryS_32 : Unit → MCode := fun _ => .seq m_laws_markEntryS_6 m_laws_markEntryS_31
def m_laws_markEntryS_33 : Unit → MCode := fun _ => .block 1 m_laws_markEntryS_32
def m_laws_markEntryS_34 : Unit → MCode := fun _ => .region [] [⟨(some 10), .mv (.tmp 5), none, []⟩,
    ⟨(some 11), .bin .add (.tmp 10) (.const (.int .i64 1)), none, []⟩,
    ⟨(some 5), .mv (.tmp 11), none, []⟩] [0, 1, 5]
def m_laws_markEntryS_35 : Unit → MCode := fun _ => .seq m_laws_markEntryS_33 m_laws_markEntryS_34
def m_laws_markEntryS_36 : Unit → MCode := fun _ => .seq m_laws_markEntryS_5 m_laws_markEntryS_35
def m_laws_markEntryS_37 : Unit → MCode := fun _ => .loop m_laws_markEntryS_36
def m_laws_markEntryS_38 : Unit → MCode := fun _ => .block 0 m_laws_markEntryS_37
def m_laws_markEntryS_39 : Unit → MCode := fun _ => .seq m_laws_markEntryS_2 m_laws_markEntryS_38
def m_laws_markEntryS_40 : Unit → MCode := fun _ => .region [] [⟨(some 67), .mv (.tmp 1), none, []⟩,
    ⟨(some 4), .mv (.tmp 67), none, []⟩] [4]
def m_laws_markEntryS_41 : Unit → MCode := fun _ => .seq m_laws_markEntryS_40 (fun _ => .ret)
def m_laws_markEntryS_42 : Unit → MCode := fun _ => .seq m_laws_markEntryS_39 m_laws_markEntryS_41
def m_laws_markEntryS_43 : Unit → MCode := fun _ => .seq m_laws_markEntryS_1 m_laws_markEntryS_42
def m_laws_markEntryS : MCode := m_laws_markEntryS_43 ()
def h_laws_markEntryS : Hints := [(0, [0, 1], [], [], []), (1, [0, 1, 5], [], [], []), (2, [0, 1, 5, 9], [], [], []), (4, [0, 1, 5], [], [], []), (5, [0, 1, 5], [], [], []), (6, [0, 1, 5], [], [], []), (7, [0, 1, 5], [], [], []), (8, [0, 1, 5], [], [], []), (9, [0, 1, 5], [], [], []), (10, [0, 1, 5], [], [], []), (11, [0, 1, 5], [], [], []), (12, [0, 1, 5], [], [], []), (13, [0, 1, 5], [], [], []), (14, [0, 1, 5], [], [], []), (15, [0, 1, 5], [], [], []), (16, [0, 1, 5], [], [], []), (17, [0, 1, 5], [], [], []), (3, [0, 1, 5], [], [], []), (18, [4], [], [], [])]
def r_laws_markEntryS : List RV := [.t 4]
abbrev n_laws_markEntryS : Nat := 22
theorem k_laws_markEntryS : Known Pr mu n_laws_markEntryS m_laws_markEntryS r_laws_markEntryS Go.Proofs.Try.f22.ntmps := .of h_laws_markEntryS hm Go.Proofs.Try.func22 (by kernel_rfl) (by kernel_rfl) (by kernel_rfl) (by kernel_rfl)
def m_laws_heldEntryS_1 : Unit → MCode := fun _ => .region [] [⟨(some 4), .mv (.const (.int .i64 0)), none, []⟩] [0, 1]
def m_laws_heldEntryS_2 : Unit → MCode := fun _ => .region [] [⟨(some 5), .mv (.const (.int .i64 0)), none, []⟩] [0, 1, 5]
def m_laws_heldEntryS_3 : Unit → MCode := fun _ => .region [] [⟨(some 6), .mv (.tmp 5), none, []⟩,
    ⟨(some 7), .mv (.tmp 0), none, []⟩,
    ⟨(some 8), .len false (.tmp 7), none, []⟩,
    ⟨(some 9), .bin .lss (.tmp 6) (.tmp 8), none, []⟩] [0, 1, 5, 9]
def m_laws_heldEntryS_4 : Unit → MCode := fun _ => .cond (.tmp 9) (fun _ => .skip) (fun _ => .exit 0)
def m_laws_heldEntryS_5 : Unit → MCode := fun _ => .seq m_laws_heldEntryS_3 m_laws_heldEntryS_4
def m_laws_heldEntryS_6 : Unit → MCode := fun _ => .region [] [⟨(some 12), .mv (.tmp 0), none, []⟩,
    ⟨(some 13), .mv (.tmp 5), none, []⟩,
    ⟨(some 14), .ia (.tmp 12) (.tmp 13) 7, none, []⟩,
    ⟨(some 15), .fa (.tmp 14) 0, none, []⟩,
    ⟨(some 16), .ld (.tmp 15) 1 false, none, []⟩,
    ⟨(some 17), .mv (.tmp 1), none, []⟩,
    ⟨(some 18), .bin .neq (.tmp 16) (.tmp 17), none, []⟩] [0, 1, 5, 18]
def m_laws_heldEntryS_7 : Unit → MCode := fun _ => .region [] [⟨(some 4), .mv (.const (.int .i64 (-1))), none, []⟩] [4]
def m_laws_heldEntryS_8 : Unit → MCode := fun _ => .seq m_laws_heldEntryS_7 (fun _ => .ret)
def m_laws_heldEntryS_9 : Unit → MCode := fun _ => .cond (.tmp 18) m_laws_heldEntryS_8 (fun _ => .skip)
def m_laws_heldEntryS_10 : Unit → MCode := fun _ => .seq m_laws_heldEntryS_6 m_laws_heldEntryS_9
def m_laws_heldEntryS_11 : Unit → MCode := fun _ => .region [] [⟨(some 19), .mv (.tmp 1), none, []⟩,
    ⟨(some 20), .bin .add (.tmp 19) (.const (.int .i64 1)), none, []⟩,
    ⟨(some 1), .mv (.tmp 20), none, []⟩] [0, 1, 5]
def m_laws_heldEntryS_12 : Unit → MCode := fun _ => .region [] [⟨(some 21), .mv (.tmp 0), none, []⟩,
    ⟨(some 22), .mv (.tmp 5), none, []⟩,
    ⟨(some 23), .ia (.tmp 21) (.tmp 22) 7, none, []⟩,
    ⟨(some 24), .fa (.tmp 23) 1, none, []⟩,
    ⟨(some 25), .fa (.tmp 24) 0, none, []⟩,
    ⟨(some 26), .ld (.tmp 25) 1 false, none, []⟩,
    ⟨(some 27), .mv (.tmp 1), none, []⟩,
    ⟨(some 28), .bin .neq (.tmp 26) (.tmp 27), none, []⟩] [0, 1, 5, 28]
def m_laws_heldEntryS_13 : Unit → MCode := fun _ => .region [] [⟨(some 4), .mv (.const (.int .i64 (-1))), none, []⟩] [4]
def m_laws_heldEntryS_14 : Unit → MCode := fun _ => .seq m_laws_heldEntryS_13 (fun _ => .ret)
def m_laws_heldEntryS_15 : Unit → MCode := fun _ => .cond (.tmp 28) m_laws_heldEntryS_14 (fun _ => .skip)
def m_laws_heldEntryS_16 : Unit → MCode := fun _ => .seq m_laws_heldEntryS_12 m_laws_heldEntryS_15
def m_laws_heldEntryS_17 : Unit → MCode := fun _ => .region [] [⟨(some 29), .mv (.tmp 1), none, []⟩,
    ⟨(some 30), .bin .add (.tmp 29) (.const (.int .i64 1)), none, []⟩,
    ⟨(some 1), .mv (.tmp 30), none, []⟩] [0, 1, 5]
def m_laws_heldEntryS_18 : Unit → MCode := fun _ => .region [] [⟨(some 31), .mv (.tmp 0), none, []⟩,
    ⟨(some 32), .mv (.tmp 5), none, []⟩,
    ⟨(some 33), .ia (.tmp 31) (.tmp 32) 7, none, []⟩,
    ⟨(some 34), .fa (.tmp 33) 1, none, []⟩,
    ⟨(some 35), .fa (.tmp 34) 1, none, []⟩,
    ⟨(some 36), .ld (.tmp 35) 1 false, none, []⟩,
    ⟨(some 37), .mv (.tmp 1), none, []⟩,
    ⟨(some 38), .bin .neq (.tmp 36) (.tmp 37), none, []⟩] [0, 1, 5, 38]
def m_laws_heldEntryS_19 : Unit → MCode := fun _ => .region [] [⟨(some 4), .mv (.const (.int .i64 (-1))), none, []⟩] [4]
def m_laws_heldEntryS_20 : Unit → MCode := fun _ => .seq m_laws_heldEntryS_19 (fun _ => .ret)
def m_laws_heldEntryS_21 : Unit → MCode := fun _ => .cond (.tmp 38) m_laws_heldEntryS_20 (fun _ => .skip)
def m_laws_heldEntryS_22 : Unit → MCode := fun _ => .seq m_laws_heldEntryS_18 m_laws_heldEntryS_21
def m_laws_heldEntryS_23 : Unit → MCode := fun _ => .region [] [⟨(some 39), .mv (.tmp 1), none, []⟩,
    ⟨(some 40), .bin .add (.tmp 39) (.const (.int .i64 1)), none, []⟩,
    ⟨(some 1), .mv (.tmp 40), none, []⟩] [0, 1, 5]
def m_laws_heldEntryS_24 : Unit → MCode := fun _ => .region [] [⟨(some 41), .mv (.tmp 0), none, []⟩,
    ⟨(some 42), .mv (.tmp 5), none, []⟩,
    ⟨(some 43), .ia (.tmp 41) (.tmp 42) 7, none, []⟩,
    ⟨(some 44), .fa (.tmp 43) 1, none, []⟩,
    ⟨(some 45), .fa (.tmp 44) 2, none, []⟩,
    ⟨(some 46), .ld (.tmp 45) 1 false, none, []⟩,
    ⟨(some 47), .mv (.tmp 1), none, []⟩,
    ⟨(some 48), .bin .neq (.tmp 46) (.tmp 47), none, []⟩] [0, 1, 5, 48]
def m_laws_heldEntryS_25 : Unit → MCode := fun _ => .region [] [⟨(some 4), .mv (.const (.int .i64 (-1))), none, []⟩] [4]
def m_laws_heldEntryS_26 : Unit → MCode := fun _ => .seq m_laws_heldEntryS_25 (fun _ => .ret)
def m_laws_heldEntryS_27 : Unit → MCode := fun _ => .cond (.tmp 48) m_laws_heldEntryS_26 (fun _ => .skip)
def m_laws_heldEntryS_28 : Unit → MCode := fun _ => .seq m_laws_heldEntryS_24 m_laws_heldEntryS_27
def m_laws_heldEntryS_29 : Unit → MCode := fun _ => .region [] [⟨(some 49), .mv (.tmp 1), none, []⟩,
    ⟨(some 50), .bin .add (.tmp 49) (.const (.int .i64 1)), none, []⟩,
    ⟨(some 1), .mv (.tmp 50), none, []⟩] [0, 1, 5]
def m_laws_heldEntryS_30 : Unit → MCode := fun _ => .region [] [⟨(some 51), .mv (.tmp 0), none, []⟩,
    ⟨(some 52), .mv (.tmp 5), none, []⟩,
    ⟨(some 53), .ia (.tmp 51) (.tmp 52) 7, none, []⟩,
    ⟨(some 54), .fa (.tmp 53) 1, none, []⟩,
    ⟨(some 55), .fa (.tmp 54) 3, none, []⟩,
    ⟨(some 56), .ld (.tmp 55) 1 false, none, []⟩,
    ⟨(some 57), .mv (.tmp 1), none, []⟩,
    ⟨(some 58), .bin .neq (.tmp 56) (.tmp 57), none, []⟩] [0, 1, 5, 58]
def m_laws_heldEntryS_31 : Unit → MCode := fun _ => .region [] [⟨(some 4), .mv (.const (.int .i64 (-1))), none, []⟩] [4]
def m_laws_heldEntryS_32 : Unit → MCode := fun _ => .seq m_laws_heldEntryS_31 (fun _ => .ret)
def m_laws_heldEntryS_33 : Unit → MCode := fun _ => .cond (.tmp 58) m_laws_heldEntryS_32 (fun _ => .skip)
def m_laws_heldEntryS_34 : Unit → MCode := fun _ => .seq m_laws_heldEntryS_30 m_laws_heldEntryS_33
def m_laws_heldEntryS_35 : Unit → MCode := fun _ => .region [] [⟨(some 59), .mv (.tmp 1), none, []⟩,
    ⟨(some 60), .bin .add (.tmp 59) (.const (.int .i64 1)), none, []⟩,
    ⟨(some 1), .mv (.tmp 60), none, []⟩] [0, 1, 5]
def m_laws_heldEntryS_36 : Unit → MCode := fun _ => .region [] [⟨(some 61), .mv (.tmp 0), none, []⟩,
    ⟨(some 62), .mv (.tmp 5), none, []⟩,
    ⟨(some 63), .ia (.tmp 61) (.tmp 62) 7, none, []⟩,
    ⟨(some 64), .fa (.tmp 63) 1, none, []⟩,
    ⟨(some 65), .fa (.tmp 64) 4, none, []⟩,
    ⟨(some 66), .ld (.tmp 65) 1 false, none, []⟩,
    ⟨(some 67), .mv (.tmp 1), none, []⟩,
    ⟨(some 68), .bin .neq (.tmp 66) (.tmp 67), none, []⟩] [0, 1, 5, 68]
def m_laws_heldEntryS_37 : Unit → MCode := fun _ => .region [] [⟨(some 4), .mv (.const (.int .i64 (-1))), none, []⟩] [4]
def m_laws_heldEntryS_38 : Unit → MCode := fun _ => .seq m_laws_heldEntryS_37 (fun _ => .ret)
def m_laws_heldEntryS_39 : Unit → MCode := fun _ => .cond (.tmp 68) m_laws_heldEntryS_38 (fun _ => .skip)
def m_laws_heldEntryS_40 : Unit → MCode := fun _ => .seq m_laws_heldEntryS_36 m_laws_heldEntryS_39
def m_laws_heldEntryS_41 : Unit → MCode := fun _ => .region [] [⟨(some 69), .mv (.tmp 1), none, []⟩,
    ⟨(some 70), .bin .add (.tmp 69) (.const (.int .i64 1)), none, []⟩,
    ⟨(some 1), .mv (.tmp 70), none, []⟩] [0, 1, 5]
def m_laws_heldEntryS_42 : Unit → MCode := fun _ => .region [] [⟨(some 71), .mv (.tmp 0), none, []⟩,
    ⟨(some 72), .mv (.tmp 5), none, []⟩,
    ⟨(some 73), .ia (.tmp 71) (.tmp 72) 7, none, []⟩,
    ⟨(some 74), .fa (.tmp 73) 1, none, []⟩,
    ⟨(some 75), .fa (.tmp 74) 5, none, []⟩,
    ⟨(some 76), .ld (.tmp 75) 1 false, none, []⟩,
    ⟨(some 77), .mv (.tmp 1), none, []⟩,
    ⟨(some 78), .bin .neq (.tmp 76) (.tmp 77), none, []⟩] [0, 1, 5, 78]
def m_laws_heldEntryS_43 : Unit → MCode := fun _ => .region [] [⟨(some 4), .mv (.const (.int .i64 (-1))), none, []⟩] [4]
def m_laws_heldEntryS_44 : Unit → MCode := fun _ => .seq m_laws_heldEntryS_43 (fun _ => .ret)
def m_laws_heldEntryS_45 : Unit → MCode := fun _ => .cond (.tmp 78) m_laws_heldEntryS_44 (fun _ => .skip)
def m_laws_heldEntryS_46 : Unit → MCode := fun _ => .seq m_laws_heldEntryS_42 m_laws_heldEntryS_45
def m_laws_heldEntryS_47 : Unit → MCode := fun _ => .region [] [⟨(some 79), .mv (.tmp 1), none, []⟩,
    ⟨(some 80), .bin .add (.tmp 79) (.const (.int .i64 1)), none, []⟩,
    ⟨(some 1), .mv (.tmp 80), none, []⟩] [0, 1, 5]
def m_laws_heldEntryS_48 : Unit → MCode := fun _ => .seq m_laws_heldEntryS_46 m_laws_heldEntryS_47
def m_laws_heldEntryS_49 : Unit → MCode := fun _ => .seq m_laws_heldEntryS_41 m_laws_heldEntryS_48
def m_laws_heldEntryS_50 : Unit → MCode := fun _ => .seq m_laws_heldEntryS_40 m_laws_heldEntryS_49
def m_laws_heldEntryS_51 : Unit → MCode := fun _ => .seq m_laws_heldEntryS_35 m_laws_heldEntryS_50
def m_laws_heldEntryS_52 : Unit → MCode := fun _ => .seq m_laws_heldEntryS_34 m_laws_heldEntryS_51
def m_laws_heldEntryS_53 : Unit → MCode := fun _ => .seq m_laws_heldEntryS_29 m_laws_heldEntryS_52
def m_laws_heldEntryS_54 : Unit → MCode := fun _ => .seq m_laws_heldEntryS_28 m_laws_heldEntryS_53
def m_laws_heldEntryS_55 : Unit → MCode := fun _ => .seq m_laws_heldEntryS_23 m_laws_heldEntryS_54
def m_laws_heldEntryS_56 : Unit → MCode := fun _ => .seq m_laws_heldEntryS_22 m_laws_heldEntryS_55
def m_laws_heldEntryS_57 : Unit → MCode := fun _ => .seq m_laws_heldEntryS_17 m_laws_heldEntryS_56
def m_laws_heldEntryS_58 : Unit → MCode := fun _ => .seq m_laws_heldEntryS_16 m_laws_heldEntryS_57
def m_laws_heldEntryS_59 : Unit → MCode := fun _ => .seq m_laws_heldEntryS_11 m_laws_heldEntryS_58
def m_laws_heldEntryS_60 : Unit → MCode := fun _ => .seq m_laws_heldEntryS_10 m_laws_heldEntryS_59
def m_laws_heldEntryS_61 : Unit → MCode := fun _ => .block 1 m_laws_heldEntryS_60
def m_laws_heldEntryS_62 : Unit → MCode := fun _ => .region [] [⟨(some 10), .mv (.tmp 5), none, []⟩,
    ⟨(some 11), .bin .add (.tmp 10) (.const (.int .i64 1)), none, []⟩,
    ⟨(some 5), .mv (.tmp 11), none, []⟩] [0, 1, 5]
def m_laws_heldEntryS_63 : Unit → MCode := fun _ => .seq m_laws_heldEntryS_61 m_laws_heldEntryS_62
def m_laws_heldEntryS_64 : Unit → MCode := fun _ => .seq m_laws_heldEntryS_5 m_laws_heldEntryS_63
def m_laws_heldEntryS_65 : Unit → MCode := fun _ => .loop m_laws_heldEntryS_64
def m_laws_heldEntryS_66 : Unit → MCode := fun _ => .block 0 m_laws_heldEntryS_65
def m_laws_heldEntryS_67 : Unit → MCode := fun _ => .seq m_laws_heldEntryS_2 m_laws_heldEntryS_66
def m_laws_heldEntryS_68 : Unit → MCode := fun _ => .region [] [⟨(some 81), .mv (.tmp 1), none, []⟩,
    ⟨(some 4), .mv (.tmp 81), none, []⟩] [4]
def m_laws_heldEntryS_69 : Unit → MCode := fun _ => .seq m_laws_heldEntryS_68 (fun _ => .ret)
def m_laws_heldEntryS_70 : Unit → MCode := fun _ => .seq m_laws_heldEntryS_67 m_laws_heldEntryS_69
def m_laws_heldEntryS_71 : Unit → MCode := fun _ => .seq m_laws_heldEntryS_1 m_laws_heldEntryS_70
def m_laws_heldEntryS : MCode := m_laws_heldEntryS_71 ()
def h_laws_heldEntryS : Hints := [(0, [0, 1], [], [], []), (1, [0, 1, 5], [], [], []), (2, [0, 1, 5, 9], [], [], []), (4, [0, 1, 5, 18], [], [], []), (5, [4], [], [], []), (6, [0, 1, 5], [], [], []), (7, [0, 1, 5, 28], [], [], []), (8, [4], [], [], []), (9, [0, 1, 5], [], [], []), (10, [0, 1, 5, 38], [], [], []), (11, [4], [], [], []), (12, [0, 1, 5], [], [], []), (13, [0, 1, 5, 48], [], [], []), (14, [4], [], [], []), (15, [0, 1, 5], [], [], []), (16, [0, 1, 5, 58], [], [], []), (17, [4], [], [], []), (18, [0, 1, 5], [], [], []), (19, [0, 1, 5, 68], [], [], []), (20, [4], [], [], []), (21, [0, 1, 5], [], [], []), (22, [0, 1, 5, 78], [], [], []), (23, [4], [], [], []), (24, [0, 1, 5], [], [], []), (3, [0, 1, 5], [], [], []), (25, [4], [], [], [])]
def r_laws_heldEntryS : List RV := [.t 4]
abbrev n_laws_heldEntryS : Nat := 23
theorem k_laws_heldEntryS : Known Pr mu n_laws_heldEntryS m_laws_heldEntryS r_laws_heldEntryS Go.Proofs.Try.f23.ntmps := .of h_laws_heldEntryS hm Go.Proofs.Try.func23 (by kernel_rfl) (by kernel_rfl) (by kernel_rfl) (by kernel_rfl)
def m_laws_heldServer_1 : Unit → MCode := fun _ => .region [] [⟨(some 2), .box (.tmp 0), none, []⟩,
    ⟨(some 4), .mv (.const (.int .i64 0)), none, []⟩] [1, 2]
def m_laws_heldServer_2 : Unit → MCode := fun _ => .region [] [⟨(some 5), .fa (.tmp 2) 4, none, []⟩,
    ⟨(some 6), .ld (.tmp 5) 4 true, none, []⟩,
    ⟨(some 7), .mv (.tmp 1), none, []⟩,
    ⟨(some 8), .call 99 [(.tmp 6), (.tmp 7)], none, []⟩,
    ⟨(some 1), .mv (.tmp 8), none, []⟩] [1, 2]
def m_laws_heldServer_3 : Unit → MCode := fun _ => .region [] [⟨(some 9), .mv (.tmp 1), none, []⟩,
    ⟨(some 10), .bin .lss (.tmp 9) (.const (.int .i64 0)), none, []⟩] [1, 2, 10]
def m_laws_heldServer_4 : Unit → MCode := fun _ => .region [] [⟨(some 4), .mv (.const (.int .i64 (-1))), none, []⟩] [4]
def m_laws_heldServer_5 : Unit → MCode := fun _ => .seq m_laws_heldServer_4 (fun _ => .ret)
def m_laws_heldServer_6 : Unit → MCode := fun _ => .cond (.tmp 10) m_laws_heldServer_5 (fun _ => .skip)
def m_laws_heldServer_7 : Unit → MCode := fun _ => .seq m_laws_heldServer_3 m_laws_heldServer_6
def m_laws_heldServer_8 : Unit → MCode := fun _ => .region [] [⟨(some 11), .fa (.tmp 2) 9, none, []⟩,
    ⟨(some 12), .ld (.tmp 11) 1 false, none, []⟩,
    ⟨(some 13), .mv (.tmp 1), none, []⟩,
    ⟨(some 14), .call 23 [(.tmp 12), (.tmp 13)], none, []⟩,
    ⟨(some 1), .mv (.tmp 14), none, []⟩] [1, 2]
def m_laws_heldServer_9 : Unit → MCode := fun _ => .region [] [⟨(some 15), .mv (.tmp 1), none, []⟩,
    ⟨(some 16), .bin .lss (.tmp 15) (.const (.int .i64 0)), none, []⟩] [1, 2, 16]
def m_laws_heldServer_10 : Unit → MCode := fun _ => .region [] [⟨(some 4), .mv (.const (.int .i64 (-1))), none, []⟩] [4]
def m_laws_heldServer_11 : Unit → MCode := fun _ => .seq m_laws_heldServer_10 (fun _ => .ret)
def m_laws_heldServer_12 : Unit → MCode := fun _ => .cond (.tmp 16) m_laws_heldServer_11 (fun _ => .skip)
def m_laws_heldServer_13 : Unit → MCode := fun _ => .seq m_laws_heldServer_9 m_laws_heldServer_12
def m_laws_heldServer_14 : Unit → MCode := fun _ => .region [] [⟨(some 17), .fa (.tmp 2) 11, none, []⟩,
    ⟨(some 18), .ld (.tmp 17) 1 false, none, []⟩,
    ⟨(some 19), .mv (.tmp 1), none, []⟩,
    ⟨(some 20), .call 23 [(.tmp 18), (.tmp 19)], none, []⟩,
    ⟨(some 1), .mv (.tmp 20), none, []⟩] [1]
def m_laws_heldServer_15 : Unit → MCode := fun _ => .region [] [⟨(some 21), .mv (.tmp 1), none, []⟩,
    ⟨(some 22), .bin .lss (.tmp 21) (.const (.int .i64 0)), none, []⟩] [1, 22]
def m_laws_heldServer_16 : Unit → MCode := fun _ => .region [] [⟨(some 4), .mv (.const (.int .i64 (-1))), none, []⟩] [4]
def m_laws_heldServer_17 : Unit → MCode := fun _ => .seq m_laws_heldServer_16 (fun _ => .ret)
def m_laws_heldServer_18 : Unit → MCode := fun _ => .cond (.tmp 22) m_laws_heldServer_17 (fun _ => .skip)
def m_laws_heldServer_19 : Unit → MCode := fun _ => .seq m_laws_heldServer_15 m_laws_heldServer_18
def m_laws_heldServer_20 : Unit → MCode := fun _ => .region [] [⟨(some 23), .mv (.tmp 1), none, []⟩,
    ⟨(some 4), .mv (.tmp 23), none, []⟩] [4]
def m_laws_heldServer_21 : Unit → MCode := fun _ => .seq m_laws_heldServer_20 (fun _ => .ret)
def m_laws_heldServer_22 : Unit → MCode := fun _ => .seq m_laws_heldServer_19 m_laws_heldServer_21
def m_laws_heldServer_23 : Unit → MCode := fun _ => .seq m_laws_heldServer_14 m_laws_heldServer_22
def m_laws_heldServer_24 : Unit → MCode := fun _ => .seq m_laws_heldServer_13 m_laws_heldServer_23
def m_laws_heldServer_25 : Unit → MCode := fun _ => .seq m_laws_heldServer_8 m_laws_heldServer_24
def m_laws_heldServer_26 : Unit → MCode := fun _ => .seq m_laws_heldServer_7 m_laws_heldServer_25
def m_laws_heldServer_27 : Unit → MCode := fun _ => .seq m_laws_heldServer_2 m_laws_heldServer_26
def m_laws_heldServer_28 : Unit → MCode := fun _ => .seq m_laws_heldServer_1 m_laws_heldServer_27
def m_laws_heldServer : MCode := m_laws_heldServer_28 ()
def h_laws_heldServer : Hints := [(0, [1, 2], [], [], []), (1, [1, 2], [], [], []), (2, [1, 2, 10], [], [], []), (3, [4], [], [], []), (4, [1, 2], [], [], []), (5, [1, 2, 16], [], [], []), (6, [4], [], [], []), (7, [1], [], [], []), (8, [1, 22], [], [], []), (9, [4], [], [], []), (10, [4], [], [], [])]
def r_laws_heldServer : List RV := [.t 4]
abbrev n_laws_heldServer : Nat := 39
theorem k_laws_heldServer : Known Pr mu n_laws_heldServer m_laws_heldServer r_laws_heldServer Go.Proofs.Try.f39.ntmps := .of h_laws_heldServer hm Go.Proofs.Try.func39 (by kernel_rfl) (by kernel_rfl) (by kernel_rfl) (by kernel_rfl)
def m_spec_SealServer_1 : Unit → MCode := fun _ => .region [] [⟨(some 2), .box (.tmp 0), none, []⟩,
    ⟨(some 4), .alloc [.bool false, .bool false, .int .i64 0, .int .i64 0, .int .i64 0, .int .i64 0, .slice none 0 0, .slice none 0 0, .int .i64 0, .slice none 0 0, .int .i64 0, .slice none 0 0], none, []⟩,
    ⟨(some 5), .mv (.const (.bool false)), none, []⟩] [1, 2, 4]
def m_spec_SealServer_2 : Unit → MCode := fun _ => .region [] [⟨(some 7), .ld (.tmp 2) 12 true, none, []⟩,
    ⟨(some 8), .call 100 [(.tmp 7)], none, []⟩,
    ⟨(some 6), .alloc [.bool false, .bool false, .int .i64 0, .int .i64 0, .int .i64 0, .int .i64 0, .slice none 0 0, .slice none 0 0, .int .i64 0, .slice none 0 0, .int .i64 0, .slice none 0 0], none, []⟩,
    ⟨none, .sto (.tmp 6) (.tmp 8) 12, none, []⟩] [1, 2, 4, 6]
def m_spec_SealServer_3 : Unit → MCode := fun _ => .region [] [⟨(some 9), .mv (.tmp 1), none, []⟩,
    ⟨(some 10), .call 76 [(.tmp 9), (.const (.int .i64 1)), (.const (.int .i64 20))], none, []⟩,
    ⟨(some 11), .not (.tmp 10), none, []⟩,
    ⟨(some 12), .mv (.tmp 11), none, []⟩,
    ⟨(some 13), .mv (.tmp 1), (some (12, false)), []⟩,
    ⟨(some 14), .fa (.tmp 2) 3, (some (12, false)), []⟩,
    ⟨(some 15), .ld (.tmp 14) 1 false, (some (12, false)), []⟩,
    ⟨(some 16), .bin .leq (.tmp 13) (.tmp 15), (some (12, false)), []⟩,
    ⟨(some 17), .pick (.tmp 12) (.const (.bool true)) (.tmp 16), none, []⟩,
    ⟨(some 18), .mv (.tmp 17), none, []⟩,
    ⟨(some 19), .fa (.tmp 2) 3, (some (18, false)), []⟩,
    ⟨(some 20), .ld (.tmp 19) 1 false, (some (18, false)), []⟩,
    ⟨(some 21), .bin .lss (.tmp 20) (.const (.int .i64 0)), (some (18, false)), []⟩,
    ⟨(some 22), .pick (.tmp 18) (.const (.bool true)) (.tmp 21), none, []⟩] [1, 4, 6, 22]
def m_spec_SealServer_4 : Unit → MCode := fun _ => .region [] [⟨(some 23), .ld (.tmp 6) 12 true, none, []⟩,
    ⟨none, .sto (.tmp 4) (.tmp 23) 12, none, []⟩,
    ⟨(some 5), .mv (.const (.bool false)), none, []⟩] [4, 5]
def m_spec_SealServer_5 : Unit → MCode := fun _ => .seq m_spec_SealServer_4 (fun _ => .ret)
def m_spec_SealServer_6 : Unit → MCode := fun _ => .cond (.tmp 22) m_spec_SealServer_5 (fun _ => .skip)
def m_spec_SealServer_7 : Unit → MCode := fun _ => .seq m_spec_SealServer_3 m_spec_SealServer_6
def m_spec_SealServer_8 : Unit → MCode := fun _ => .region [] [⟨(some 24), .mv (.tmp 1), none, []⟩,
    ⟨(some 25), .fa (.tmp 6) 3, none, []⟩,
    ⟨none, .sto (.tmp 25) (.tmp 24) 1, none, []⟩] [4, 6]
def m_spec_SealServer_9 : Unit → MCode := fun _ => .region [] [⟨(some 26), .ld (.tmp 6) 12 true, none, []⟩,
    ⟨none, .sto (.tmp 4) (.tmp 26) 12, none, []⟩,
    ⟨(some 5), .mv (.const (.bool true)), none, []⟩] [4, 5]
def m_spec_SealServer_10 : Unit → MCode := fun _ => .seq m_spec_SealServer_9 (fun _ => .ret)
def m_spec_SealServer_11 : Unit → MCode := fun _ => .seq m_spec_SealServer_8 m_spec_SealServer_10
def m_spec_SealServer_12 : Unit → MCode := fun _ => .seq m_spec_SealServer_7 m_spec_SealServer_11
def m_spec_SealServer_13 : Unit → MCode := fun _ => .seq m_spec_SealServer_2 m_spec_SealServer_12
def m_spec_SealServer_14 : Unit → MCode := fun _ => .seq m_spec_SealServer_1 m_spec_SealServer_13
def m_spec_SealServer : MCode := m_spec_SealServer_14 ()
def h_spec_SealServer : Hints := [(0, [1, 2, 4], [], [], []), (1, [1, 2, 4, 6], [], [], []), (2, [1, 4, 6, 22], [], [], []), (3, [4, 5], [], [], []), (4, [4, 6], [], [], []), (5, [4, 5], [], [], [])]
def r_spec_SealServer : List RV := [.c 4 12 true, .t 5]
abbrev n_spec_SealServer : Nat := 40
theorem k_spec_SealServer : Known Pr mu n_spec_SealServer m_spec_SealServer r_spec_SealServer Go.Proofs.Try.f40.ntmps := .of h_spec_SealServer hm Go.Proofs.Try.func40 (by kernel_rfl) (by kernel_rfl) (by kernel_rfl) (by kernel_rfl)
def m_impl_SealServer_1 : Unit → MCode := fun _ => .region [] [⟨(some 2), .box (.tmp 0), none, []⟩,
    ⟨(some 4), .alloc [.bool false, .bool false, .int .i64 0, .int .i64 0, .int .i64 0, .int .i64 0, .slice none 0 0, .slice none 0 0, .int .i64 0, .slice none 0 0, .int .i64 0, .slice none 0 0], none, []⟩,
    ⟨(some 5), .mv (.const (.bool false)), none, []⟩] [1, 2, 4]
def m_impl_SealServer_2 : Unit → MCode := fun _ => .region [] [⟨(some 7), .ld (.tmp 2) 12 true, none, []⟩,
    ⟨(some 8), .call 101 [(.tmp 7)], none, []⟩,
    ⟨(some 6), .alloc [.bool false, .bool false, .int .i64 0, .int .i64 0, .int .i64 0, .int .i64 0, .slice none 0 0, .slice none 0 0, .int .i64 0, .slice none 0 0, .int .i64 0, .slice none 0 0], none, []⟩,
    ⟨none, .sto (.tmp 6) (.tmp 8) 12, none, []⟩] [1, 2, 4, 6]
def m_impl_SealServer_3 : Unit → MCode := fun _ => .region [] [⟨(some 9), .mv (.tmp 1), none, []⟩,
    ⟨(some 10), .call 79 [(.tmp 9), (.const (.int .i64 1)), (.const (.int .i64 20))], none, []⟩,
    ⟨(some 11), .not (.tmp 10), none, []⟩,
    ⟨(some 12), .mv (.tmp 11), none, []⟩,
    ⟨(some 13), .fa (.tmp 2) 3, (some (12, false)), []⟩,
    ⟨(some 14), .ld (.tmp 13) 1 false, (some (12, false)), []⟩,
    ⟨(some 15), .bin .lss (.tmp 14) (.const (.int .i64 0)), (some (12, false)), []⟩,
    ⟨(some 16), .pick (.tmp 12) (.const (.bool true)) (.tmp 15), none, []⟩,
    ⟨(some 17), .mv (.tmp 16), none, []⟩,
    ⟨(some 18), .mv (.tmp 1), (some (17, false)), []⟩,
    ⟨(some 19), .fa (.tmp 2) 3, (some (17, false)), []⟩,
    ⟨(some 20), .ld (.tmp 19) 1 false, (some (17, false)), []⟩,
    ⟨(some 21), .bin .leq (.tmp 18) (.tmp 20), (some (17, false)), []⟩,
    ⟨(some 22), .pick (.tmp 17) (.const (.bool true)) (.tmp 21), none, []⟩] [1, 4, 6, 22]
def m_impl_SealServer_4 : Unit → MCode := fun _ => .region [] [⟨(some 23), .ld (.tmp 6) 12 true, none, []⟩,
    ⟨none, .sto (.tmp 4) (.tmp 23) 12, none, []⟩,
    ⟨(some 5), .mv (.const (.bool false)), none, []⟩] [4, 5]
def m_impl_SealServer_5 : Unit → MCode := fun _ => .seq m_impl_SealServer_4 (fun _ => .ret)
def m_impl_SealServer_6 : Unit → MCode := fun _ => .cond (.tmp 22) m_impl_SealServer_5 (fun _ => .skip)
def m_impl_SealServer_7 : Unit → MCode := fun _ => .seq m_impl_SealServer_3 m_impl_SealServer_6
def m_impl_SealServer_8 : Unit → MCode := fun _ => .region [] [⟨(some 24), .mv (.tmp 1), none, []⟩,
    ⟨(some 25), .fa (.tmp 6) 3, none, []⟩,
    ⟨none, .sto (.tmp 25) (.tmp 24) 1, none, []⟩] [4, 6]
def m_impl_SealServer_9 : Unit → MCode := fun _ => .region [] [⟨(some 26), .ld (.tmp 6) 12 true, none, []⟩,
    ⟨none, .sto (.tmp 4) (.tmp 26) 12, none, []⟩,
    ⟨(some 5), .mv (.const (.bool true)), none, []⟩] [4, 5]
def m_impl_SealServer_10 : Unit → MCode := fun _ => .seq m_impl_SealServer_9 (fun _ => .ret)
def m_impl_SealServer_11 : Unit → MCode := fun _ => .seq m_impl_SealServer_8 m_impl_SealServer_10
def m_impl_SealServer_12 : Unit → MCode := fun _ => .seq m_impl_SealServer_7 m_impl_SealServer_11
def m_impl_SealServer_13 : Unit → MCode := fun _ => .seq m_impl_SealServer_2 m_impl_SealServer_12
def m_impl_SealServer_14 : Unit → MCode := fun _ => .seq m_impl_SealServer_1 m_impl_SealServer_13
def m_impl_SealServer : MCode := m_impl_SealServer_14 ()
def h_impl_SealServer : Hints := [(0, [1, 2, 4], [], [], []), (1, [1, 2, 4, 6], [], [], []), (2, [1, 4, 6, 22], [], [], []), (3, [4, 5], [], [], []), (4, [4, 6], [], [], []), (5, [4, 5], [], [], [])]
def r_impl_SealServer : List RV := [.c 4 12 true, .t 5]
abbrev n_impl_SealServer : Nat := 41
theorem k_impl_SealServer : Known Pr mu n_impl_SealServer m_impl_SealServer r_impl_SealServer Go.Proofs.Try.f41.ntmps := .of h_impl_SealServer hm Go.Proofs.Try.func41 (by kernel_rfl) (by kernel_rfl) (by kernel_rfl) (by kernel_rfl)
def m_laws_toIntS_1 : Unit → MCode := fun _ => .region [] [⟨(some 2), .mv (.const (.slice none 0 0)), none, []⟩] [0]
def m_laws_toIntS_2 : Unit → MCode := fun _ => .region [] [⟨(some 5), .mv (.tmp 0), none, []⟩,
    ⟨(some 6), .len false (.tmp 5), none, []⟩,
    ⟨(some 7), .mks 1 8 [.int .i64 0] (.tmp 6) (.tmp 6), none, []⟩,
    ⟨(some 3), .mv (.tmp 7), none, []⟩] [0, 3]
def m_laws_toIntS_3 : Unit → MCode := fun _ => .region [] [⟨(some 4), .mv (.const (.int .i64 0)), none, []⟩] [0, 3, 4]
def m_laws_toIntS_4 : Unit → MCode := fun _ => .region [] [⟨(some 8), .mv (.tmp 4), none, []⟩,
    ⟨(some 9), .mv (.tmp 0), none, []⟩,
    ⟨(some 10), .len false (.tmp 9), none, []⟩,
    ⟨(some 11), .bin .lss (.tmp 8) (.tmp 10), none, []⟩] [0, 3, 4, 11]
def m_laws_toIntS_5 : Unit → MCode := fun _ => .cond (.tmp 11) (fun _ => .skip) (fun _ => .exit 0)
def m_laws_toIntS_6 : Unit → MCode := fun _ => .seq m_laws_toIntS_4 m_laws_toIntS_5
def m_laws_toIntS_7 : Unit → MCode := fun _ => .region [] [⟨(some 14), .mv (.tmp 3), none, []⟩,
    ⟨(some 15), .mv (.tmp 4), none, []⟩,
    ⟨(some 16), .mv (.tmp 0), none, []⟩,
    ⟨(some 17), .mv (.tmp 4), none, []⟩,
    ⟨(some 18), .ia (.tmp 16) (.tmp 17) 1, none, []⟩,
    ⟨(some 19), .ld (.tmp 18) 1 false, none, []⟩,
    ⟨(some 20), .ia (.tmp 14) (.tmp 15) 1, none, []⟩,
    ⟨none, .sto (.tmp 20) (.tmp 19) 1, none, []⟩] [0, 3, 4]
def m_laws_toIntS_8 : Unit → MCode := fun _ => .block 1 m_laws_toIntS_7
def m_laws_toIntS_9 : Unit → MCode := fun _ => .region [] [⟨(some 12), .mv (.tmp 4), none, []⟩,
    ⟨(some 13), .bin .add (.tmp 12) (.const (.int .i64 1)), none, []⟩,
    ⟨(some 4), .mv (.tmp 13), none, []⟩] [0, 3, 4]
def m_laws_toIntS_10 : Unit → MCode := fun _ => .seq m_laws_toIntS_8 m_laws_toIntS_9
def m_laws_toIntS_11 : Unit → MCode := fun _ => .seq m_laws_toIntS_6 m_laws_toIntS_10
def m_laws_toIntS_12 : Unit → MCode := fun _ => .loop m_laws_toIntS_11
def m_laws_toIntS_13 : Unit → MCode := fun _ => .block 0 m_laws_toIntS_12
def m_laws_toIntS_14 : Unit → MCode := fun _ => .seq m_laws_toIntS_3 m_laws_toIntS_13
def m_laws_toIntS_15 : Unit → MCode := fun _ => .region [] [⟨(some 21), .mv (.tmp 3), none, []⟩,
    ⟨(some 2), .mv (.tmp 21), none, []⟩] [2]
def m_laws_toIntS_16 : Unit → MCode := fun _ => .seq m_laws_toIntS_15 (fun _ => .ret)
def m_laws_toIntS_17 : Unit → MCode := fun _ => .seq m_laws_toIntS_14 m_laws_toIntS_16
def m_laws_toIntS_18 : Unit → MCode := fun _ => .seq m_laws_toIntS_2 m_laws_toIntS_17
def m_laws_toIntS_19 : Unit → MCode := fun _ => .seq m_laws_toIntS_1 m_laws_toIntS_18
def m_laws_toIntS : MCode := m_laws_toIntS_19 ()
def h_laws_toIntS : Hints := [(0, [0], [], [], []), (1, [0, 3], [], [], []), (2, [0, 3, 4], [], [], []), (3, [0, 3, 4, 11], [], [], []), (5, [0, 3, 4], [], [], []), (4, [0, 3, 4], [], [], []), (6, [2], [], [], [])]
def r_laws_toIntS : List RV := [.t 2]
abbrev n_laws_toIntS : Nat := 43
theorem k_laws_toIntS : Known Pr mu n_laws_toIntS m_laws_toIntS r_laws_toIntS Go.Proofs.Try.f43.ntmps := .of h_laws_toIntS hm Go.Proofs.Try.func43 (by kernel_rfl) (by kernel_rfl) (by kernel_rfl) (by kernel_rfl)
def m_laws_eqIntS_1 : Unit → MCode := fun _ => .region [] [⟨(some 4), .mv (.const (.bool false)), none, []⟩] [0, 1]
def m_laws_eqIntS_2 : Unit → MCode := fun _ => .region [] [⟨(some 6), .mv (.tmp 0), none, []⟩,
    ⟨(some 7), .len false (.tmp 6), none, []⟩,
    ⟨(some 8), .mv (.tmp 1), none, []⟩,
    ⟨(some 9), .len false (.tmp 8), none, []⟩,
    ⟨(some 10), .bin .neq (.tmp 7) (.tmp 9), none, []⟩] [0, 1, 10]
def m_laws_eqIntS_3 : Unit → MCode := fun _ => .region [] [⟨(some 4), .mv (.const (.bool false)), none, []⟩] [4]
def m_laws_eqIntS_4 : Unit → MCode := fun _ => .seq m_laws_eqIntS_3 (fun _ => .ret)
def m_laws_eqIntS_5 : Unit → MCode := fun _ => .cond (.tmp 10) m_laws_eqIntS_4 (fun _ => .skip)
def m_laws_eqIntS_6 : Unit → MCode := fun _ => .seq m_laws_eqIntS_2 m_laws_eqIntS_5
def m_laws_eqIntS_7 : Unit → MCode := fun _ => .region [] [⟨(some 5), .mv (.const (.int .i64 0)), none, []⟩] [0, 1, 5]
def m_laws_eqIntS_8 : Unit → MCode := fun _ => .region [] [⟨(some 11), .mv (.tmp 5), none, []⟩,
    ⟨(some 12), .mv (.tmp 0), none, []⟩,
    ⟨(some 13), .len false (.tmp 12), none, []⟩,
    ⟨(some 14), .bin .lss (.tmp 11) (.tmp 13), none, []⟩] [0, 1, 5, 14]
def m_laws_eqIntS_9 : Unit → MCode := fun _ => .cond (.tmp 14) (fun _ => .skip) (fun _ => .exit 0)
def m_laws_eqIntS_10 : Unit → MCode := fun _ => .seq m_laws_eqIntS_8 m_laws_eqIntS_9
def m_laws_eqIntS_11 : Unit → MCode := fun _ => .region [] [⟨(some 17), .mv (.tmp 0), none, []⟩,
    ⟨(some 18), .mv (.tmp 5), none, []⟩,
    ⟨(some 19), .ia (.tmp 17) (.tmp 18) 1, none, []⟩,
    ⟨(some 20), .ld (.tmp 19) 1 false, none, []⟩,
    ⟨(some 21), .mv (.tmp 1), none, []⟩,
    ⟨(some 22), .mv (.tmp 5), none, []⟩,
    ⟨(some 23), .ia (.tmp 21) (.tmp 22) 1, none, [0, 1, 2, 3]⟩,
    ⟨(some 24), .ld (.tmp 23) 1 false, none, [0, 1, 2, 3]⟩,
    ⟨(some 25), .bin .neq (.tmp 20) (.tmp 24), none, []⟩] [0, 1, 5, 25]
def m_laws_eqIntS_12 : Unit → MCode := fun _ => .region [] [⟨(some 4), .mv (.const (.bool false)), none, []⟩] [4]
def m_laws_eqIntS_13 : Unit → MCode := fun _ => .seq m_laws_eqIntS_12 (fun _ => .ret)
def m_laws_eqIntS_14 : Unit → MCode := fun _ => .cond (.tmp 25) m_laws_eqIntS_13 (fun _ => .skip)
def m_laws_eqIntS_15 : Unit → MCode := fun _ => .seq m_laws_eqIntS_11 m_laws_eqIntS_14
def m_laws_eqIntS_16 : Unit → MCode := fun _ => .block 1 m_laws_eqIntS_15
def m_laws_eqIntS_17 : Unit → MCode := fun _ => .region [] [⟨(some 15), .mv (.tmp 5), none, []⟩,
    ⟨(some 16), .bin .add (.tmp 15) (.const (.int .i64 1)), none, []⟩,
    ⟨(some 5), .mv (.tmp 16), none, []⟩] [0, 1, 5]
def m_laws_eqIntS_18 : Unit → MCode := fun _ => .seq m_laws_eqIntS_16 m_laws_eqIntS_17
def m_laws_eqIntS_19 : Unit → MCode := fun _ => .seq m_laws_eqIntS_10 m_laws_eqIntS_18
def m_laws_eqIntS_20 : Unit → MCode := fun _ => .loop m_laws_eqIntS_19
def m_laws_eqIntS_21 : Unit → MCode := fun _ => .block 0 m_laws_eqIntS_20
def m_laws_eqIntS_22 : Unit → MCode := fun _ => .seq m_laws_eqIntS_7 m_laws_eqIntS_21
def m_laws_eqIntS_23 : Unit → MCode := fun _ => .region [] [⟨(some 4), .mv (.const (.bool true)), none, []⟩] [4]
def m_laws_eqIntS_24 : Unit → MCode := fun _ => .seq m_laws_eqIntS_23 (fun _ => .ret)
def m_laws_eqIntS_25 : Unit → MCode := fun _ => .seq m_laws_eqIntS_22 m_laws_eqIntS_24
def m_laws_eqIntS_26 : Unit → MCode := fun _ => .seq m_laws_eqIntS_6 m_laws_eqIntS_25
def m_laws_eqIntS_27 : Unit → MCode := fun _ => .seq m_laws_eqIntS_1 m_laws_eqIntS_26
def m_laws_eqIntS : MCode := m_laws_eqIntS_27 ()
def h_laws_eqIntS : Hints := [(0, [0, 1], [], [], []), (1, [0, 1, 10], [], [], []), (2, [4], [], [], []), (3, [0, 1, 5], [], [], []), (4, [0, 1, 5, 14], [], [], []), (6, [0, 1, 5, 25], [[], [], [], [], [], [], [0, 1, 2, 3], [0, 1, 2, 3]], [], []), (7, [4], [], [], []), (5, [0, 1, 5], [], [], []), (8, [4], [], [], [])]
def r_laws_eqIntS : List RV := [.t 4]
abbrev n_laws_eqIntS : Nat := 45
theorem k_laws_eqIntS : Known Pr mu n_laws_eqIntS m_laws_eqIntS r_laws_eqIntS Go.Proofs.Try.f45.ntmps := .of h_laws_eqIntS hm Go.Proofs.Try.func45 (by kernel_rfl) (by kernel_rfl) (by kernel_rfl) (by kernel_rfl)
def m_laws_szConfig_1 : Unit → MCode := fun _ => .region [] [⟨(some 2), .box (.tmp 0), none, []⟩,
    ⟨(some 4), .mv (.const (.int .i64 0)), none, []⟩] [1, 2]
def m_laws_szConfig_2 : Unit → MCode := fun _ => .region [] [⟨(some 5), .fa (.tmp 2) 2, none, []⟩,
    ⟨(some 6), .ld (.tmp 5) 1 false, none, []⟩,
    ⟨(some 7), .mv (.tmp 1), none, []⟩,
    ⟨(some 8), .call 110 [(.tmp 6), (.tmp 7)], none, []⟩,
    ⟨(some 1), .mv (.tmp 8), none, []⟩] [1, 2]
def m_laws_szConfig_3 : Unit → MCode := fun _ => .region [] [⟨(some 9), .mv (.tmp 1), none, []⟩,
    ⟨(some 10), .bin .lss (.tmp 9) (.const (.int .i64 0)), none, []⟩] [1, 2, 10]
def m_laws_szConfig_4 : Unit → MCode := fun _ => .region [] [⟨(some 4), .mv (.const (.int .i64 (-1))), none, []⟩] [4]
def m_laws_szConfig_5 : Unit → MCode := fun _ => .seq m_laws_szConfig_4 (fun _ => .ret)
def m_laws_szConfig_6 : Unit → MCode := fun _ => .cond (.tmp 10) m_laws_szConfig_5 (fun _ => .skip)
def m_laws_szConfig_7 : Unit → MCode := fun _ => .seq m_laws_szConfig_3 m_laws_szConfig_6
def m_laws_szConfig_8 : Unit → MCode := fun _ => .region [] [⟨(some 11), .fa (.tmp 2) 3, none, []⟩,
    ⟨(some 12), .ld (.tmp 11) 1 false, none, []⟩,
    ⟨(some 13), .mv (.tmp 1), none, []⟩,
    ⟨(some 14), .call 110 [(.tmp 12), (.tmp 13)], none, []⟩,
    ⟨(some 1), .mv (.tmp 14), none, []⟩] [1]
def m_laws_szConfig_9 : Unit → MCode := fun _ => .region [] [⟨(some 15), .mv (.tmp 1), none, []⟩,
    ⟨(some 16), .bin .lss (.tmp 15) (.const (.int .i64 0)), none, []⟩] [1, 16]
def m_laws_szConfig_10 : Unit → MCode := fun _ => .region [] [⟨(some 4), .mv (.const (.int .i64 (-1))), none, []⟩] [4]
def m_laws_szConfig_11 : Unit → MCode := fun _ => .seq m_laws_szConfig_10 (fun _ => .ret)
def m_laws_szConfig_12 : Unit → MCode := fun _ => .cond (.tmp 16) m_laws_szConfig_11 (fun _ => .skip)
def m_laws_szConfig_13 : Unit → MCode := fun _ => .seq m_laws_szConfig_9 m_laws_szConfig_12
def m_laws_szConfig_14 : Unit → MCode := fun _ => .region [] [⟨(some 17), .mv (.tmp 1), none, []⟩,
    ⟨(some 4), .mv (.tmp 17), none, []⟩] [4]
def m_laws_szConfig_15 : Unit → MCode := fun _ => .seq m_laws_szConfig_14 (fun _ => .ret)
def m_laws_szConfig_16 : Unit → MCode := fun _ => .seq m_laws_szConfig_13 m_laws_szConfig_15
def m_laws_szConfig_17 : Unit → MCode := fun _ => .seq m_laws_szConfig_8 m_laws_szConfig_16
def m_laws_szConfig_18 : Unit → MCode := fun _ => .seq m_laws_szConfig_7 m_laws_szConfig_17
def m_laws_szConfig_19 : Unit → MCode := fun _ => .seq m_laws_szConfig_2 m_laws_szConfig_18
def m_laws_szConfig_20 : Unit → MCode := fun _ => .seq m_laws_szConfig_1 m_laws_szConfig_19
def m_laws_szConfig : MCode := m_laws_szConfig_20 ()
def h_laws_szConfig : Hints := [(0, [1, 2], [], [], []), (1, [1, 2], [], [], []), (2, [1, 2, 10], [], [], []), (3, [4], [], [], []), (4, [1], [], [], []), (5, [1, 16], [], [], []), (6, [4], [], [], []), (7, [4], [], [], [])]
def r_laws_szConfig : List RV := [.t 4]
abbrev n_laws_szConfig : Nat := 51
theorem k_laws_szConfig : Known Pr mu n_laws_szConfig m_laws_szConfig r_laws_szConfig Go.Proofs.Try.f51.ntmps := .of h_laws_szConfig hm Go.Proofs.Try.func51 (by kernel_rfl) (by kernel_rfl) (by kernel_rfl) (by kernel_rfl)
def m_laws_toConfig_1 : Unit → MCode := fun _ => .region [] [⟨(some 1), .box (.tmp 0), none, []⟩,
    ⟨(some 2), .alloc [.int .i64 0, .int .i64 0, .slice none 0 0, .slice none 0 0], none, []⟩] [1, 2]
def m_laws_toConfig_2 : Unit → MCode := fun _ => .region [] [⟨(some 3), .alloc [.int .i64 0, .int .i64 0, .slice none 0 0, .slice none 0 0], none, []⟩] [1, 2, 3]
def m_laws_toConfig_3 : Unit → MCode := fun _ => .region [] [⟨(some 4), .fa (.tmp 1) 0, none, []⟩,
    ⟨(some 5), .ld (.tmp 4) 1 false, none, []⟩,
    ⟨(some 6), .fa (.tmp 3) 0, none, []⟩,
    ⟨none, .sto (.tmp 6) (.tmp 5) 1, none, []⟩] [1, 2, 3]
def m_laws_toConfig_4 : Unit → MCode := fun _ => .region [] [⟨(some 7), .fa (.tmp 1) 1, none, []⟩,
    ⟨(some 8), .ld (.tmp 7) 1 false, none, []⟩,
    ⟨(some 9), .fa (.tmp 3) 1, none, []⟩,
    ⟨none, .sto (.tmp 9) (.tmp 8) 1, none, []⟩] [1, 2, 3]
def m_laws_toConfig_5 : Unit → MCode := fun _ => .region [] [⟨(some 10), .fa (.tmp 1) 2, none, []⟩,
    ⟨(some 11), .ld (.tmp 10) 1 false, none, []⟩,
    ⟨(some 12), .call 43 [(.tmp 11)], none, []⟩,
    ⟨(some 13), .fa (.tmp 3) 2, none, []⟩,
    ⟨none, .sto (.tmp 13) (.tmp 12) 1, none, []⟩] [1, 2, 3]
def m_laws_toConfig_6 : Unit → MCode := fun _ => .region [] [⟨(some 14), .fa (.tmp 1) 3, none, []⟩,
    ⟨(some 15), .ld (.tmp 14) 1 false, none, []⟩,
    ⟨(some 16), .call 43 [(.tmp 15)], none, []⟩,
    ⟨(some 17), .fa (.tmp 3) 3, none, []⟩,
    ⟨none, .sto (.tmp 17) (.tmp 16) 1, none, []⟩] [2, 3]
def m_laws_toConfig_7 : Unit → MCode := fun _ => .region [] [⟨(some 18), .ld (.tmp 3) 4 true, none, []⟩,
    ⟨none, .sto (.tmp 2) (.tmp 18) 4, none, []⟩] [2]
def m_laws_toConfig_8 : Unit → MCode := fun _ => .seq m_laws_toConfig_7 (fun _ => .ret)
def m_laws_toConfig_9 : Unit → MCode := fun _ => .seq m_laws_toConfig_6 m_laws_toConfig_8
def m_laws_toConfig_10 : Unit → MCode := fun _ => .seq m_laws_toConfig_5 m_laws_toConfig_9
def m_laws_toConfig_11 : Unit → MCode := fun _ => .seq m_laws_toConfig_4 m_laws_toConfig_10
def m_laws_toConfig_12 : Unit → MCode := fun _ => .seq m_laws_toConfig_3 m_laws_toConfig_11
def m_laws_toConfig_13 : Unit → MCode := fun _ => .seq m_laws_toConfig_2 m_laws_toConfig_12
def m_laws_toConfig_14 : Unit → MCode := fun _ => .seq m_laws_toConfig_1 m_laws_toConfig_13
def m_laws_toConfig : MCode := m_laws_toConfig_14 ()
def h_laws_toConfig : Hints := [(0, [1, 2], [], [], []), (1, [1, 2, 3], [], [], []), (2, [1, 2, 3], [], [], []), (3, [1, 2, 3], [], [], []), (4, [1, 2, 3], [], [], []), (5, [2, 3], [], [], []), (6, [2], [], [], [])]
def r_laws_toConfig : List RV := [.c 2 4 true]
abbrev n_laws_toConfig : Nat := 53
theorem k_laws_toConfig : Known Pr mu n_laws_toConfig m_laws_toConfig r_laws_toConfig Go.Proofs.Try.f53.ntmps := .of h_laws_toConfig hm Go.Proofs.Try.func53 (by kernel_rfl) (by kernel_rfl) (by kernel_rfl) (by kernel_rfl)
def m_laws_eqConfig_1 : Unit → MCode := fun _ => .region [] [⟨(some 2), .box (.tmp 0), none, []⟩,
    ⟨(some 3), .box (.tmp 1), none, []⟩,
    ⟨(some 4), .mv (.const (.bool false)), none, []⟩] [2, 3]
def m_laws_eqConfig_2 : Unit → MCode := fun _ => .region [] [⟨(some 5), .fa (.tmp 2) 0, none, []⟩,
    ⟨(some 6), .ld (.tmp 5) 1 false, none, []⟩,
    ⟨(some 7), .fa (.tmp 3) 0, none, []⟩,
    ⟨(some 8), .ld (.tmp 7) 1 false, none, []⟩,
    ⟨(some 9), .bin .neq (.tmp 6) (.tmp 8), none, []⟩] [2, 3, 9]
def m_laws_eqConfig_3 : Unit → MCode := fun _ => .region [] [⟨(some 4), .mv (.const (.bool false)), none, []⟩] [4]
def m_laws_eqConfig_4 : Unit → MCode := fun _ => .seq m_laws_eqConfig_3 (fun _ => .ret)
def m_laws_eqConfig_5 : Unit → MCode := fun _ => .cond (.tmp 9) m_laws_eqConfig_4 (fun _ => .skip)
def m_laws_eqConfig_6 : Unit → MCode := fun _ => .seq m_laws_eqConfig_2 m_laws_eqConfig_5
def m_laws_eqConfig_7 : Unit → MCode := fun _ => .region [] [⟨(some 10), .fa (.tmp 2) 1, none, []⟩,
    ⟨(some 11), .ld (.tmp 10) 1 false, none, []⟩,
    ⟨(some 12), .fa (.tmp 3) 1, none, []⟩,
    ⟨(some 13), .ld (.tmp 12) 1 false, none, []⟩,
    ⟨(some 14), .bin .neq (.tmp 11) (.tmp 13), none, []⟩] [2, 3, 14]
def m_laws_eqConfig_8 : Unit → MCode := fun _ => .region [] [⟨(some 4), .mv (.const (.bool false)), none, []⟩] [4]
def m_laws_eqConfig_9 : Unit → MCode := fun _ => .seq m_laws_eqConfig_8 (fun _ => .ret)
def m_laws_eqConfig_10 : Unit → MCode := fun _ => .cond (.tmp 14) m_laws_eqConfig_9 (fun _ => .skip)
def m_laws_eqConfig_11 : Unit → MCode := fun _ => .seq m_laws_eqConfig_7 m_laws_eqConfig_10
def m_laws_eqConfig_12 : Unit → MCode := fun _ => .region [] [⟨(some 15), .fa (.tmp 2) 2, none, []⟩,
    ⟨(some 16), .ld (.tmp 15) 1 false, none, []⟩,
    ⟨(some 17), .fa (.tmp 3) 2, none, []⟩,
    ⟨(some 18), .ld (.tmp 17) 1 false, none, []⟩,
    ⟨(some 19), .call 45 [(.tmp 16), (.tmp 18)], none, []⟩,
    ⟨(some 20), .not (.tmp 19), none, []⟩] [2, 3, 20]
def m_laws_eqConfig_13 : Unit → MCode := fun _ => .region [] [⟨(some 4), .mv (.const (.bool false)), none, []⟩] [4]
def m_laws_eqConfig_14 : Unit → MCode := fun _ => .seq m_laws_eqConfig_13 (fun _ => .ret)
def m_laws_eqConfig_15 : Unit → MCode := fun _ => .cond (.tmp 20) m_laws_eqConfig_14 (fun _ => .skip)
def m_laws_eqConfig_16 : Unit → MCode := fun _ => .seq m_laws_eqConfig_12 m_laws_eqConfig_15
def m_laws_eqConfig_17 : Unit → MCode := fun _ => .region [] [⟨(some 21), .fa (.tmp 2) 3, none, []⟩,
    ⟨(some 22), .ld (.tmp 21) 1 false, none, []⟩,
    ⟨(some 23), .fa (.tmp 3) 3, none, []⟩,
    ⟨(some 24), .ld (.tmp 23) 1 false, none, []⟩,
    ⟨(some 25), .call 45 [(.tmp 22), (.tmp 24)], none, []⟩,
    ⟨(some 26), .not (.tmp 25), none, []⟩] [26]
def m_laws_eqConfig_18 : Unit → MCode := fun _ => .region [] [⟨(some 4), .mv (.const (.bool false)), none, []⟩] [4]
def m_laws_eqConfig_19 : Unit → MCode := fun _ => .seq m_laws_eqConfig_18 (fun _ => .ret)
def m_laws_eqConfig_20 : Unit → MCode := fun _ => .cond (.tmp 26) m_laws_eqConfig_19 (fun _ => .skip)
def m_laws_eqConfig_21 : Unit → MCode := fun _ => .seq m_laws_eqConfig_17 m_laws_eqConfig_20
def m_laws_eqConfig_22 : Unit → MCode := fun _ => .region [] [⟨(some 4), .mv (.const (.bool true)), none, []⟩] [4]
def m_laws_eqConfig_23 : Unit → MCode := fun _ => .seq m_laws_eqConfig_22 (fun _ => .ret)
def m_laws_eqConfig_24 : Unit → MCode := fun _ => .seq m_laws_eqConfig_21 m_laws_eqConfig_23
def m_laws_eqConfig_25 : Unit → MCode := fun _ => .seq m_laws_eqConfig_16 m_laws_eqConfig_24
def m_laws_eqConfig_26 : Unit → MCode := fun _ => .seq m_laws_eqConfig_11 m_laws_eqConfig_25
def m_laws_eqConfig_27 : Unit → MCode := fun _ => .seq m_laws_eqConfig_6 m_laws_eqConfig_26
def m_laws_eqConfig_28 : Unit → MCode := fun _ => .seq m_laws_eqConfig_1 m_laws_eqConfig_27
def m_laws_eqConfig : MCode := m_laws_eqConfig_28 ()
def h_laws_eqConfig : Hints := [(0, [2, 3], [], [], []), (1, [2, 3, 9], [], [], []), (2, [4], [], [], []), (3, [2, 3, 14], [], [], []), (4, [4], [], [], []), (5, [2, 3, 20], [], [], []), (6, [4], [], [], []), (7, [26], [], [], []), (8, [4], [], [], []), (9, [4], [], [], [])]
def r_laws_eqConfig : List RV := [.t 4]
abbrev n_laws_eqConfig : Nat := 55
theorem k_laws_eqConfig : Known Pr mu n_laws_eqConfig m_laws_eqConfig r_laws_eqConfig Go.Proofs.Try.f55.ntmps := .of h_laws_eqConfig hm Go.Proofs.Try.func55 (by kernel_rfl) (by kernel_rfl) (by kernel_rfl) (by kernel_rfl)
def m_laws_markIntS_1 : Unit → MCode := fun _ => .region [] [⟨(some 4), .mv (.const (.int .i64 0)), none, []⟩] [0, 1]
def m_laws_markIntS_2 : Unit → MCode := fun _ => .region [] [⟨(some 5), .mv (.const (.int .i64 0)), none, []⟩] [0, 1, 5]
def m_laws_markIntS_3 : Unit → MCode := fun _ => .region [] [⟨(some 6), .mv (.tmp 5), none, []⟩,
    ⟨(some 7), .mv (.tmp 0), none, []⟩,
    ⟨(some 8), .len false (.tmp 7), none, []⟩,
    ⟨(some 9), .bin .lss (.tmp 6) (.tmp 8), none, []⟩] [0, 1, 5, 9]
def m_laws_markIntS_4 : Unit → MCode := fun _ => .cond (.tmp 9) (fun _ => .skip) (fun _ => .exit 0)
def m_laws_markIntS_5 : Unit → MCode := fun _ => .seq m_laws_markIntS_3 m_laws_markIntS_4
def m_laws_markIntS_6 : Unit → MCode := fun _ => .region [] [⟨(some 12), .mv (.tmp 0), none, []⟩,
    ⟨(some 13), .mv (.tmp 5), none, []⟩,
    ⟨(some 14), .mv (.tmp 1), none, []⟩,
    ⟨(some 15), .ia (.tmp 12) (.tmp 13) 1, none, []⟩,
    ⟨none, .sto (.tmp 15) (.tmp 14) 1, none, []⟩] [0, 1, 5]
def m_laws_markIntS_7 : Unit → MCode := fun _ => .region [] [⟨(some 16), .mv (.tmp 1), none, []⟩,
    ⟨(some 17), .bin .add (.tmp 16) (.const (.int .i64 1)), none, []⟩,
    ⟨(some 1), .mv (.tmp 17), none, []⟩] [0, 1, 5]
def m_laws_markIntS_8 : Unit → MCode := fun _ => .seq m_laws_markIntS_6 m_laws_markIntS_7
def m_laws_markIntS_9 : Unit → MCode := fun _ => .block 1 m_laws_markIntS_8
def m_laws_markIntS_10 : Unit → MCode := fun _ => .region [] [⟨(some 10), .mv (.tmp 5), none, []⟩,
    ⟨(some 11), .bin .add (.tmp 10) (.const (.int .i64 1)), none, []⟩,
    ⟨(some 5), .mv (.tmp 11), none, []⟩] [0, 1, 5]
def m_laws_markIntS_11 : Unit → MCode := fun _ => .seq m_laws_markIntS_9 m_laws_markIntS_10
def m_laws_markIntS_12 : Unit → MCode := fun _ => .seq m_laws_markIntS_5 m_laws_markIntS_11
def m_laws_markIntS_13 : Unit → MCode := fun _ => .loop m_laws_markIntS_12
def m_laws_markIntS_14 : Unit → MCode := fun _ => .block 0 m_laws_markIntS_13
def m_laws_markIntS_15 : Unit → MCode := fun _ => .seq m_laws_markIntS_2 m_laws_markIntS_14
def m_laws_markIntS_16 : Unit → MCode := fun _ => .region [] [⟨(some 18), .mv (.tmp 1), none, []⟩,
    ⟨(some 4), .mv (.tmp 18), none, []⟩] [4]
def m_laws_markIntS_17 : Unit → MCode := fun _ => .seq m_laws_markIntS_16 (fun _ => .ret)
def m_laws_markIntS_18 : Unit → MCode := fun _ => .seq m_laws_markIntS_15 m_laws_markIntS_17
def m_laws_markIntS_19 : Unit → MCode := fun _ => .seq m_laws_markIntS_1 m_laws_markIntS_18
def m_laws_markIntS : MCode := m_laws_markIntS_19 ()
def h_laws_markIntS : Hints := [(0, [0, 1], [], [], []), (1, [0, 1, 5], [], [], []), (2, [0, 1, 5, 9], [], [], []), (4, [0, 1, 5], [], [], []), (5, [0, 1, 5], [], [], []), (3, [0, 1, 5], [], [], []), (6, [4], [], [], [])]
def r_laws_markIntS : List RV := [.t 4]
abbrev n_laws_markIntS : Nat := 59
theorem k_laws_markIntS : Known Pr mu n_laws_markIntS m_laws_markIntS r_laws_markIntS Go.Proofs.Try.f59.ntmps := .of h_laws_markIntS hm Go.Proofs.Try.func59 (by kernel_rfl) (by kernel_rfl) (by kernel_rfl) (by kernel_rfl)
def m_laws_heldIntS_1 : Unit → MCode := fun _ => .region [] [⟨(some 4), .mv (.const (.int .i64 0)), none, []⟩] [0, 1]
def m_laws_heldIntS_2 : Unit → MCode := fun _ => .region [] [⟨(some 5), .mv (.const (.int .i64 0)), none, []⟩] [0, 1, 5]
def m_laws_heldIntS_3 : Unit → MCode := fun _ => .region [] [⟨(some 6), .mv (.tmp 5), none, []⟩,
    ⟨(some 7), .mv (.tmp 0), none, []⟩,
    ⟨(some 8), .len false (.tmp 7), none, []⟩,
    ⟨(some 9), .bin .lss (.tmp 6) (.tmp 8), none, []⟩] [0, 1, 5, 9]
def m_laws_heldIntS_4 : Unit → MCode := fun _ => .cond (.tmp 9) (fun _ => .skip) (fun _ => .exit 0)
def m_laws_heldIntS_5 : Unit → MCode := fun _ => .seq m_laws_heldIntS_3 m_laws_heldIntS_4
def m_laws_heldIntS_6 : Unit → MCode := fun _ => .region [] [⟨(some 12), .mv (.tmp 0), none, []⟩,
    ⟨(some 13), .mv (.tmp 5), none, []⟩,
    ⟨(some 14), .ia (.tmp 12) (.tmp 13) 1, none, []⟩,
    ⟨(some 15), .ld (.tmp 14) 1 false, none, []⟩,
    ⟨(some 16), .mv (.tmp 1), none, []⟩,
    ⟨(some 17), .bin .neq (.tmp 15) (.tmp 16), none, []⟩] [0, 1, 5, 17]
def m_laws_heldIntS_7 : Unit → MCode := fun _ => .region [] [⟨(some 4), .mv (.const (.int .i64 (-1))), none, []⟩] [4]
def m_laws_heldIntS_8 : Unit → MCode := fun _ => .seq m_laws_heldIntS_7 (fun _ => .ret)
def m_laws_heldIntS_9 : Unit → MCode := fun _ => .cond (.tmp 17) m_laws_heldIntS_8 (fun _ => .skip)
def m_laws_heldIntS_10 : Unit → MCode := fun _ => .seq m_laws_heldIntS_6 m_laws_heldIntS_9
def m_laws_heldIntS_11 : Unit → MCode := fun _ => .region [] [⟨(some 18), .mv (.tmp 1), none, []⟩,
    ⟨(some 19), .bin .add (.tmp 18) (.const (.int .i64 1)), none, []⟩,
    ⟨(some 1), .mv (.tmp 19), none, []⟩] [0, 1, 5]
def m_laws_heldIntS_12 : Unit → MCode := fun _ => .seq m_laws_heldIntS_10 m_laws_heldIntS_11
def m_laws_heldIntS_13 : Unit → MCode := fun _ => .block 1 m_laws_heldIntS_12
def m_laws_heldIntS_14 : Unit → MCode := fun _ => .region [] [⟨(some 10), .mv (.tmp 5), none, []⟩,
    ⟨(some 11), .bin .add (.tmp 10) (.const (.int .i64 1)), none, []⟩,
    ⟨(some 5), .mv (.tmp 11), none, []⟩] [0, 1, 5]
def m_laws_heldIntS_15 : Unit → MCode := fun _ => .seq m_laws_heldIntS_13 m_laws_heldIntS_14
def m_laws_heldIntS_16 : Unit → MCode := fun _ => .seq m_laws_heldIntS_5 m_laws_heldIntS_15
def m_laws_heldIntS_17 : Unit → MCode := fun _ => .loop m_laws_heldIntS_16
def m_laws_heldIntS_18 : Unit → MCode := fun _ => .block 0 m_laws_heldIntS_17
def m_laws_heldIntS_19 : Unit → MCode := fun _ => .seq m_laws_heldIntS_2 m_laws_heldIntS_18
def m_laws_heldIntS_20 : Unit → MCode := fun _ => .region [] [⟨(some 20), .mv (.tmp 1), none, []⟩,
    ⟨(some 4), .mv (.tmp 20), none, []⟩] [4]
def m_laws_heldIntS_21 : Unit → MCode := fun _ => .seq m_laws_heldIntS_20 (fun _ => .ret)
def m_laws_heldIntS_22 : Unit → MCode := fun _ => .seq m_laws_heldIntS_19 m_laws_heldIntS_21
def m_laws_heldIntS_23 : Unit → MCode := fun _ => .seq m_laws_heldIntS_1 m_laws_heldIntS_22
def m_laws_heldIntS : MCode := m_laws_heldIntS_23 ()
def h_laws_heldIntS : Hints := [(0, [0, 1], [], [], []), (1, [0, 1, 5], [], [], []), (2, [0, 1, 5, 9], [], [], []), (4, [0, 1, 5, 17], [], [], []), (5, [4], [], [], []), (6, [0, 1, 5], [], [], []), (3, [0, 1, 5], [], [], []), (7, [4], [], [], [])]
def r_laws_heldIntS : List RV := [.t 4]
abbrev n_laws_heldIntS : Nat := 60
theorem k_laws_heldIntS : Known Pr mu n_laws_heldIntS m_laws_heldIntS r_laws_heldIntS Go.Proofs.Try.f60.ntmps := .of h_laws_heldIntS hm Go.Proofs.Try.func60 (by kernel_rfl) (by kernel_rfl) (by kernel_rfl) (by kernel_rfl)
def m_laws_szEntryS_1 : Unit → MCode := fun _ => .region [] [⟨(some 4), .mv (.const (.int .i64 0)), none, []⟩] [0, 1]
def m_laws_szEntryS_2 : Unit → MCode := fun _ => .region [] [⟨(some 5), .mv (.tmp 1), none, []⟩,
    ⟨(some 6), .mv (.tmp 0), none, []⟩,
    ⟨(some 7), .len false (.tmp 6), none, []⟩,
    ⟨(some 8), .bin .sub (.tmp 5) (.tmp 7), none, []⟩,
    ⟨(some 1), .mv (.tmp 8), none, []⟩] [1]
def m_laws_szEntryS_3 : Unit → MCode := fun _ => .region [] [⟨(some 9), .mv (.tmp 1), none, []⟩,
    ⟨(some 10), .bin .lss (.tmp 9) (.const (.int .i64 0)), none, []⟩] [1, 10]
def m_laws_szEntryS_4 : Unit → MCode := fun _ => .region [] [⟨(some 4), .mv (.const (.int .i64 (-1))), none, []⟩] [4]
def m_laws_szEntryS_5 : Unit → MCode := fun _ => .seq m_laws_szEntryS_4 (fun _ => .ret)
def m_laws_szEntryS_6 : Unit → MCode := fun _ => .cond (.tmp 10) m_laws_szEntryS_5 (fun _ => .skip)
def m_laws_szEntryS_7 : Unit → MCode := fun _ => .seq m_laws_szEntryS_3 m_laws_szEntryS_6
def m_laws_szEntryS_8 : Unit → MCode := fun _ => .region [] [⟨(some 11), .mv (.tmp 1), none, []⟩,
    ⟨(some 4), .mv (.tmp 11), none, []⟩] [4]
def m_laws_szEntryS_9 : Unit → MCode := fun _ => .seq m_laws_szEntryS_8 (fun _ => .ret)
def m_laws_szEntryS_10 : Unit → MCode := fun _ => .seq m_laws_szEntryS_7 m_laws_szEntryS_9
def m_laws_szEntryS_11 : Unit → MCode := fun _ => .seq m_laws_szEntryS_2 m_laws_szEntryS_10
def m_laws_szEntryS_12 : Unit → MCode := fun _ => .seq m_laws_szEntryS_1 m_laws_szEntryS_11
def m_laws_szEntryS : MCode := m_laws_szEntryS_12 ()
def h_laws_szEntryS : Hints := [(0, [0, 1], [], [], []), (1, [1], [], [], []), (2, [1, 10], [], [], []), (3, [4], [], [], []), (4, [4], [], [], [])]
def r_laws_szEntryS : List RV := [.t 4]
abbrev n_laws_szEntryS : Nat := 75
theorem k_laws_szEntryS : Known Pr mu n_laws_szEntryS m_laws_szEntryS r_laws_szEntryS Go.Proofs.Try.f75.ntmps := .of h_laws_szEntryS hm Go.Proofs.Try.func75 (by kernel_rfl) (by kernel_rfl) (by kernel_rfl) (by kernel_rfl)
def m_spec_l1In_1 : Unit → MCode := fun _ => .region [] [⟨(some 6), .mv (.const (.bool false)), none, []⟩] [0, 1, 2]
def m_spec_l1In_2 : Unit → MCode := fun _ => .region [] [⟨(some 7), .mv (.tmp 0), none, []⟩,
    ⟨(some 8), .mv (.tmp 1), none, []⟩,
    ⟨(some 9), .bin .geq (.tmp 7) (.tmp 8), none, []⟩,
    ⟨(some 10), .mv (.tmp 9), none, []⟩,
    ⟨(some 11), .mv (.tmp 0), (some (10, true)), []⟩,
    ⟨(some 12), .mv (.tmp 2), (some (10, true)), []⟩,
    ⟨(some 13), .bin .leq (.tmp 11) (.tmp 12), (some (10, true)), []⟩,
    ⟨(some 14), .pick (.tmp 10) (.tmp 13) (.const (.bool false)), none, []⟩,
    ⟨(some 6), .mv (.tmp 14), none, []⟩] [6]
def m_spec_l1In_3 : Unit → MCode := fun _ => .seq m_spec_l1In_2 (fun _ => .ret)
def m_spec_l1In_4 : Unit → MCode := fun _ => .seq m_spec_l1In_1 m_spec_l1In_3
def m_spec_l1In : MCode := m_spec_l1In_4 ()
def h_spec_l1In : Hints := [(0, [0, 1, 2], [], [], []), (1, [6], [], [], [])]
def r_spec_l1In : List RV := [.t 6]
abbrev n_spec_l1In : Nat := 76
theorem k_spec_l1In : Known Pr mu n_spec_l1In m_spec_l1In r_spec_l1In Go.Proofs.Try.f76.ntmps := .of h_spec_l1In hm Go.Proofs.Try.func76 (by kernel_rfl) (by kernel_rfl) (by kernel_rfl) (by kernel_rfl)
def m_spec_l5Copy_1 : Unit → MCode := fun _ => .region [] [⟨(some 2), .mv (.const (.slice none 0 0)), none, []⟩] [0]
def m_spec_l5Copy_2 : Unit → MCode := fun _ => .region [] [⟨(some 3), .bsl 7 0 [.int .i64 0, .int .i64 0, .int .i64 0, .int .i64 0, .int .i64 0, .int .i64 0, .int .i64 0] [], none, []⟩,
    ⟨(some 4), .mv (.tmp 0), none, []⟩,
    ⟨(some 5), .app (.tmp 3) (.tmp 4) 7 56, none, []⟩,
    ⟨(some 2), .mv (.tmp 5), none, []⟩] [2]
def m_spec_l5Copy_3 : Unit → MCode := fun _ => .seq m_spec_l5Copy_2 (fun _ => .ret)
def m_spec_l5Copy_4 : Unit → MCode := fun _ => .seq m_spec_l5Copy_1 m_spec_l5Copy_3
def m_spec_l5Copy : MCode := m_spec_l5Copy_4 ()
def h_spec_l5Copy : Hints := [(0, [0], [], [], []), (1, [2], [], [], [])]
def r_spec_l5Copy : List RV := [.t 2]
abbrev n_spec_l5Copy : Nat := 77
theorem k_spec_l5Copy : Known Pr mu n_spec_l5Copy m_spec_l5Copy r_spec_l5Copy Go.Proofs.Try.f77.ntmps := .of h_spec_l5Copy hm Go.Proofs.Try.func77 (by kernel_rfl) (by kernel_rfl) (by kernel_rfl) (by kernel_rfl)
def m_laws_toEntryS_1 : Unit → MCode := fun _ => .region [] [⟨(some 2), .mv (.const (.slice none 0 0)), none, []⟩] [0]
def m_laws_toEntryS_2 : Unit → MCode := fun _ => .region [] [⟨(some 5), .mv (.tmp 0), none, []⟩,
    ⟨(some 6), .len false (.tmp 5), none, []⟩,
    ⟨(some 7), .mks 7 56 [.int .i64 0, .int .i64 0, .int .i64 0, .int .i64 0, .int .i64 0, .int .i64 0, .int .i64 0] (.tmp 6) (.tmp 6), none, []⟩,
    ⟨(some 3), .mv (.tmp 7), none, []⟩] [0, 3]
def m_laws_toEntryS_3 : Unit → MCode := fun _ => .region [] [⟨(some 4), .mv (.const (.int .i64 0)), none, []⟩] [0, 3, 4]
def m_laws_toEntryS_4 : Unit → MCode := fun _ => .region [] [⟨(some 8), .mv (.tmp 4), none, []⟩,
    ⟨(some 9), .mv (.tmp 0), none, []⟩,
    ⟨(some 10), .len false (.tmp 9), none, []⟩,
    ⟨(some 11), .bin .lss (.tmp 8) (.tmp 10), none, []⟩] [0, 3, 4, 11]
def m_laws_toEntryS_5 : Unit → MCode := fun _ => .cond (.tmp 11) (fun _ => .skip) (fun _ => .exit 0)
def m_laws_toEntryS_6 : Unit → MCode := fun _ => .seq m_laws_toEntryS_4 m_laws_toEntryS_5
def m_laws_toEntryS_7 : Unit → MCode := fun _ => .region [] [⟨(some 14), .mv (.tmp 3), none, []⟩,
    ⟨(some 15), .mv (.tmp 4), none, []⟩,
    ⟨(some 16), .mv (.tmp 0), none, []⟩,
    ⟨(some 17), .mv (.tmp 4), none, []⟩,
    ⟨(some 18), .ia (.tmp 16) (.tmp 17) 7, none, []⟩,
    ⟨(some 19), .ld (.tmp 18) 7 true, none, []⟩,
    ⟨(some 20), .call 125 [(.tmp 19)], none, []⟩,
    ⟨(some 21), .ia (.tmp 14) (.tmp 15) 7, none, []⟩,
    ⟨none, .sto (.tmp 21) (.tmp 20) 7, none, []⟩] [0, 3, 4]
def m_laws_toEntryS_8 : Unit → MCode := fun _ => .block 1 m_laws_toEntryS_7
def m_laws_toEntryS_9 : Unit → MCode := fun _ => .region [] [⟨(some 12), .mv (.tmp 4), none, []⟩,
    ⟨(some 13), .bin .add (.tmp 12) (.const (.int .i64 1)), none, []⟩,
    ⟨(some 4), .mv (.tmp 13), none, []⟩] [0, 3, 4]
def m_laws_toEntryS_10 : Unit → MCode := fun _ => .seq m_laws_toEntryS_8 m_laws_toEntryS_9
def m_laws_toEntryS_11 : Unit → MCode := fun _ => .seq m_laws_toEntryS_6 m_laws_toEntryS_10
def m_laws_toEntryS_12 : Unit → MCode := fun _ => .loop m_laws_toEntryS_11
def m_laws_toEntryS_13 : Unit → MCode := fun _ => .block 0 m_laws_toEntryS_12
def m_laws_toEntryS_14 : Unit → MCode := fun _ => .seq m_laws_toEntryS_3 m_laws_toEntryS_13
def m_laws_toEntryS_15 : Unit → MCode := fun _ => .region [] [⟨(some 22), .mv (.tmp 3), none, []⟩,
    ⟨(some 2), .mv (.tmp 22), none, []⟩] [2]
def m_laws_toEntryS_16 : Unit → MCode := fun _ => .seq m_laws_toEntryS_15 (fun _ => .ret)
def m_laws_toEntryS_17 : Unit → MCode := fun _ => .seq m_laws_toEntryS_14 m_laws_toEntryS_16
def m_laws_toEntryS_18 : Unit → MCode := fun _ => .seq m_laws_toEntryS_2 m_laws_toEntryS_17
def m_laws_toEntryS_19 : Unit → MCode := fun _ => .seq m_laws_toEntryS_1 m_laws_toEntryS_18
def m_laws_toEntryS : MCode := m_laws_toEntryS_19 ()
def h_laws_toEntryS : Hints := [(0, [0], [], [], []), (1, [0, 3], [], [], []), (2, [0, 3, 4], [], [], []), (3, [0, 3, 4, 11], [], [], []), (5, [0, 3, 4], [], [], []), (4, [0, 3, 4], [], [], []), (6, [2], [], [], [])]
def r_laws_toEntryS : List RV := [.t 2]
abbrev n_laws_toEntryS : Nat := 78
theorem k_laws_toEntryS : Known Pr mu n_laws_toEntryS m_laws_toEntryS r_laws_toEntryS Go.Proofs.Try.f78.ntmps := .of h_laws_toEntryS hm Go.Proofs.Try.func78 (by kernel_rfl) (by kernel_rfl) (by kernel_rfl) (by kernel_rfl)
def m_impl_within_1 : Unit → MCode := fun _ => .region [] [⟨(some 6), .mv (.const (.bool false)), none, []⟩] [0, 1, 2]
def m_impl_within_2 : Unit → MCode := fun _ => .region [] [⟨(some 7), .mv (.tmp 1), none, []⟩,
    ⟨(some 8), .mv (.tmp 0), none, []⟩,
    ⟨(some 9), .bin .leq (.tmp 7) (.tmp 8), none, []⟩,
    ⟨(some 10), .mv (.tmp 9), none, []⟩,
    ⟨(some 11), .mv (.tmp 0), (some (10, true)), []⟩,
    ⟨(some 12), .mv (.tmp 2), (some (10, true)), []⟩,
    ⟨(some 13), .bin .leq (.tmp 11) (.tmp 12), (some (10, true)), []⟩,
    ⟨(some 14), .pick (.tmp 10) (.tmp 13) (.const (.bool false)), none, []⟩,
    ⟨(some 6), .mv (.tmp 14), none, []⟩] [6]
def m_impl_within_3 : Unit → MCode := fun _ => .seq m_impl_within_2 (fun _ => .ret)
def m_impl_within_4 : Unit → MCode := fun _ => .seq m_impl_within_1 m_impl_within_3
def m_impl_within : MCode := m_impl_within_4 ()
def h_impl_within : Hints := [(0, [0, 1, 2], [], [], []), (1, [6], [], [], [])]
def r_impl_within : List RV := [.t 6]
abbrev n_impl_within : Nat := 79
theorem k_impl_within : Known Pr mu n_impl_within m_impl_within r_impl_within Go.Proofs.Try.f79.ntmps := .of h_impl_within hm Go.Proofs.Try.func79 (by kernel_rfl) (by kernel_rfl) (by kernel_rfl) (by kernel_rfl)
def m_slices_Clone_implEntryimplEntry_1 : Unit → MCode := fun _ => .region [] [⟨(some 2), .mv (.const (.slice none 0 0)), none, []⟩] [0]
def m_slices_Clone_implEntryimplEntry_2 : Unit → MCode := fun _ => .region [] [⟨(some 3), .mv (.tmp 0), none, []⟩,
    ⟨(some 4), .nbin .eql (.tmp 3) (.const (.slice none 0 0)), none, []⟩] [0, 4]
def m_slices_Clone_implEntryimplEntry_3 : Unit → MCode := fun _ => .region [] [⟨(some 2), .mv (.const (.slice none 0 0)), none, []⟩] [2]
def m_slices_Clone_implEntryimplEntry_4 : Unit → MCode := fun _ => .seq m_slices_Clone_implEntryimplEntry_3 (fun _ => .ret)
def m_slices_Clone_implEntryimplEntry_5 : Unit → MCode := fun _ => .cond (.tmp 4) m_slices_Clone_implEntryimplEntry_4 (fun _ => .skip)
def m_slices_Clone_implEntryimplEntry_6 : Unit → MCode := fun _ => .seq m_slices_Clone_implEntryimplEntry_2 m_slices_Clone_implEntryimplEntry_5
def m_slices_Clone_implEntryimplEntry_7 : Unit → MCode := fun _ => .region [] [⟨(some 5), .bsl 7 0 [.int .i64 0, .int .i64 0, .int .i64 0, .int .i64 0, .int .i64 0, .int .i64 0, .int .i64 0] [], none, []⟩,
    ⟨(some 6), .mv (.tmp 0), none, []⟩,
    ⟨(some 7), .app (.tmp 5) (.tmp 6) 7 56, none, []⟩,
    ⟨(some 2), .mv (.tmp 7), none, []⟩] [2]
def m_slices_Clone_implEntryimplEntry_8 : Unit → MCode := fun _ => .seq m_slices_Clone_implEntryimplEntry_7 (fun _ => .ret)
def m_slices_Clone_implEntryimplEntry_9 : Unit → MCode := fun _ => .seq m_slices_Clone_implEntryimplEntry_6 m_slices_Clone_implEntryimplEntry_8
def m_slices_Clone_implEntryimplEntry_10 : Unit → MCode := fun _ => .seq m_slices_Clone_implEntryimplEntry_1 m_slices_Clone_implEntryimplEntry_9
def m_slices_Clone_implEntryimplEntry : MCode := m_slices_Clone_implEntryimplEntry_10 ()
def h_slices_Clone_implEntryimplEntry : Hints := [(0, [0], [], [], []), (1, [0, 4], [], [], []), (2, [2], [], [], []), (3, [2], [], [], [])]
def r_slices_Clone_implEntryimplEntry : List RV := [.t 2]
abbrev n_slices_Clone_implEntryimplEntry : Nat := 80
theorem k_slices_Clone_implEntryimplEntry : Known Pr mu n_slices_Clone_implEntryimplEntry m_slices_Clone_implEntryimplEntry r_slices_Clone_implEntryimplEntry Go.Proofs.Try.f80.ntmps := .of h_slices_Clone_implEntryimplEntry hm Go.Proofs.Try.func80 (by kernel_rfl) (by kernel_rfl) (by kernel_rfl) (by kernel_rfl)
def m_laws_eqEntry_1 : Unit → MCode := fun _ => .region [] [⟨(some 2), .box (.tmp 0), none, []⟩,
    ⟨(some 3), .box (.tmp 1), none, []⟩,
    ⟨(some 4), .mv (.const (.bool false)), none, []⟩] [2, 3]
def m_laws_eqEntry_2 : Unit → MCode := fun _ => .region [] [⟨(some 5), .fa (.tmp 2) 0, none, []⟩,
    ⟨(some 6), .ld (.tmp 5) 1 false, none, []⟩,
    ⟨(some 7), .fa (.tmp 3) 0, none, []⟩,
    ⟨(some 8), .ld (.tmp 7) 1 false, none, []⟩,
    ⟨(some 9), .bin .neq (.tmp 6) (.tmp 8), none, []⟩] [2, 3, 9]
def m_laws_eqEntry_3 : Unit → MCode := fun _ => .region [] [⟨(some 4), .mv (.const (.bool false)), none, []⟩] [4]
def m_laws_eqEntry_4 : Unit → MCode := fun _ => .seq m_laws_eqEntry_3 (fun _ => .ret)
def m_laws_eqEntry_5 : Unit → MCode := fun _ => .cond (.tmp 9) m_laws_eqEntry_4 (fun _ => .skip)
def m_laws_eqEntry_6 : Unit → MCode := fun _ => .seq m_laws_eqEntry_2 m_laws_eqEntry_5
def m_laws_eqEntry_7 : Unit → MCode := fun _ => .region [] [⟨(some 10), .fa (.tmp 2) 1, none, []⟩,
    ⟨(some 11), .ld (.tmp 10) 6 true, none, []⟩,
    ⟨(some 12), .fa (.tmp 3) 1, none, []⟩,
    ⟨(some 13), .ld (.tmp 12) 6 true, none, []⟩,
    ⟨(some 14), .call 126 [(.tmp 11), (.tmp 13)], none, []⟩,
    ⟨(some 15), .not (.tmp 14), none, []⟩] [15]
def m_laws_eqEntry_8 : Unit → MCode := fun _ => .region [] [⟨(some 4), .mv (.const (.bool false)), none, []⟩] [4]
def m_laws_eqEntry_9 : Unit → MCode := fun _ => .seq m_laws_eqEntry_8 (fun _ => .ret)
def m_laws_eqEntry_10 : Unit → MCode := fun _ => .cond (.tmp 15) m_laws_eqEntry_9 (fun _ => .skip)
def m_laws_eqEntry_11 : Unit → MCode := fun _ => .seq m_laws_eqEntry_7 m_laws_eqEntry_10
def m_laws_eqEntry_12 : Unit → MCode := fun _ => .region [] [⟨(some 4), .mv (.const (.bool true)), none, []⟩] [4]
def m_laws_eqEntry_13 : Unit → MCode := fun _ => .seq m_laws_eqEntry_12 (fun _ => .ret)
def m_laws_eqEntry_14 : Unit → MCode := fun _ => .seq m_laws_eqEntry_11 m_laws_eqEntry_13
def m_laws_eqEntry_15 : Unit → MCode := fun _ => .seq m_laws_eqEntry_6 m_laws_eqEntry_14
def m_laws_eqEntry_16 : Unit → MCode := fun _ => .seq m_laws_eqEntry_1 m_laws_eqEntry_15
def m_laws_eqEntry : MCode := m_laws_eqEntry_16 ()
def h_laws_eqEntry : Hints := [(0, [2, 3], [], [], []), (1, [2, 3, 9], [], [], []), (2, [4], [], [], []), (3, [15], [], [], []), (4, [4], [], [], []), (5, [4], [], [], [])]
def r_laws_eqEntry : List RV := [.t 4]
abbrev n_laws_eqEntry : Nat := 81
theorem k_laws_eqEntry : Known Pr mu n_laws_eqEntry m_laws_eqEntry r_laws_eqEntry Go.Proofs.Try.f81.ntmps := .of h_laws_eqEntry hm Go.Proofs.Try.func81 (by kernel_rfl) (by kernel_rfl) (by kernel_rfl) (by kernel_rfl)
def m_laws_markConfig_1 : Unit → MCode := fun _ => .region [] [⟨(some 2), .box (.tmp 0), none, []⟩,
    ⟨(some 4), .mv (.const (.int .i64 0)), none, []⟩] [1, 2]
def m_laws_markConfig_2 : Unit → MCode := fun _ => .region [] [⟨(some 5), .fa (.tmp 2) 2, none, []⟩,
    ⟨(some 6), .ld (.tmp 5) 1 false, none, []⟩,
    ⟨(some 7), .mv (.tmp 1), none, []⟩,
    ⟨(some 8), .callm 59 [(.tmp 6), (.tmp 7)], none, []⟩,
    ⟨(some 1), .mv (.tmp 8), none, []⟩] [1, 2]
def m_laws_markConfig_3 : Unit → MCode := fun _ => .region [] [⟨(some 9), .fa (.tmp 2) 3, none, []⟩,
    ⟨(some 10), .ld (.tmp 9) 1 false, none, []⟩,
    ⟨(some 11), .mv (.tmp 1), none, []⟩,
    ⟨(some 12), .callm 59 [(.tmp 10), (.tmp 11)], none, []⟩,
    ⟨(some 1), .mv (.tmp 12), none, []⟩] [1]
def m_laws_markConfig_4 : Unit → MCode := fun _ => .region [] [⟨(some 13), .mv (.tmp 1), none, []⟩,
    ⟨(some 4), .mv (.tmp 13), none, []⟩] [4]
def m_laws_markConfig_5 : Unit → MCode := fun _ => .seq m_laws_markConfig_4 (fun _ => .ret)
def m_laws_markConfig_6 : Unit → MCode := fun _ => .seq m_laws_markConfig_3 m_laws_markConfig_5
def m_laws_markConfig_7 : Unit → MCode := fun _ => .seq m_laws_markConfig_2 m_laws_markConfig_6
def m_laws_markConfig_8 : Unit → MCode := fun _ => .seq m_laws_markConfig_1 m_laws_markConfig_7
def m_laws_markConfig : MCode := m_laws_markConfig_8 ()
def h_laws_markConfig : Hints := [(0, [1, 2], [], [], []), (1, [1, 2], [], [], []), (2, [1], [], [], []), (3, [4], [], [], [])]
def r_laws_markConfig : List RV := [.t 4]
abbrev n_laws_markConfig : Nat := 82
theorem k_laws_markConfig : Known Pr mu n_laws_markConfig m_laws_markConfig r_laws_markConfig Go.Proofs.Try.f82.ntmps := .of h_laws_markConfig hm Go.Proofs.Try.func82 (by kernel_rfl) (by kernel_rfl) (by kernel_rfl) (by kernel_rfl)
def m_laws_heldConfig_1 : Unit → MCode := fun _ => .region [] [⟨(some 2), .box (.tmp 0), none, []⟩,
    ⟨(some 4), .mv (.const (.int .i64 0)), none, []⟩] [1, 2]
def m_laws_heldConfig_2 : Unit → MCode := fun _ => .region [] [⟨(some 5), .fa (.tmp 2) 2, none, []⟩,
    ⟨(some 6), .ld (.tmp 5) 1 false, none, []⟩,
    ⟨(some 7), .mv (.tmp 1), none, []⟩,
    ⟨(some 8), .call 60 [(.tmp 6), (.tmp 7)], none, []⟩,
    ⟨(some 1), .mv (.tmp 8), none, []⟩] [1, 2]
def m_laws_heldConfig_3 : Unit → MCode := fun _ => .region [] [⟨(some 9), .mv (.tmp 1), none, []⟩,
    ⟨(some 10), .bin .lss (.tmp 9) (.const (.int .i64 0)), none, []⟩] [1, 2, 10]
def m_laws_heldConfig_4 : Unit → MCode := fun _ => .region [] [⟨(some 4), .mv (.const (.int .i64 (-1))), none, []⟩] [4]
def m_laws_heldConfig_5 : Unit → MCode := fun _ => .seq m_laws_heldConfig_4 (fun _ => .ret)
def m_laws_heldConfig_6 : Unit → MCode := fun _ => .cond (.tmp 10) m_laws_heldConfig_5 (fun _ => .skip)
def m_laws_heldConfig_7 : Unit → MCode := fun _ => .seq m_laws_heldConfig_3 m_laws_heldConfig_6
def m_laws_heldConfig_8 : Unit → MCode := fun _ => .region [] [⟨(some 11), .fa (.tmp 2) 3, none, []⟩,
    ⟨(some 12), .ld (.tmp 11) 1 false, none, []⟩,
    ⟨(some 13), .mv (.tmp 1), none, []⟩,
    ⟨(some 14), .call 60 [(.tmp 12), (.tmp 13)], none, []⟩,
    ⟨(some 1), .mv (.tmp 14), none, []⟩] [1]
def m_laws_heldConfig_9 : Unit → MCode := fun _ => .region [] [⟨(some 15), .mv (.tmp 1), none, []⟩,
    ⟨(some 16), .bin .lss (.tmp 15) (.const (.int .i64 0)), none, []⟩] [1, 16]
def m_laws_heldConfig_10 : Unit → MCode := fun _ => .region [] [⟨(some 4), .mv (.const (.int .i64 (-1))), none, []⟩] [4]
def m_laws_heldConfig_11 : Unit → MCode := fun _ => .seq m_laws_heldConfig_10 (fun _ => .ret)
def m_laws_heldConfig_12 : Unit → MCode := fun _ => .cond (.tmp 16) m_laws_heldConfig_11 (fun _ => .skip)
def m_laws_heldConfig_13 : Unit → MCode := fun _ => .seq m_laws_heldConfig_9 m_laws_heldConfig_12
def m_laws_heldConfig_14 : Unit → MCode := fun _ => .region [] [⟨(some 17), .mv (.tmp 1), none, []⟩,
    ⟨(some 4), .mv (.tmp 17), none, []⟩] [4]
def m_laws_heldConfig_15 : Unit → MCode := fun _ => .seq m_laws_heldConfig_14 (fun _ => .ret)
def m_laws_heldConfig_16 : Unit → MCode := fun _ => .seq m_laws_heldConfig_13 m_laws_heldConfig_15
def m_laws_heldConfig_17 : Unit → MCode := fun _ => .seq m_laws_heldConfig_8 m_laws_heldConfig_16
def m_laws_heldConfig_18 : Unit → MCode := fun _ => .seq m_laws_heldConfig_7 m_laws_heldConfig_17
def m_laws_heldConfig_19 : Unit → MCode := fun _ => .seq m_laws_heldConfig_2 m_laws_heldConfig_18
def m_laws_heldConfig_20 : Unit → MCode := fun _ => .seq m_laws_heldConfig_1 m_laws_heldConfig_19
def m_laws_heldConfig : MCode := m_laws_heldConfig_20 ()
def h_laws_heldConfig : Hints := [(0, [1, 2], [], [], []), (1, [1, 2], [], [], []), (2, [1, 2, 10], [], [], []), (3, [4], [], [], []), (4, [1], [], [], []), (5, [1, 16], [], [], []), (6, [4], [], [], []), (7, [4], [], [], [])]
def r_laws_heldConfig : List RV := [.t 4]
abbrev n_laws_heldConfig : Nat := 99
theorem k_laws_heldConfig : Known Pr mu n_laws_heldConfig m_laws_heldConfig r_laws_heldConfig Go.Proofs.Try.f99.ntmps := .of h_laws_heldConfig hm Go.Proofs.Try.func99 (by kernel_rfl) (by kernel_rfl) (by kernel_rfl) (by kernel_rfl)
def m_spec_l14Copy_1 : Unit → MCode := fun _ => .region [] [⟨(some 1), .box (.tmp 0), none, []⟩,
    ⟨(some 2), .alloc [.bool false, .bool false, .int .i64 0, .int .i64 0, .int .i64 0, .int .i64 0, .slice none 0 0, .slice none 0 0, .int .i64 0, .slice none 0 0, .int .i64 0, .slice none 0 0], none, []⟩] [1, 2]
def m_spec_l14Copy_2 : Unit → MCode := fun _ => .region [] [⟨(some 4), .ld (.tmp 1) 12 true, none, []⟩,
    ⟨(some 3), .alloc [.bool false, .bool false, .int .i64 0, .int .i64 0, .int .i64 0, .int .i64 0, .slice none 0 0, .slice none 0 0, .int .i64 0, .slice none 0 0, .int .i64 0, .slice none 0 0], none, []⟩,
    ⟨none, .sto (.tmp 3) (.tmp 4) 12, none, []⟩] [1, 2, 3]
def m_spec_l14Copy_3 : Unit → MCode := fun _ => .region [] [⟨(some 5), .fa (.tmp 1) 4, none, []⟩,
    ⟨(some 6), .ld (.tmp 5) 4 true, none, []⟩,
    ⟨(some 7), .call 133 [(.tmp 6)], none, []⟩,
    ⟨(some 8), .fa (.tmp 3) 4, none, []⟩,
    ⟨none, .sto (.tmp 8) (.tmp 7) 4, none, []⟩] [1, 2, 3]
def m_spec_l14Copy_4 : Unit → MCode := fun _ => .region [] [⟨(some 9), .fa (.tmp 1) 9, none, []⟩,
    ⟨(some 10), .ld (.tmp 9) 1 false, none, []⟩,
    ⟨(some 11), .call 77 [(.tmp 10)], none, []⟩,
    ⟨(some 12), .fa (.tmp 3) 9, none, []⟩,
    ⟨none, .sto (.tmp 12) (.tmp 11) 1, none, []⟩] [1, 2, 3]
def m_spec_l14Copy_5 : Unit → MCode := fun _ => .region [] [⟨(some 13), .fa (.tmp 1) 11, none, []⟩,
    ⟨(some 14), .ld (.tmp 13) 1 false, none, []⟩,
    ⟨(some 15), .call 77 [(.tmp 14)], none, []⟩,
    ⟨(some 16), .fa (.tmp 3) 11, none, []⟩,
    ⟨none, .sto (.tmp 16) (.tmp 15) 1, none, []⟩] [2, 3]
def m_spec_l14Copy_6 : Unit → MCode := fun _ => .region [] [⟨(some 17), .ld (.tmp 3) 12 true, none, []⟩,
    ⟨none, .sto (.tmp 2) (.tmp 17) 12, none, []⟩] [2]
def m_spec_l14Copy_7 : Unit → MCode := fun _ => .seq m_spec_l14Copy_6 (fun _ => .ret)
def m_spec_l14Copy_8 : Unit → MCode := fun _ => .seq m_spec_l14Copy_5 m_spec_l14Copy_7
def m_spec_l14Copy_9 : Unit → MCode := fun _ => .seq m_spec_l14Copy_4 m_spec_l14Copy_8
def m_spec_l14Copy_10 : Unit → MCode := fun _ => .seq m_spec_l14Copy_3 m_spec_l14Copy_9
def m_spec_l14Copy_11 : Unit → MCode := fun _ => .seq m_spec_l14Copy_2 m_spec_l14Copy_10
def m_spec_l14Copy_12 : Unit → MCode := fun _ => .seq m_spec_l14Copy_1 m_spec_l14Copy_11
def m_spec_l14Copy : MCode := m_spec_l14Copy_12 ()
def h_spec_l14Copy : Hints := [(0, [1, 2], [], [], []), (1, [1, 2, 3], [], [], []), (2, [1, 2, 3], [], [], []), (3, [1, 2, 3], [], [], []), (4, [2, 3], [], [], []), (5, [2], [], [], [])]
def r_spec_l14Copy : List RV := [.c 2 12 true]
abbrev n_spec_l14Copy : Nat := 100
theorem k_spec_l14Copy : Known Pr mu n_spec_l14Copy m_spec_l14Copy r_spec_l14Copy Go.Proofs.Try.f100.ntmps := .of h_spec_l14Copy hm Go.Proofs.Try.func100 (by kernel_rfl) (by kernel_rfl) (by kernel_rfl) (by kernel_rfl)
def m_impl_serverCopy_1 : Unit → MCode := fun _ => .region [] [⟨(some 1), .box (.tmp 0), none, []⟩,
    ⟨(some 2), .alloc [.bool false, .bool false, .int .i64 0, .int .i64 0, .int .i64 0, .int .i64 0, .slice none 0 0, .slice none 0 0, .int .i64 0, .slice none 0 0, .int .i64 0, .slice none 0 0], none, []⟩] [1, 2]
def m_impl_serverCopy_2 : Unit → MCode := fun _ => .region [] [⟨(some 3), .fa (.tmp 1) 4, none, []⟩,
    ⟨(some 4), .ld (.tmp 3) 4 true, none, []⟩,
    ⟨(some 5), .call 134 [(.tmp 4)], none, []⟩,
    ⟨(some 6), .fa (.tmp 1) 9, none, [0, 1, 2]⟩,
    ⟨(some 7), .ld (.tmp 6) 1 false, none, [0, 1, 2]⟩,
    ⟨(some 8), .call 80 [(.tmp 7)], none, []⟩,
    ⟨(some 9), .fa (.tmp 1) 11, none, [0, 1, 2, 3, 4, 5]⟩,
    ⟨(some 10), .ld (.tmp 9) 1 false, none, [0, 1, 2, 3, 4, 5]⟩,
    ⟨(some 11), .call 80 [(.tmp 10)], none, []⟩,
    ⟨(some 12), .fa (.tmp 1) 4, none, [5, 8]⟩,
    ⟨none, .sto (.tmp 12) (.tmp 5) 4, none, []⟩,
    ⟨(some 13), .fa (.tmp 1) 9, none, []⟩,
    ⟨none, .sto (.tmp 13) (.tmp 8) 1, none, []⟩,
    ⟨(some 14), .fa (.tmp 1) 11, none, []⟩,
    ⟨none, .sto (.tmp 14) (.tmp 11) 1, none, []⟩] [1, 2]
def m_impl_serverCopy_3 : Unit → MCode := fun _ => .region [] [⟨(some 15), .ld (.tmp 1) 12 true, none, []⟩,
    ⟨none, .sto (.tmp 2) (.tmp 15) 12, none, []⟩] [2]
def m_impl_serverCopy_4 : Unit → MCode := fun _ => .seq m_impl_serverCopy_3 (fun _ => .ret)
def m_impl_serverCopy_5 : Unit → MCode := fun _ => .seq m_impl_serverCopy_2 m_impl_serverCopy_4
def m_impl_serverCopy_6 : Unit → MCode := fun _ => .seq m_impl_serverCopy_1 m_impl_serverCopy_5
def m_impl_serverCopy : MCode := m_impl_serverCopy_6 ()
def h_impl_serverCopy : Hints := [(0, [1, 2], [], [], []), (1, [1, 2], [[], [], [], [0, 1, 2], [0, 1, 2], [], [0, 1, 2, 3, 4, 5], [0, 1, 2, 3, 4, 5], [], [5, 8]], [], []), (2, [2], [], [], [])]
def r_impl_serverCopy : List RV := [.c 2 12 true]
abbrev n_impl_serverCopy : Nat := 101
theorem k_impl_serverCopy : Known Pr mu n_impl_serverCopy m_impl_serverCopy r_impl_serverCopy Go.Proofs.Try.f101.ntmps := .of h_impl_serverCopy hm Go.Proofs.Try.func101 (by kernel_rfl) (by kernel_rfl) (by kernel_rfl) (by kernel_rfl)
def m_laws_szIntS_1 : Unit → MCode := fun _ => .region [] [⟨(some 4), .mv (.const (.int .i64 0)), none, []⟩] [0, 1]
def m_laws_szIntS_2 : Unit → MCode := fun _ => .region [] [⟨(some 5), .mv (.tmp 1), none, []⟩,
    ⟨(some 6), .mv (.tmp 0), none, []⟩,
    ⟨(some 7), .len false (.tmp 6), none, []⟩,
    ⟨(some 8), .bin .sub (.tmp 5) (.tmp 7), none, []⟩,
    ⟨(some 1), .mv (.tmp 8), none, []⟩] [1]
def m_laws_szIntS_3 : Unit → MCode := fun _ => .region [] [⟨(some 9), .mv (.tmp 1), none, []⟩,
    ⟨(some 10), .bin .lss (.tmp 9) (.const (.int .i64 0)), none, []⟩] [1, 10]
def m_laws_szIntS_4 : Unit → MCode := fun _ => .region [] [⟨(some 4), .mv (.const (.int .i64 (-1))), none, []⟩] [4]
def m_laws_szIntS_5 : Unit → MCode := fun _ => .seq m_laws_szIntS_4 (fun _ => .ret)
def m_laws_szIntS_6 : Unit → MCode := fun _ => .cond (.tmp 10) m_laws_szIntS_5 (fun _ => .skip)
def m_laws_szIntS_7 : Unit → MCode := fun _ => .seq m_laws_szIntS_3 m_laws_szIntS_6
def m_laws_szIntS_8 : Unit → MCode := fun _ => .region [] [⟨(some 11), .mv (.tmp 1), none, []⟩,
    ⟨(some 4), .mv (.tmp 11), none, []⟩] [4]
def m_laws_szIntS_9 : Unit → MCode := fun _ => .seq m_laws_szIntS_8 (fun _ => .ret)
def m_laws_szIntS_10 : Unit → MCode := fun _ => .seq m_laws_szIntS_7 m_laws_szIntS_9
def m_laws_szIntS_11 : Unit → MCode := fun _ => .seq m_laws_szIntS_2 m_laws_szIntS_10
def m_laws_szIntS_12 : Unit → MCode := fun _ => .seq m_laws_szIntS_1 m_laws_szIntS_11
def m_laws_szIntS : MCode := m_laws_szIntS_12 ()
def h_laws_szIntS : Hints := [(0, [0, 1], [], [], []), (1, [1], [], [], []), (2, [1, 10], [], [], []), (3, [4], [], [], []), (4, [4], [], [], [])]
def r_laws_szIntS : List RV := [.t 4]
abbrev n_laws_szIntS : Nat := 110
theorem k_laws_szIntS : Known Pr mu n_laws_szIntS m_laws_szIntS r_laws_szIntS Go.Proofs.Try.f110.ntmps := .of h_laws_szIntS hm Go.Proofs.Try.func110 (by kernel_rfl) (by kernel_rfl) (by kernel_rfl) (by kernel_rfl)
def m_laws_toEntry_1 : Unit → MCode := fun _ => .region [] [⟨(some 1), .box (.tmp 0), none, []⟩,
    ⟨(some 2), .alloc [.int .i64 0, .int .i64 0, .int .i64 0, .int .i64 0, .int .i64 0, .int .i64 0, .int .i64 0], none, []⟩] [1, 2]
def m_laws_toEntry_2 : Unit → MCode := fun _ => .region [] [⟨(some 3), .alloc [.int .i64 0, .int .i64 0, .int .i64 0, .int .i64 0, .int .i64 0, .int .i64 0, .int .i64 0], none, []⟩] [1, 2, 3]
def m_laws_toEntry_3 : Unit → MCode := fun _ => .region [] [⟨(some 4), .fa (.tmp 1) 0, none, []⟩,
    ⟨(some 5), .ld (.tmp 4) 1 false, none, []⟩,
    ⟨(some 6), .fa (.tmp 3) 0, none, []⟩,
    ⟨none, .sto (.tmp 6) (.tmp 5) 1, none, []⟩] [1, 2, 3]
def m_laws_toEntry_4 : Unit → MCode := fun _ => .region [] [⟨(some 7), .fa (.tmp 1) 1, none, []⟩,
    ⟨(some 8), .ld (.tmp 7) 6 true, none, []⟩,
    ⟨(some 9), .call 145 [(.tmp 8)], none, []⟩,
    ⟨(some 10), .fa (.tmp 3) 1, none, []⟩,
    ⟨none, .sto (.tmp 10) (.tmp 9) 6, none, []⟩] [2, 3]
def m_laws_toEntry_5 : Unit → MCode := fun _ => .region [] [⟨(some 11), .ld (.tmp 3) 7 true, none, []⟩,
    ⟨none, .sto (.tmp 2) (.tmp 11) 7, none, []⟩] [2]
def m_laws_toEntry_6 : Unit → MCode := fun _ => .seq m_laws_toEntry_5 (fun _ => .ret)
def m_laws_toEntry_7 : Unit → MCode := fun _ => .seq m_laws_toEntry_4 m_laws_toEntry_6
def m_laws_toEntry_8 : Unit → MCode := fun _ => .seq m_laws_toEntry_3 m_laws_toEntry_7
def m_laws_toEntry_9 : Unit → MCode := fun _ => .seq m_laws_toEntry_2 m_laws_toEntry_8
def m_laws_toEntry_10 : Unit → MCode := fun _ => .seq m_laws_toEntry_1 m_laws_toEntry_9
def m_laws_toEntry : MCode := m_laws_toEntry_10 ()
def h_laws_toEntry : Hints := [(0, [1, 2], [], [], []), (1, [1, 2, 3], [], [], []), (2, [1, 2, 3], [], [], []), (3, [2, 3], [], [], []), (4, [2], [], [], [])]
def r_laws_toEntry : List RV := [.c 2 7 true]
abbrev n_laws_toEntry : Nat := 125
theorem k_laws_toEntry : Known Pr mu n_laws_toEntry m_laws_toEntry r_laws_toEntry Go.Proofs.Try.f125.ntmps := .of h_laws_toEntry hm Go.Proofs.Try.func125 (by kernel_rfl) (by kernel_rfl) (by kernel_rfl) (by kernel_rfl)
def m_laws_eqOp_1 : Unit → MCode := fun _ => .region [] [⟨(some 2), .box (.tmp 0), none, []⟩,
    ⟨(some 3), .box (.tmp 1), none, []⟩,
    ⟨(some 4), .mv (.const (.bool false)), none, []⟩] [2, 3]
def m_laws_eqOp_2 : Unit → MCode := fun _ => .region [] [⟨(some 5), .fa (.tmp 2) 0, none, []⟩,
    ⟨(some 6), .ld (.tmp 5) 1 false, none, []⟩,
    ⟨(some 7), .fa (.tmp 3) 0, none, []⟩,
    ⟨(some 8), .ld (.tmp 7) 1 false, none, []⟩,
    ⟨(some 9), .bin .neq (.tmp 6) (.tmp 8), none, []⟩] [2, 3, 9]
def m_laws_eqOp_3 : Unit → MCode := fun _ => .region [] [⟨(some 4), .mv (.const (.bool false)), none, []⟩] [4]
def m_laws_eqOp_4 : Unit → MCode := fun _ => .seq m_laws_eqOp_3 (fun _ => .ret)
def m_laws_eqOp_5 : Unit → MCode := fun _ => .cond (.tmp 9) m_laws_eqOp_4 (fun _ => .skip)
def m_laws_eqOp_6 : Unit → MCode := fun _ => .seq m_laws_eqOp_2 m_laws_eqOp_5
def m_laws_eqOp_7 : Unit → MCode := fun _ => .region [] [⟨(some 10), .fa (.tmp 2) 1, none, []⟩,
    ⟨(some 11), .ld (.tmp 10) 1 false, none, []⟩,
    ⟨(some 12), .fa (.tmp 3) 1, none, []⟩,
    ⟨(some 13), .ld (.tmp 12) 1 false, none, []⟩,
    ⟨(some 14), .bin .neq (.tmp 11) (.tmp 13), none, []⟩] [2, 3, 14]
def m_laws_eqOp_8 : Unit → MCode := fun _ => .region [] [⟨(some 4), .mv (.const (.bool false)), none, []⟩] [4]
def m_laws_eqOp_9 : Unit → MCode := fun _ => .seq m_laws_eqOp_8 (fun _ => .ret)
def m_laws_eqOp_10 : Unit → MCode := fun _ => .cond (.tmp 14) m_laws_eqOp_9 (fun _ => .skip)
def m_laws_eqOp_11 : Unit → MCode := fun _ => .seq m_laws_eqOp_7 m_laws_eqOp_10
def m_laws_eqOp_12 : Unit → MCode := fun _ => .region [] [⟨(some 15), .fa (.tmp 2) 2, none, []⟩,
    ⟨(some 16), .ld (.tmp 15) 1 false, none, []⟩,
    ⟨(some 17), .fa (.tmp 3) 2, none, []⟩,
    ⟨(some 18), .ld (.tmp 17) 1 false, none, []⟩,
    ⟨(some 19), .bin .neq (.tmp 16) (.tmp 18), none, []⟩] [2, 3, 19]
def m_laws_eqOp_13 : Unit → MCode := fun _ => .region [] [⟨(some 4), .mv (.const (.bool false)), none, []⟩] [4]
def m_laws_eqOp_14 : Unit → MCode := fun _ => .seq m_laws_eqOp_13 (fun _ => .ret)
def m_laws_eqOp_15 : Unit → MCode := fun _ => .cond (.tmp 19) m_laws_eqOp_14 (fun _ => .skip)
def m_laws_eqOp_16 : Unit → MCode := fun _ => .seq m_laws_eqOp_12 m_laws_eqOp_15
def m_laws_eqOp_17 : Unit → MCode := fun _ => .region [] [⟨(some 20), .fa (.tmp 2) 3, none, []⟩,
    ⟨(some 21), .ld (.tmp 20) 1 false, none, []⟩,
    ⟨(some 22), .fa (.tmp 3) 3, none, []⟩,
    ⟨(some 23), .ld (.tmp 22) 1 false, none, []⟩,
    ⟨(some 24), .bin .neq (.tmp 21) (.tmp 23), none, []⟩] [2, 3, 24]
def m_laws_eqOp_18 : Unit → MCode := fun _ => .region [] [⟨(some 4), .mv (.const (.bool false)), none, []⟩] [4]
def m_laws_eqOp_19 : Unit → MCode := fun _ => .seq m_laws_eqOp_18 (fun _ => .ret)
def m_laws_eqOp_20 : Unit → MCode := fun _ => .cond (.tmp 24) m_laws_eqOp_19 (fun _ => .skip)
def m_laws_eqOp_21 : Unit → MCode := fun _ => .seq m_laws_eqOp_17 m_laws_eqOp_20
def m_laws_eqOp_22 : Unit → MCode := fun _ => .region [] [⟨(some 25), .fa (.tmp 2) 4, none, []⟩,
    ⟨(some 26), .ld (.tmp 25) 1 false, none, []⟩,
    ⟨(some 27), .fa (.tmp 3) 4, none, []⟩,
    ⟨(some 28), .ld (.tmp 27) 1 false, none, []⟩,
    ⟨(some 29), .bin .neq (.tmp 26) (.tmp 28), none, []⟩] [2, 3, 29]
def m_laws_eqOp_23 : Unit → MCode := fun _ => .region [] [⟨(some 4), .mv (.const (.bool false)), none, []⟩] [4]
def m_laws_eqOp_24 : Unit → MCode := fun _ => .seq m_laws_eqOp_23 (fun _ => .ret)
def m_laws_eqOp_25 : Unit → MCode := fun _ => .cond (.tmp 29) m_laws_eqOp_24 (fun _ => .skip)
def m_laws_eqOp_26 : Unit → MCode := fun _ => .seq m_laws_eqOp_22 m_laws_eqOp_25
def m_laws_eqOp_27 : Unit → MCode := fun _ => .region [] [⟨(some 30), .fa (.tmp 2) 5, none, []⟩,
    ⟨(some 31), .ld (.tmp 30) 1 false, none, []⟩,
    ⟨(some 32), .fa (.tmp 3) 5, none, []⟩,
    ⟨(some 33), .ld (.tmp 32) 1 false, none, []⟩,
    ⟨(some 34), .bin .neq (.tmp 31) (.tmp 33), none, []⟩] [34]
def m_laws_eqOp_28 : Unit → MCode := fun _ => .region [] [⟨(some 4), .mv (.const (.bool false)), none, []⟩] [4]
def m_laws_eqOp_29 : Unit → MCode := fun _ => .seq m_laws_eqOp_28 (fun _ => .ret)
def m_laws_eqOp_30 : Unit → MCode := fun _ => .cond (.tmp 34) m_laws_eqOp_29 (fun _ => .skip)
def m_laws_eqOp_31 : Unit → MCode := fun _ => .seq m_laws_eqOp_27 m_laws_eqOp_30
def m_laws_eqOp_32 : Unit → MCode := fun _ => .region [] [⟨(some 4), .mv (.const (.bool true)), none, []⟩] [4]
def m_laws_eqOp_33 : Unit → MCode := fun _ => .seq m_laws_eqOp_32 (fun _ => .ret)
def m_laws_eqOp_34 : Unit → MCode := fun _ => .seq m_laws_eqOp_31 m_laws_eqOp_33
def m_laws_eqOp_35 : Unit → MCode := fun _ => .seq m_laws_eqOp_26 m_laws_eqOp_34
def m_laws_eqOp_36 : Unit → MCode := fun _ => .seq m_laws_eqOp_21 m_laws_eqOp_35
def m_laws_eqOp_37 : Unit → MCode := fun _ => .seq m_laws_eqOp_16 m_laws_eqOp_36
def m_laws_eqOp_38 : Unit → MCode := fun _ => .seq m_laws_eqOp_11 m_laws_eqOp_37
def m_laws_eqOp_39 : Unit → MCode := fun _ => .seq m_laws_eqOp_6 m_laws_eqOp_38
def m_laws_eqOp_40 : Unit → MCode := fun _ => .seq m_laws_eqOp_1 m_laws_eqOp_39
def m_laws_eqOp : MCode := m_laws_eqOp_40 ()
def h_laws_eqOp : Hints := [(0, [2, 3], [], [], []), (1, [2, 3, 9], [], [], []), (2, [4], [], [], []), (3, [2, 3, 14], [], [], []), (4, [4], [], [], []), (5, [2, 3, 19], [], [], []), (6, [4], [], [], []), (7, [2, 3, 24], [], [], []), (8, [4], [], [], []), (9, [2, 3, 29], [], [], []), (10, [4], [], [], []), (11, [34], [], [], []), (12, [4], [], [], []), (13, [4], [], [], [])]
def r_laws_eqOp : List RV := [.t 4]
abbrev n_laws_eqOp : Nat := 126
theorem k_laws_eqOp : Known Pr mu n_laws_eqOp m_laws_eqOp r_laws_eqOp Go.Proofs.Try.f126.ntmps := .of h_laws_eqOp hm Go.Proofs.Try.func126 (by kernel_rfl) (by kernel_rfl) (by kernel_rfl) (by kernel_rfl)
def m_spec_l8Copy_1 : Unit → MCode := fun _ => .region [] [⟨(some 1), .box (.tmp 0), none, []⟩,
    ⟨(some 2), .alloc [.int .i64 0, .int .i64 0, .slice none 0 0, .slice none 0 0], none, []⟩] [1, 2]
def m_spec_l8Copy_2 : Unit → MCode := fun _ => .region [] [⟨(some 3), .fa (.tmp 1) 0, none, []⟩,
    ⟨(some 4), .ld (.tmp 3) 1 false, none, []⟩,
    ⟨(some 5), .fa (.tmp 1) 1, none, [0, 1]⟩,
    ⟨(some 6), .ld (.tmp 5) 1 false, none, [0, 1]⟩,
    ⟨(some 7), .bsl 1 0 [.int .i64 0] [], none, []⟩,
    ⟨(some 8), .fa (.tmp 1) 2, none, [0, 1, 2, 3, 4]⟩,
    ⟨(some 9), .ld (.tmp 8) 1 false, none, [0, 1, 2, 3, 4]⟩,
    ⟨(some 10), .appn (.tmp 7) (.tmp 9) 1 8, none, [1000000, 0, 1, 2, 3]⟩,
    ⟨(some 11), .bsl 1 0 [.int .i64 0] [], none, []⟩,
    ⟨(some 12), .fa (.tmp 1) 3, none, [0, 1, 2, 3, 4, 5, 6, 7, 8]⟩,
    ⟨(some 13), .ld (.tmp 12) 1 false, none, [0, 1, 2, 3, 4, 5, 6, 7, 8]⟩,
    ⟨(some 14), .appn (.tmp 11) (.tmp 13) 1 8, none, [1000000, 0, 1, 2, 3]⟩,
    ⟨(some 15), .bld [.int .i64 0, .int .i64 0, .slice none 0 0, .slice none 0 0] [(0, 1, (.tmp 4)), (1, 1, (.tmp 6)), (2, 1, (.tmp 10)), (3, 1, (.tmp 14))], none, []⟩,
    ⟨none, .sto (.tmp 2) (.tmp 15) 4, none, []⟩] [2]
def m_spec_l8Copy_3 : Unit → MCode := fun _ => .seq m_spec_l8Copy_2 (fun _ => .ret)
def m_spec_l8Copy_4 : Unit → MCode := fun _ => .seq m_spec_l8Copy_1 m_spec_l8Copy_3
def m_spec_l8Copy : MCode := m_spec_l8Copy_4 ()
def h_spec_l8Copy : Hints := [(0, [1, 2], [], [], []), (1, [2], [[], [], [0, 1], [0, 1], [], [0, 1, 2, 3, 4], [0, 1, 2, 3, 4], [1000000, 0, 1, 2, 3], [], [0, 1, 2, 3, 4, 5, 6, 7, 8], [0, 1, 2, 3, 4, 5, 6, 7, 8], [1000000, 0, 1, 2, 3]], [], [])]
def r_spec_l8Copy : List RV := [.c 2 4 true]
abbrev n_spec_l8Copy : Nat := 133
theorem k_spec_l8Copy : Known Pr mu n_spec_l8Copy m_spec_l8Copy r_spec_l8Copy Go.Proofs.Try.f133.ntmps := .of h_spec_l8Copy hm Go.Proofs.Try.func133 (by kernel_rfl) (by kernel_rfl) (by kernel_rfl) (by kernel_rfl)
def m_impl_configCopy_1 : Unit → MCode := fun _ => .region [] [⟨(some 1), .box (.tmp 0), none, []⟩,
    ⟨(some 2), .alloc [.int .i64 0, .int .i64 0, .slice none 0 0, .slice none 0 0], none, []⟩] [1, 2]
def m_impl_configCopy_2 : Unit → MCode := fun _ => .region [] [⟨(some 3), .fa (.tmp 1) 0, none, []⟩,
    ⟨(some 4), .ld (.tmp 3) 1 false, none, []⟩,
    ⟨(some 5), .fa (.tmp 1) 1, none, [0, 1]⟩,
    ⟨(some 6), .ld (.tmp 5) 1 false, none, [0, 1]⟩,
    ⟨(some 7), .bsl 1 0 [.int .i64 0] [], none, []⟩,
    ⟨(some 8), .fa (.tmp 1) 2, none, [0, 1, 2, 3, 4]⟩,
    ⟨(some 9), .ld (.tmp 8) 1 false, none, [0, 1, 2, 3, 4]⟩,
    ⟨(some 10), .appn (.tmp 7) (.tmp 9) 1 8, none, [1000000, 0, 1, 2, 3]⟩,
    ⟨(some 11), .bsl 1 0 [.int .i64 0] [], none, []⟩,
    ⟨(some 12), .fa (.tmp 1) 3, none, [0, 1, 2, 3, 4, 5, 6, 7, 8]⟩,
    ⟨(some 13), .ld (.tmp 12) 1 false, none, [0, 1, 2, 3, 4, 5, 6, 7, 8]⟩,
    ⟨(some 14), .appn (.tmp 11) (.tmp 13) 1 8, none, [1000000, 0, 1, 2, 3]⟩,
    ⟨(some 15), .bld [.int .i64 0, .int .i64 0, .slice none 0 0, .slice none 0 0] [(0, 1, (.tmp 4)), (1, 1, (.tmp 6)), (2, 1, (.tmp 10)), (3, 1, (.tmp 14))], none, []⟩,
    ⟨none, .sto (.tmp 2) (.tmp 15) 4, none, []⟩] [2]
def m_impl_configCopy_3 : Unit → MCode := fun _ => .seq m_impl_configCopy_2 (fun _ => .ret)
def m_impl_configCopy_4 : Unit → MCode := fun _ => .seq m_impl_configCopy_1 m_impl_configCopy_3
def m_impl_configCopy : MCode := m_impl_configCopy_4 ()
def h_impl_configCopy : Hints := [(0, [1, 2], [], [], []), (1, [2], [[], [], [0, 1], [0, 1], [], [0, 1, 2, 3, 4], [0, 1, 2, 3, 4], [1000000, 0, 1, 2, 3], [], [0, 1, 2, 3, 4, 5, 6, 7, 8], [0, 1, 2, 3, 4, 5, 6, 7, 8], [1000000, 0, 1, 2, 3]], [], [])]
def r_impl_configCopy : List RV := [.c 2 4 true]
abbrev n_impl_configCopy : Nat := 134
theorem k_impl_configCopy : Known Pr mu n_impl_configCopy m_impl_configCopy r_impl_configCopy Go.Proofs.Try.f134.ntmps := .of h_impl_configCopy hm Go.Proofs.Try.func134 (by kernel_rfl) (by kernel_rfl) (by kernel_rfl) (by kernel_rfl)
def m_laws_toOp_1 : Unit → MCode := fun _ => .region [] [⟨(some 1), .box (.tmp 0), none, []⟩,
    ⟨(some 2), .alloc [.int .i64 0, .int .i64 0, .int .i64 0, .int .i64 0, .int .i64 0, .int .i64 0], none, []⟩] [1, 2]
def m_laws_toOp_2 : Unit → MCode := fun _ => .region [] [⟨(some 3), .alloc [.int .i64 0, .int .i64 0, .int .i64 0, .int .i64 0, .int .i64 0, .int .i64 0], none, []⟩] [1, 2, 3]
def m_laws_toOp_3 : Unit → MCode := fun _ => .region [] [⟨(some 4), .fa (.tmp 1) 0, none, []⟩,
    ⟨(some 5), .ld (.tmp 4) 1 false, none, []⟩,
    ⟨(some 6), .fa (.tmp 3) 0, none, []⟩,
    ⟨none, .sto (.tmp 6) (.tmp 5) 1, none, []⟩] [1, 2, 3]
def m_laws_toOp_4 : Unit → MCode := fun _ => .region [] [⟨(some 7), .fa (.tmp 1) 1, none, []⟩,
    ⟨(some 8), .ld (.tmp 7) 1 false, none, []⟩,
    ⟨(some 9), .fa (.tmp 3) 1, none, []⟩,
    ⟨none, .sto (.tmp 9) (.tmp 8) 1, none, []⟩] [1, 2, 3]
def m_laws_toOp_5 : Unit → MCode := fun _ => .region [] [⟨(some 10), .fa (.tmp 1) 2, none, []⟩,
    ⟨(some 11), .ld (.tmp 10) 1 false, none, []⟩,
    ⟨(some 12), .fa (.tmp 3) 2, none, []⟩,
    ⟨none, .sto (.tmp 12) (.tmp 11) 1, none, []⟩] [1, 2, 3]
def m_laws_toOp_6 : Unit → MCode := fun _ => .region [] [⟨(some 13), .fa (.tmp 1) 3, none, []⟩,
    ⟨(some 14), .ld (.tmp 13) 1 false, none, []⟩,
    ⟨(some 15), .fa (.tmp 3) 3, none, []⟩,
    ⟨none, .sto (.tmp 15) (.tmp 14) 1, none, []⟩] [1, 2, 3]
def m_laws_toOp_7 : Unit → MCode := fun _ => .region [] [⟨(some 16), .fa (.tmp 1) 4, none, []⟩,
    ⟨(some 17), .ld (.tmp 16) 1 false, none, []⟩,
    ⟨(some 18), .fa (.tmp 3) 4, none, []⟩,
    ⟨none, .sto (.tmp 18) (.tmp 17) 1, none, []⟩] [1, 2, 3]
def m_laws_toOp_8 : Unit → MCode := fun _ => .region [] [⟨(some 19), .fa (.tmp 1) 5, none, []⟩,
    ⟨(some 20), .ld (.tmp 19) 1 false, none, []⟩,
    ⟨(some 21), .fa (.tmp 3) 5, none, []⟩,
    ⟨none, .sto (.tmp 21) (.tmp 20) 1, none, []⟩] [2, 3]
def m_laws_toOp_9 : Unit → MCode := fun _ => .region [] [⟨(some 22), .ld (.tmp 3) 6 true, none, []⟩,
    ⟨none, .sto (.tmp 2) (.tmp 22) 6, none, []⟩] [2]
def m_laws_toOp_10 : Unit → MCode := fun _ => .seq m_laws_toOp_9 (fun _ => .ret)
def m_laws_toOp_11 : Unit → MCode := fun _ => .seq m_laws_toOp_8 m_laws_toOp_10
def m_laws_toOp_12 : Unit → MCode := fun _ => .seq m_laws_toOp_7 m_laws_toOp_11
def m_laws_toOp_13 : Unit → MCode := fun _ => .seq m_laws_toOp_6 m_laws_toOp_12
def m_laws_toOp_14 : Unit → MCode := fun _ => .seq m_laws_toOp_5 m_laws_toOp_13
def m_laws_toOp_15 : Unit → MCode := fun _ => .seq m_laws_toOp_4 m_laws_toOp_14
def m_laws_toOp_16 : Unit → MCode := fun _ => .seq m_laws_toOp_3 m_laws_toOp_15
def m_laws_toOp_17 : Unit → MCode := fun _ => .seq m_laws_toOp_2 m_laws_toOp_16
def m_laws_toOp_18 : Unit → MCode := fun _ => .seq m_laws_toOp_1 m_laws_toOp_17
def m_laws_toOp : MCode := m_laws_toOp_18 ()
def h_laws_toOp : Hints := [(0, [1, 2], [], [], []), (1, [1, 2, 3], [], [], []), (2, [1, 2, 3], [], [], []), (3, [1, 2, 3], [], [], []), (4, [1, 2, 3], [], [], []), (5, [1, 2, 3], [], [], []), (6, [1, 2, 3], [], [], []), (7, [2, 3], [], [], []), (8, [2], [], [], [])]
def r_laws_toOp : List RV := [.c 2 6 true]
abbrev n_laws_toOp : Nat := 145
theorem k_laws_toOp : Known Pr mu n_laws_toOp m_laws_toOp r_laws_toOp Go.Proofs.Try.f145.ntmps := .of h_laws_toOp hm Go.Proofs.Try.func145 (by kernel_rfl) (by kernel_rfl) (by kernel_rfl) (by kernel_rfl)
end Go.V.T
