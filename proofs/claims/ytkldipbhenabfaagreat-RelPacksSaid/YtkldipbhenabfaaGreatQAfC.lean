/- The abstract code of functions, printed by program; that it is the translation of the model's code is decided by the kernel. -/
import Derived.Test.YtkldipbhenabfaaGreatQEv
import Derived.Test.YtkldipbhenabfaaGreatProg
import Derived.KernelRfl
namespace Go.Proofs.YtkldipbhenabfaaGreat.Abs
open Go Go.Proofs Go.Proofs.YtkldipbhenabfaaGreat
def a21_0 : AC := .reg [⟨(some 1), (.box (.t 0)), none, 0, false, []⟩,
    ⟨(some 2), (.mv (.c (.bool false))), none, 0, false, []⟩] false
def a21_1 : AC := .reg [⟨(some 4), (.fad 0 (.t 1)), none, 0, false, []⟩,
    ⟨(some 5), (.load false 1 (.t 4)), none, 0, false, []⟩,
    ⟨(some 6), (.bin 0 .lss (.t 5) (.c (.int .i64 1))), none, 0, false, []⟩,
    ⟨(some 7), (.mv (.t 6)), none, 0, false, []⟩,
    ⟨(some 8), (.fad 0 (.t 1)), (some (7, false)), 0, false, []⟩,
    ⟨(some 9), (.load false 1 (.t 8)), (some (7, false)), 0, false, []⟩,
    ⟨(some 10), (.bin 0 .gtr (.t 9) (.c (.int .i64 12))), (some (7, false)), 0, false, []⟩,
    ⟨(some 11), (.pick (.t 7) (.c (.bool true)) (.t 10)), none, 0, false, []⟩,
    ⟨(some 12), (.mv (.t 11)), none, 0, false, []⟩,
    ⟨(some 13), (.load true 5 (.t 1)), (some (12, false)), 0, false, []⟩,
    ⟨(some 14), (.call 59 [(.t 13)]), (some (12, false)), 0, false, []⟩,
    ⟨(some 15), (.un .not (.t 14)), (some (12, false)), 0, false, []⟩,
    ⟨(some 16), (.pick (.t 12) (.c (.bool true)) (.t 15)), none, 0, false, []⟩] false
def a21_2 : AC := .reg [⟨(some 2), (.mv (.c (.bool false))), none, 0, false, []⟩] false
def a21_3 : AC := .seq a21_2 .ret
def a21_4 : AC := .cond (.t 16) a21_3 .skip
def a21_5 : AC := .seq a21_1 a21_4
def a21_6 : AC := .reg [⟨(some 3), (.mv (.c (.int .i64 0))), none, 0, false, []⟩] false
def a21_7 : AC := .reg [⟨(some 17), (.mv (.t 3)), none, 0, false, []⟩,
    ⟨(some 18), (.fad 4 (.t 1)), none, 0, false, []⟩,
    ⟨(some 19), (.load false 1 (.t 18)), none, 0, false, []⟩,
    ⟨(some 20), (.len false (.t 19)), none, 0, false, []⟩,
    ⟨(some 21), (.bin 0 .lss (.t 17) (.t 20)), none, 0, false, []⟩] false
def a21_8 : AC := .cond (.t 21) .skip (.exit 0)
def a21_9 : AC := .seq a21_7 a21_8
def a21_10 : AC := .reg [⟨(some 24), (.fad 0 (.t 1)), none, 0, false, []⟩,
    ⟨(some 25), (.load false 1 (.t 24)), none, 0, false, []⟩,
    ⟨(some 26), (.bin 0 .eql (.t 25) (.c (.int .i64 12))), none, 0, false, []⟩,
    ⟨(some 27), (.mv (.t 26)), none, 0, false, []⟩,
    ⟨(some 28), (.mv (.t 3)), (some (27, true)), 0, false, []⟩,
    ⟨(some 29), (.bin 0 .eql (.t 28) (.c (.int .i64 2))), (some (27, true)), 0, false, []⟩,
    ⟨(some 30), (.pick (.t 27) (.t 29) (.c (.bool false))), none, 0, false, []⟩] false
def a21_11 : AC := .reg [⟨(some 31), (.fad 4 (.t 1)), none, 0, false, []⟩,
    ⟨(some 32), (.load false 1 (.t 31)), none, 0, false, []⟩,
    ⟨(some 33), (.mv (.t 3)), none, 0, false, []⟩,
    ⟨(some 34), (.iad 5 (.t 32) (.t 33)), none, 0, false, []⟩,
    ⟨(some 35), (.load true 5 (.t 34)), none, 0, false, []⟩,
    ⟨(some 36), (.call 60 [(.t 35)]), none, 0, false, []⟩,
    ⟨(some 37), (.un .not (.t 36)), none, 0, false, []⟩] false
def a21_12 : AC := .reg [⟨(some 2), (.mv (.c (.bool false))), none, 0, false, []⟩] false
def a21_13 : AC := .seq a21_12 .ret
def a21_14 : AC := .cond (.t 37) a21_13 .skip
def a21_15 : AC := .seq a21_11 a21_14
def a21_16 : AC := .reg [⟨(some 38), (.fad 4 (.t 1)), none, 0, false, []⟩,
    ⟨(some 39), (.load false 1 (.t 38)), none, 0, false, []⟩,
    ⟨(some 40), (.mv (.t 3)), none, 0, false, []⟩,
    ⟨(some 41), (.iad 5 (.t 39) (.t 40)), none, 0, false, []⟩,
    ⟨(some 42), (.load true 5 (.t 41)), none, 0, false, []⟩,
    ⟨(some 43), (.call 21 [(.t 42)]), none, 0, false, []⟩,
    ⟨(some 44), (.un .not (.t 43)), none, 0, false, []⟩] false
def a21_17 : AC := .reg [⟨(some 2), (.mv (.c (.bool false))), none, 0, false, []⟩] false
def a21_18 : AC := .seq a21_17 .ret
def a21_19 : AC := .cond (.t 44) a21_18 .skip
def a21_20 : AC := .seq a21_16 a21_19
def a21_21 : AC := .cond (.t 30) a21_15 a21_20
def a21_22 : AC := .seq a21_10 a21_21
def a21_23 : AC := .blk 1 a21_22
def a21_24 : AC := .reg [⟨(some 22), (.mv (.t 3)), none, 0, false, []⟩,
    ⟨(some 23), (.bin 0 .add (.t 22) (.c (.int .i64 1))), none, 0, false, []⟩,
    ⟨(some 3), (.mv (.t 23)), none, 0, false, []⟩] false
def a21_25 : AC := .seq a21_23 a21_24
def a21_26 : AC := .seq a21_9 a21_25
def a21_27 : AC := .loop a21_26
def a21_28 : AC := .blk 0 a21_27
def a21_29 : AC := .seq a21_6 a21_28
def a21_30 : AC := .reg [⟨(some 2), (.mv (.c (.bool true))), none, 0, false, []⟩] false
def a21_31 : AC := .seq a21_30 .ret
def a21_32 : AC := .seq a21_29 a21_31
def a21_33 : AC := .seq a21_5 a21_32
def a21_34 : AC := .seq a21_0 a21_33
def af21 : AF := { ntmps := 45, res := [(.t 2)], body := a21_34 }
theorem tr21 : trF Tryz.prog Tryz.f21 = some af21 := by kernel_rfl
attribute [go_sem] af21 a21_0 a21_1 a21_2 a21_3 a21_4 a21_5 a21_6 a21_7 a21_8 a21_9 a21_10 a21_11 a21_12 a21_13 a21_14 a21_15 a21_16 a21_17 a21_18 a21_19 a21_20 a21_21 a21_22 a21_23 a21_24 a21_25 a21_26 a21_27 a21_28 a21_29 a21_30 a21_31 a21_32 a21_33 a21_34
def a105_0 : AC := .reg [⟨(some 1), (.box (.t 0)), none, 0, false, []⟩,
    ⟨(some 2), (.mv (.c (.bool false))), none, 0, false, []⟩] false
def a105_1 : AC := .reg [⟨(some 3), (.load true 5 (.t 1)), none, 0, false, []⟩,
    ⟨(some 4), (.call 21 [(.t 3)]), none, 0, false, []⟩,
    ⟨(some 5), (.mv (.t 4)), none, 0, false, []⟩,
    ⟨(some 6), (.load true 5 (.t 1)), (some (5, false)), 0, false, []⟩,
    ⟨(some 7), (.call 60 [(.t 6)]), (some (5, false)), 0, false, []⟩,
    ⟨(some 8), (.pick (.t 5) (.c (.bool true)) (.t 7)), none, 0, false, []⟩,
    ⟨(some 2), (.mv (.t 8)), none, 0, false, []⟩] false
def a105_2 : AC := .seq a105_1 .ret
def a105_3 : AC := .seq a105_0 a105_2
def af105 : AF := { ntmps := 9, res := [(.t 2)], body := a105_3 }
theorem tr105 : trF Tryz.prog Tryz.f105 = some af105 := by kernel_rfl
attribute [go_sem] af105 a105_0 a105_1 a105_2 a105_3
def a109_0 : AC := .reg [⟨(some 3), (.box (.t 0)), none, 0, false, []⟩,
    ⟨(some 6), (.new [(.int .i64 0), (.int .i64 0), (.int .i64 0), (.int .i64 0), .nils]), none, 0, false, []⟩,
    ⟨(some 7), (.mv (.c (.bool false))), none, 0, false, []⟩] false
def a109_1 : AC := .reg [⟨(some 14), (.fad 0 (.t 3)), none, 0, false, []⟩,
    ⟨(some 15), (.load false 1 (.t 14)), none, 0, false, []⟩,
    ⟨(some 16), (.fad 1 (.t 3)), none, 0, false, []⟩,
    ⟨(some 17), (.load false 1 (.t 16)), none, 0, false, []⟩,
    ⟨(some 18), (.fad 2 (.t 3)), none, 0, false, []⟩,
    ⟨(some 19), (.load false 1 (.t 18)), none, 0, false, []⟩,
    ⟨(some 20), (.fad 3 (.t 3)), none, 0, false, []⟩,
    ⟨(some 21), (.load false 1 (.t 20)), none, 0, false, []⟩,
    ⟨(some 22), (.build [(.int .i64 0), (.int .i64 0), (.int .i64 0), (.int .i64 0), .nils] [(0, (1, (.t 15))), (1, (1, (.t 17))), (2, (1, (.t 19))), (3, (1, (.t 21)))]), none, 0, false, []⟩,
    ⟨(some 8), (.new [(.int .i64 0), (.int .i64 0), (.int .i64 0), (.int .i64 0), .nils]), none, 0, false, []⟩,
    ⟨none, (.store 5 (.t 8) (.t 22)), none, 0, false, []⟩] false
def a109_2 : AC := .reg [⟨(some 23), (.fad 0 (.t 3)), none, 0, false, []⟩,
    ⟨(some 24), (.load false 1 (.t 23)), none, 0, false, []⟩,
    ⟨(some 25), (.bin 0 .eql (.t 24) (.c (.int .i64 2))), none, 0, false, []⟩,
    ⟨(some 26), (.mv (.t 25)), none, 0, false, []⟩,
    ⟨(some 27), (.fad 1 (.t 3)), (some (26, true)), 0, false, []⟩,
    ⟨(some 28), (.load false 1 (.t 27)), (some (26, true)), 0, false, []⟩,
    ⟨(some 29), (.mv (.t 2)), (some (26, true)), 0, false, []⟩,
    ⟨(some 30), (.bin 0 .geq (.t 28) (.t 29)), (some (26, true)), 0, false, []⟩,
    ⟨(some 31), (.pick (.t 26) (.t 30) (.c (.bool false))), none, 0, false, []⟩] false
def a109_3 : AC := .reg [⟨(some 32), (.mv (.t 1)), none, 0, false, []⟩,
    ⟨(some 33), (.fad 1 (.t 3)), none, 0, false, []⟩,
    ⟨(some 34), (.load false 1 (.t 33)), none, 0, false, []⟩,
    ⟨(some 35), (.bin 0 .sub (.c (.int .i64 2147483647)) (.t 34)), none, 0, false, []⟩,
    ⟨(some 36), (.bin 0 .gtr (.t 32) (.t 35)), none, 0, false, []⟩] false
def a109_4 : AC := .reg [⟨(some 37), (.build [(.int .i64 0), (.int .i64 0), (.int .i64 0), (.int .i64 0), .nils] []), none, 0, false, []⟩,
    ⟨none, (.store 5 (.t 6) (.t 37)), none, 0, false, []⟩,
    ⟨(some 7), (.mv (.c (.bool false))), none, 0, false, []⟩] false
def a109_5 : AC := .seq a109_4 .ret
def a109_6 : AC := .cond (.t 36) a109_5 .skip
def a109_7 : AC := .seq a109_3 a109_6
def a109_8 : AC := .reg [⟨(some 38), (.fad 1 (.t 3)), none, 0, false, []⟩,
    ⟨(some 39), (.load false 1 (.t 38)), none, 0, false, []⟩,
    ⟨(some 40), (.mv (.t 1)), none, 0, false, []⟩,
    ⟨(some 41), (.bin 0 .add (.t 39) (.t 40)), none, 0, false, []⟩,
    ⟨(some 42), (.fad 1 (.t 8)), none, 0, false, []⟩,
    ⟨none, (.store 1 (.t 42) (.t 41)), none, 0, false, []⟩] false
def a109_9 : AC := .seq a109_7 a109_8
def a109_10 : AC := .cond (.t 31) a109_9 .skip
def a109_11 : AC := .seq a109_2 a109_10
def a109_12 : AC := .reg [⟨(some 9), (.mv (.c .nils)), none, 0, false, []⟩] false
def a109_13 : AC := .reg [⟨(some 10), (.mv (.c (.int .i64 0))), none, 0, false, []⟩] false
def a109_14 : AC := .reg [⟨(some 43), (.mv (.t 10)), none, 0, false, []⟩,
    ⟨(some 44), (.fad 4 (.t 3)), none, 0, false, []⟩,
    ⟨(some 45), (.load false 1 (.t 44)), none, 0, false, []⟩,
    ⟨(some 46), (.len false (.t 45)), none, 0, false, []⟩,
    ⟨(some 47), (.bin 0 .lss (.t 43) (.t 46)), none, 0, false, []⟩] false
def a109_15 : AC := .cond (.t 47) .skip (.exit 0)
def a109_16 : AC := .seq a109_14 a109_15
def a109_17 : AC := .reg [⟨(some 50), (.fad 0 (.t 3)), none, 0, false, []⟩,
    ⟨(some 51), (.load false 1 (.t 50)), none, 0, false, []⟩,
    ⟨(some 52), (.mv (.t 10)), none, 0, false, []⟩,
    ⟨(some 53), (.call 125 [(.t 51), (.t 52)]), none, 0, false, []⟩,
    ⟨(some 11), (.mv (.t 53)), none, 0, false, []⟩] false
def a109_18 : AC := .reg [⟨(some 54), (.mv (.t 2)), none, 0, false, []⟩,
    ⟨(some 55), (.bin 0 .gtr (.t 54) (.c (.int .i64 4611686018427387904))), none, 0, false, []⟩] false
def a109_19 : AC := .reg [⟨(some 11), (.mv (.c (.int .i64 0))), none, 0, false, []⟩] false
def a109_20 : AC := .cond (.t 55) a109_19 .skip
def a109_21 : AC := .seq a109_18 a109_20
def a109_22 : AC := .reg [⟨(some 57), (.fad 4 (.t 3)), none, 0, false, []⟩,
    ⟨(some 58), (.load false 1 (.t 57)), none, 0, false, []⟩,
    ⟨(some 59), (.mv (.t 10)), none, 0, false, []⟩,
    ⟨(some 60), (.iad 5 (.t 58) (.t 59)), none, 0, false, []⟩,
    ⟨(some 61), (.load true 5 (.t 60)), none, 0, false, []⟩,
    ⟨(some 62), (.mv (.t 1)), none, 0, false, []⟩,
    ⟨(some 63), (.mv (.t 2)), none, 0, false, []⟩,
    ⟨(some 64), (.mv (.t 11)), none, 0, false, []⟩,
    ⟨(some 65), (.bin 0 .add (.t 63) (.t 64)), none, 0, false, []⟩,
    ⟨(some 66), (.call 109 [(.t 61), (.t 62), (.t 65)]), none, 0, false, []⟩,
    ⟨(some 56), (.mv (.t 66)), none, 0, false, []⟩,
    ⟨(some 67), (.ext (.t 56) 0), none, 0, false, []⟩,
    ⟨(some 68), (.ext (.t 56) 1), none, 0, false, []⟩,
    ⟨(some 12), (.new [(.int .i64 0), (.int .i64 0), (.int .i64 0), (.int .i64 0), .nils]), none, 0, false, []⟩,
    ⟨none, (.store 5 (.t 12) (.t 67)), none, 0, false, []⟩,
    ⟨(some 13), (.mv (.t 68)), none, 0, false, []⟩] false
def a109_23 : AC := .reg [⟨(some 69), (.mv (.t 13)), none, 0, false, []⟩,
    ⟨(some 70), (.un .not (.t 69)), none, 0, false, []⟩] false
def a109_24 : AC := .reg [⟨(some 71), (.build [(.int .i64 0), (.int .i64 0), (.int .i64 0), (.int .i64 0), .nils] []), none, 0, false, []⟩,
    ⟨none, (.store 5 (.t 6) (.t 71)), none, 0, false, []⟩,
    ⟨(some 7), (.mv (.c (.bool false))), none, 0, false, []⟩] false
def a109_25 : AC := .seq a109_24 .ret
def a109_26 : AC := .cond (.t 70) a109_25 .skip
def a109_27 : AC := .seq a109_23 a109_26
def a109_28 : AC := .reg [⟨(some 72), (.mv (.t 9)), none, 0, false, []⟩,
    ⟨(some 73), (.load true 5 (.t 12)), none, 0, false, []⟩,
    ⟨(some 74), (.bslice 5 [(.t 73)]), none, 0, false, []⟩,
    ⟨(some 75), (.app 5 56 (.t 72) (.t 74)), none, 0, false, []⟩,
    ⟨(some 9), (.mv (.t 75)), none, 0, false, []⟩] false
def a109_29 : AC := .seq a109_27 a109_28
def a109_30 : AC := .seq a109_22 a109_29
def a109_31 : AC := .seq a109_21 a109_30
def a109_32 : AC := .seq a109_17 a109_31
def a109_33 : AC := .blk 1 a109_32
def a109_34 : AC := .reg [⟨(some 48), (.mv (.t 10)), none, 0, false, []⟩,
    ⟨(some 49), (.bin 0 .add (.t 48) (.c (.int .i64 1))), none, 0, false, []⟩,
    ⟨(some 10), (.mv (.t 49)), none, 0, false, []⟩] false
def a109_35 : AC := .seq a109_33 a109_34
def a109_36 : AC := .seq a109_16 a109_35
def a109_37 : AC := .loop a109_36
def a109_38 : AC := .blk 0 a109_37
def a109_39 : AC := .seq a109_13 a109_38
def a109_40 : AC := .reg [⟨(some 76), (.mv (.t 9)), none, 0, false, []⟩,
    ⟨(some 77), (.fad 4 (.t 8)), none, 0, false, []⟩,
    ⟨none, (.store 1 (.t 77) (.t 76)), none, 0, false, []⟩] false
def a109_41 : AC := .reg [⟨(some 78), (.load true 5 (.t 8)), none, 0, false, []⟩,
    ⟨none, (.store 5 (.t 6) (.t 78)), none, 0, false, []⟩,
    ⟨(some 7), (.mv (.c (.bool true))), none, 0, false, []⟩] false
def a109_42 : AC := .seq a109_41 .ret
def a109_43 : AC := .seq a109_40 a109_42
def a109_44 : AC := .seq a109_39 a109_43
def a109_45 : AC := .seq a109_12 a109_44
def a109_46 : AC := .seq a109_11 a109_45
def a109_47 : AC := .seq a109_1 a109_46
def a109_48 : AC := .seq a109_0 a109_47
def af109 : AF := { ntmps := 79, res := [(.cell 6 true 5), (.t 7)], body := a109_48 }
theorem tr109 : trF Tryz.prog Tryz.f109 = some af109 := by kernel_rfl
attribute [go_sem] af109 a109_0 a109_1 a109_2 a109_3 a109_4 a109_5 a109_6 a109_7 a109_8 a109_9 a109_10 a109_11 a109_12 a109_13 a109_14 a109_15 a109_16 a109_17 a109_18 a109_19 a109_20 a109_21 a109_22 a109_23 a109_24 a109_25 a109_26 a109_27 a109_28 a109_29 a109_30 a109_31 a109_32 a109_33 a109_34 a109_35 a109_36 a109_37 a109_38 a109_39 a109_40 a109_41 a109_42 a109_43 a109_44 a109_45 a109_46 a109_47 a109_48
def a77_0 : AC := .reg [⟨(some 3), (.box (.t 0)), none, 0, false, []⟩,
    ⟨(some 6), (.new [(.int .i64 0), (.int .i64 0), (.int .i64 0), (.int .i64 0), .nils]), none, 0, false, []⟩] false
def a77_1 : AC := .reg [⟨(some 9), (.load true 5 (.t 3)), none, 0, false, []⟩,
    ⟨(some 10), (.call 105 [(.t 9)]), none, 0, false, []⟩,
    ⟨(some 11), (.un .not (.t 10)), none, 0, false, []⟩,
    ⟨(some 12), (.mv (.t 11)), none, 0, false, []⟩,
    ⟨(some 13), (.mv (.t 1)), (some (12, false)), 0, false, []⟩,
    ⟨(some 14), (.bin 0 .lss (.t 13) (.c (.int .i64 0))), (some (12, false)), 0, false, []⟩,
    ⟨(some 15), (.pick (.t 12) (.c (.bool true)) (.t 14)), none, 0, false, []⟩,
    ⟨(some 16), (.mv (.t 15)), none, 0, false, []⟩,
    ⟨(some 17), (.mv (.t 2)), (some (16, false)), 0, false, []⟩,
    ⟨(some 18), (.bin 0 .lss (.t 17) (.c (.int .i64 0))), (some (16, false)), 0, false, []⟩,
    ⟨(some 19), (.pick (.t 16) (.c (.bool true)) (.t 18)), none, 0, false, []⟩] false
def a77_2 : AC := .reg [⟨(some 20), (.build [(.int .i64 0), (.int .i64 0), (.int .i64 0), (.int .i64 0), .nils] []), none, 0, false, []⟩,
    ⟨none, (.store 5 (.t 6) (.t 20)), none, 0, false, []⟩] false
def a77_3 : AC := .seq a77_2 .ret
def a77_4 : AC := .cond (.t 19) a77_3 .skip
def a77_5 : AC := .seq a77_1 a77_4
def a77_6 : AC := .reg [⟨(some 22), (.load true 5 (.t 3)), none, 0, false, []⟩,
    ⟨(some 23), (.mv (.t 1)), none, 0, false, []⟩,
    ⟨(some 24), (.mv (.t 2)), none, 0, false, []⟩,
    ⟨(some 25), (.call 109 [(.t 22), (.t 23), (.t 24)]), none, 0, false, []⟩,
    ⟨(some 21), (.mv (.t 25)), none, 0, false, []⟩,
    ⟨(some 26), (.ext (.t 21) 0), none, 0, false, []⟩,
    ⟨(some 27), (.ext (.t 21) 1), none, 0, false, []⟩,
    ⟨(some 7), (.new [(.int .i64 0), (.int .i64 0), (.int .i64 0), (.int .i64 0), .nils]), none, 0, false, []⟩,
    ⟨none, (.store 5 (.t 7) (.t 26)), none, 0, false, []⟩,
    ⟨(some 8), (.mv (.t 27)), none, 0, false, []⟩] false
def a77_7 : AC := .reg [⟨(some 28), (.mv (.t 8)), none, 0, false, []⟩,
    ⟨(some 29), (.un .not (.t 28)), none, 0, false, []⟩] false
def a77_8 : AC := .reg [⟨(some 30), (.build [(.int .i64 0), (.int .i64 0), (.int .i64 0), (.int .i64 0), .nils] []), none, 0, false, []⟩,
    ⟨none, (.store 5 (.t 6) (.t 30)), none, 0, false, []⟩] false
def a77_9 : AC := .seq a77_8 .ret
def a77_10 : AC := .cond (.t 29) a77_9 .skip
def a77_11 : AC := .seq a77_7 a77_10
def a77_12 : AC := .reg [⟨(some 31), (.load true 5 (.t 7)), none, 0, false, []⟩,
    ⟨none, (.store 5 (.t 6) (.t 31)), none, 0, false, []⟩] false
def a77_13 : AC := .seq a77_12 .ret
def a77_14 : AC := .seq a77_11 a77_13
def a77_15 : AC := .seq a77_6 a77_14
def a77_16 : AC := .seq a77_5 a77_15
def a77_17 : AC := .seq a77_0 a77_16
def af77 : AF := { ntmps := 32, res := [(.cell 6 true 5)], body := a77_17 }
theorem tr77 : trF Tryz.prog Tryz.f77 = some af77 := by kernel_rfl
attribute [go_sem] af77 a77_0 a77_1 a77_2 a77_3 a77_4 a77_5 a77_6 a77_7 a77_8 a77_9 a77_10 a77_11 a77_12 a77_13 a77_14 a77_15 a77_16 a77_17
def a33_0 : AC := .reg [⟨(some 3), (.box (.t 0)), none, 0, false, []⟩,
    ⟨(some 6), (.new [(.int .i64 0), (.int .i64 0), (.int .i64 0), (.int .i64 0), .nils]), none, 0, false, []⟩,
    ⟨(some 7), (.mv (.c (.bool false))), none, 0, false, []⟩] false
def a33_1 : AC := .reg [⟨(some 13), (.fad 0 (.t 3)), none, 0, false, []⟩,
    ⟨(some 14), (.load false 1 (.t 13)), none, 0, false, []⟩,
    ⟨(some 15), (.bin 0 .eql (.t 14) (.c (.int .i64 2))), none, 0, false, []⟩,
    ⟨(some 16), (.mv (.t 15)), none, 0, false, []⟩,
    ⟨(some 17), (.fad 1 (.t 3)), (some (16, true)), 0, false, []⟩,
    ⟨(some 18), (.load false 1 (.t 17)), (some (16, true)), 0, false, []⟩,
    ⟨(some 19), (.mv (.t 2)), (some (16, true)), 0, false, []⟩,
    ⟨(some 20), (.bin 0 .geq (.t 18) (.t 19)), (some (16, true)), 0, false, []⟩,
    ⟨(some 21), (.pick (.t 16) (.t 20) (.c (.bool false))), none, 0, false, []⟩] false
def a33_2 : AC := .reg [⟨(some 22), (.mv (.t 1)), none, 0, false, []⟩,
    ⟨(some 23), (.fad 1 (.t 3)), none, 0, false, []⟩,
    ⟨(some 24), (.load false 1 (.t 23)), none, 0, false, []⟩,
    ⟨(some 25), (.bin 0 .sub (.c (.int .i64 2147483647)) (.t 24)), none, 0, false, []⟩,
    ⟨(some 26), (.bin 0 .gtr (.t 22) (.t 25)), none, 0, false, []⟩] false
def a33_3 : AC := .reg [⟨(some 27), (.build [(.int .i64 0), (.int .i64 0), (.int .i64 0), (.int .i64 0), .nils] []), none, 0, false, []⟩,
    ⟨none, (.store 5 (.t 6) (.t 27)), none, 0, false, []⟩,
    ⟨(some 7), (.mv (.c (.bool false))), none, 0, false, []⟩] false
def a33_4 : AC := .seq a33_3 .ret
def a33_5 : AC := .cond (.t 26) a33_4 .skip
def a33_6 : AC := .seq a33_2 a33_5
def a33_7 : AC := .reg [⟨(some 28), (.fad 1 (.t 3)), none, 0, false, []⟩,
    ⟨(some 29), (.load false 1 (.t 28)), none, 0, false, []⟩,
    ⟨(some 30), (.mv (.t 1)), none, 0, false, []⟩,
    ⟨(some 31), (.bin 0 .add (.t 29) (.t 30)), none, 0, false, []⟩,
    ⟨(some 32), (.fad 1 (.t 3)), none, 0, false, []⟩,
    ⟨none, (.store 1 (.t 32) (.t 31)), none, 0, false, []⟩] false
def a33_8 : AC := .seq a33_6 a33_7
def a33_9 : AC := .cond (.t 21) a33_8 .skip
def a33_10 : AC := .seq a33_1 a33_9
def a33_11 : AC := .reg [⟨(some 33), (.fad 4 (.t 3)), none, 0, false, []⟩,
    ⟨(some 34), (.load false 1 (.t 33)), none, 0, false, []⟩,
    ⟨(some 35), (.len false (.t 34)), none, 0, false, []⟩,
    ⟨(some 36), (.bin 0 .eql (.t 35) (.c (.int .i64 0))), none, 0, false, []⟩] false
def a33_12 : AC := .reg [⟨(some 37), (.fad 4 (.t 3)), none, 0, false, []⟩,
    ⟨none, (.store 1 (.t 37) (.c .nils)), none, 0, false, []⟩] false
def a33_13 : AC := .reg [⟨(some 38), (.load true 5 (.t 3)), none, 0, false, []⟩,
    ⟨none, (.store 5 (.t 6) (.t 38)), none, 0, false, []⟩,
    ⟨(some 7), (.mv (.c (.bool true))), none, 0, false, []⟩] false
def a33_14 : AC := .seq a33_13 .ret
def a33_15 : AC := .seq a33_12 a33_14
def a33_16 : AC := .cond (.t 36) a33_15 .skip
def a33_17 : AC := .seq a33_11 a33_16
def a33_18 : AC := .reg [⟨(some 39), (.fad 4 (.t 3)), none, 0, false, []⟩,
    ⟨(some 40), (.load false 1 (.t 39)), none, 0, false, []⟩,
    ⟨(some 41), (.len false (.t 40)), none, 0, false, []⟩,
    ⟨(some 42), (.mk 5 56 [(.int .i64 0), (.int .i64 0), (.int .i64 0), (.int .i64 0), .nils] (.t 41) (.t 41)), none, 0, false, []⟩,
    ⟨(some 8), (.mv (.t 42)), none, 0, false, []⟩] false
def a33_19 : AC := .reg [⟨(some 43), (.fad 4 (.t 3)), none, 0, false, []⟩,
    ⟨(some 44), (.load false 1 (.t 43)), none, 0, false, []⟩,
    ⟨(some 45), (.len false (.t 44)), none, 0, false, []⟩,
    ⟨(some 46), (.mv (.c (.int .i64 0))), none, 0, false, []⟩] false
def a33_20 : AC := .reg [⟨(some 47), (.bin 0 .lss (.t 46) (.t 45)), none, 0, false, []⟩] false
def a33_21 : AC := .cond (.t 47) .skip (.exit 0)
def a33_22 : AC := .reg [⟨(some 48), (.mv (.t 46)), none, 0, false, []⟩,
    ⟨(some 49), (.iad 5 (.t 44) (.t 46)), none, 0, false, []⟩,
    ⟨(some 50), (.load true 5 (.t 49)), none, 0, false, []⟩,
    ⟨(some 10), (.new [(.int .i64 0), (.int .i64 0), (.int .i64 0), (.int .i64 0), .nils]), none, 0, false, []⟩,
    ⟨(some 9), (.mv (.t 48)), none, 0, false, []⟩,
    ⟨none, (.store 5 (.t 10) (.t 50)), none, 0, false, []⟩] false
def a33_23 : AC := .reg [⟨(some 52), (.load true 5 (.t 10)), none, 0, true, []⟩,
    ⟨(some 53), (.mv (.t 1)), none, 1, false, []⟩,
    ⟨(some 54), (.mv (.t 2)), none, 2, false, []⟩,
    ⟨(some 55), (.fad 0 (.t 3)), none, 3, false, []⟩,
    ⟨(some 56), (.load false 1 (.t 55)), none, 4, true, []⟩,
    ⟨(some 57), (.mv (.t 9)), none, 5, false, []⟩,
    ⟨(some 58), (.call 71 [(.t 56), (.t 57)]), none, 6, true, [0]⟩,
    ⟨(some 59), (.bin 0 .add (.t 54) (.t 58)), none, 7, false, []⟩,
    ⟨(some 60), (.call 33 [(.t 52), (.t 53), (.t 59)]), none, 8, true, []⟩,
    ⟨(some 51), (.mv (.t 60)), none, 9, false, []⟩,
    ⟨(some 61), (.ext (.t 51) 0), none, 10, false, []⟩,
    ⟨(some 62), (.ext (.t 51) 1), none, 11, false, []⟩,
    ⟨(some 11), (.new [(.int .i64 0), (.int .i64 0), (.int .i64 0), (.int .i64 0), .nils]), none, 12, false, [0, 4, 6, 8]⟩,
    ⟨none, (.store 5 (.t 11) (.t 61)), none, 13, false, []⟩,
    ⟨(some 12), (.mv (.t 62)), none, 14, false, []⟩] true
def a33_24 : AC := .reg [⟨(some 63), (.mv (.t 12)), none, 0, false, []⟩,
    ⟨(some 64), (.un .not (.t 63)), none, 0, false, []⟩] false
def a33_25 : AC := .reg [⟨(some 65), (.build [(.int .i64 0), (.int .i64 0), (.int .i64 0), (.int .i64 0), .nils] []), none, 0, false, []⟩,
    ⟨none, (.store 5 (.t 6) (.t 65)), none, 0, false, []⟩,
    ⟨(some 7), (.mv (.c (.bool false))), none, 0, false, []⟩] false
def a33_26 : AC := .seq a33_25 .ret
def a33_27 : AC := .cond (.t 64) a33_26 .skip
def a33_28 : AC := .seq a33_24 a33_27
def a33_29 : AC := .reg [⟨(some 66), (.mv (.t 8)), none, 0, false, []⟩,
    ⟨(some 67), (.mv (.t 9)), none, 0, false, []⟩,
    ⟨(some 68), (.load true 5 (.t 11)), none, 0, false, []⟩,
    ⟨(some 69), (.iad 5 (.t 66) (.t 67)), none, 0, false, []⟩,
    ⟨none, (.store 5 (.t 69) (.t 68)), none, 0, false, []⟩] false
def a33_30 : AC := .seq a33_28 a33_29
def a33_31 : AC := .seq a33_23 a33_30
def a33_32 : AC := .seq a33_22 a33_31
def a33_33 : AC := .blk 1 a33_32
def a33_34 : AC := .reg [⟨(some 70), (.bin 0 .add (.t 46) (.c (.int .i64 1))), none, 0, false, []⟩,
    ⟨(some 46), (.mv (.t 70)), none, 0, false, []⟩] false
def a33_35 : AC := .seq a33_33 a33_34
def a33_36 : AC := .seq a33_21 a33_35
def a33_37 : AC := .seq a33_20 a33_36
def a33_38 : AC := .loop a33_37
def a33_39 : AC := .blk 0 a33_38
def a33_40 : AC := .seq a33_19 a33_39
def a33_41 : AC := .reg [⟨(some 71), (.mv (.t 8)), none, 0, false, []⟩,
    ⟨(some 72), (.fad 4 (.t 3)), none, 0, false, []⟩,
    ⟨none, (.store 1 (.t 72) (.t 71)), none, 0, false, []⟩] false
def a33_42 : AC := .reg [⟨(some 73), (.load true 5 (.t 3)), none, 0, false, []⟩,
    ⟨none, (.store 5 (.t 6) (.t 73)), none, 0, false, []⟩,
    ⟨(some 7), (.mv (.c (.bool true))), none, 0, false, []⟩] false
def a33_43 : AC := .seq a33_42 .ret
def a33_44 : AC := .seq a33_41 a33_43
def a33_45 : AC := .seq a33_40 a33_44
def a33_46 : AC := .seq a33_18 a33_45
def a33_47 : AC := .seq a33_17 a33_46
def a33_48 : AC := .seq a33_10 a33_47
def a33_49 : AC := .seq a33_0 a33_48
def af33 : AF := { ntmps := 74, res := [(.cell 6 true 5), (.t 7)], body := a33_49 }
theorem tr33 : trF Tryz.prog Tryz.f33 = some af33 := by kernel_rfl
attribute [go_sem] af33 a33_0 a33_1 a33_2 a33_3 a33_4 a33_5 a33_6 a33_7 a33_8 a33_9 a33_10 a33_11 a33_12 a33_13 a33_14 a33_15 a33_16 a33_17 a33_18 a33_19 a33_20 a33_21 a33_22 a33_23 a33_24 a33_25 a33_26 a33_27 a33_28 a33_29 a33_30 a33_31 a33_32 a33_33 a33_34 a33_35 a33_36 a33_37 a33_38 a33_39 a33_40 a33_41 a33_42 a33_43 a33_44 a33_45 a33_46 a33_47 a33_48 a33_49
def a82_0 : AC := .reg [⟨(some 3), (.box (.t 0)), none, 0, false, []⟩,
    ⟨(some 6), (.new [(.int .i64 0), (.int .i64 0), (.int .i64 0), (.int .i64 0), .nils]), none, 0, false, []⟩] false
def a82_1 : AC := .reg [⟨(some 9), (.mv (.t 1)), none, 0, false, []⟩,
    ⟨(some 10), (.bin 0 .lss (.t 9) (.c (.int .i64 0))), none, 0, false, []⟩,
    ⟨(some 11), (.mv (.t 10)), none, 0, false, []⟩,
    ⟨(some 12), (.mv (.t 2)), (some (11, false)), 0, false, []⟩,
    ⟨(some 13), (.bin 0 .lss (.t 12) (.c (.int .i64 0))), (some (11, false)), 0, false, []⟩,
    ⟨(some 14), (.pick (.t 11) (.c (.bool true)) (.t 13)), none, 0, false, []⟩,
    ⟨(some 15), (.mv (.t 14)), none, 0, false, []⟩,
    ⟨(some 16), (.load true 5 (.t 3)), (some (15, false)), 0, false, []⟩,
    ⟨(some 17), (.call 88 [(.t 16)]), (some (15, false)), 0, false, []⟩,
    ⟨(some 18), (.un .not (.t 17)), (some (15, false)), 0, false, []⟩,
    ⟨(some 19), (.pick (.t 15) (.c (.bool true)) (.t 18)), none, 0, false, []⟩] false
def a82_2 : AC := .reg [⟨(some 20), (.build [(.int .i64 0), (.int .i64 0), (.int .i64 0), (.int .i64 0), .nils] []), none, 0, false, []⟩,
    ⟨none, (.store 5 (.t 6) (.t 20)), none, 0, false, []⟩] false
def a82_3 : AC := .seq a82_2 .ret
def a82_4 : AC := .cond (.t 19) a82_3 .skip
def a82_5 : AC := .seq a82_1 a82_4
def a82_6 : AC := .reg [⟨(some 22), (.load true 5 (.t 3)), none, 0, false, []⟩,
    ⟨(some 23), (.mv (.t 1)), none, 0, false, []⟩,
    ⟨(some 24), (.mv (.t 2)), none, 0, false, []⟩,
    ⟨(some 25), (.mnx false (.t 24) (.c (.int .i64 2147483648))), none, 0, false, []⟩,
    ⟨(some 26), (.call 33 [(.t 22), (.t 23), (.t 25)]), none, 0, false, []⟩,
    ⟨(some 21), (.mv (.t 26)), none, 0, false, []⟩,
    ⟨(some 27), (.ext (.t 21) 0), none, 0, false, []⟩,
    ⟨(some 28), (.ext (.t 21) 1), none, 0, false, []⟩,
    ⟨(some 7), (.new [(.int .i64 0), (.int .i64 0), (.int .i64 0), (.int .i64 0), .nils]), none, 0, false, []⟩,
    ⟨none, (.store 5 (.t 7) (.t 27)), none, 0, false, []⟩,
    ⟨(some 8), (.mv (.t 28)), none, 0, false, []⟩] false
def a82_7 : AC := .reg [⟨(some 29), (.mv (.t 8)), none, 0, false, []⟩,
    ⟨(some 30), (.un .not (.t 29)), none, 0, false, []⟩] false
def a82_8 : AC := .reg [⟨(some 31), (.build [(.int .i64 0), (.int .i64 0), (.int .i64 0), (.int .i64 0), .nils] []), none, 0, false, []⟩,
    ⟨none, (.store 5 (.t 6) (.t 31)), none, 0, false, []⟩] false
def a82_9 : AC := .seq a82_8 .ret
def a82_10 : AC := .cond (.t 30) a82_9 .skip
def a82_11 : AC := .seq a82_7 a82_10
def a82_12 : AC := .reg [⟨(some 32), (.load true 5 (.t 7)), none, 0, false, []⟩,
    ⟨none, (.store 5 (.t 6) (.t 32)), none, 0, false, []⟩] false
def a82_13 : AC := .seq a82_12 .ret
def a82_14 : AC := .seq a82_11 a82_13
def a82_15 : AC := .seq a82_6 a82_14
def a82_16 : AC := .seq a82_5 a82_15
def a82_17 : AC := .seq a82_0 a82_16
def af82 : AF := { ntmps := 33, res := [(.cell 6 true 5)], body := a82_17 }
theorem tr82 : trF Tryz.prog Tryz.f82 = some af82 := by kernel_rfl
attribute [go_sem] af82 a82_0 a82_1 a82_2 a82_3 a82_4 a82_5 a82_6 a82_7 a82_8 a82_9 a82_10 a82_11 a82_12 a82_13 a82_14 a82_15 a82_16 a82_17
def a71_0 : AC := .reg [⟨(some 4), (.mv (.c (.int .i64 0))), none, 0, false, []⟩] false
def a71_1 : AC := .reg [⟨(some 5), (.mv (.t 0)), none, 0, false, []⟩] false
def a71_2 : AC := .reg [⟨(some 7), (.bin 0 .eql (.t 5) (.c (.int .i64 3))), none, 0, false, []⟩,
    ⟨(some 6), (.mv (.t 7)), none, 0, false, []⟩] false
def a71_3 : AC := .reg [⟨(some 8), (.bin 0 .eql (.t 5) (.c (.int .i64 5))), none, 0, false, []⟩,
    ⟨(some 6), (.mv (.t 8)), none, 0, false, []⟩] false
def a71_4 : AC := .reg [⟨(some 9), (.bin 0 .eql (.t 5) (.c (.int .i64 6))), none, 0, false, []⟩,
    ⟨(some 6), (.mv (.t 9)), none, 0, false, []⟩] false
def a71_5 : AC := .reg [⟨(some 10), (.bin 0 .eql (.t 5) (.c (.int .i64 7))), none, 0, false, []⟩,
    ⟨(some 6), (.mv (.t 10)), none, 0, false, []⟩] false
def a71_6 : AC := .reg [⟨(some 11), (.bin 0 .eql (.t 5) (.c (.int .i64 8))), none, 0, false, []⟩,
    ⟨(some 6), (.mv (.t 11)), none, 0, false, []⟩] false
def a71_7 : AC := .reg [⟨(some 12), (.bin 0 .eql (.t 5) (.c (.int .i64 9))), none, 0, false, []⟩,
    ⟨(some 6), (.mv (.t 12)), none, 0, false, []⟩] false
def a71_8 : AC := .reg [⟨(some 13), (.bin 0 .eql (.t 5) (.c (.int .i64 13))), none, 0, false, []⟩,
    ⟨(some 6), (.mv (.t 13)), none, 0, false, []⟩] false
def a71_9 : AC := .reg [⟨(some 14), (.bin 0 .eql (.t 5) (.c (.int .i64 14))), none, 0, false, []⟩,
    ⟨(some 6), (.mv (.t 14)), none, 0, false, []⟩] false
def a71_10 : AC := .reg [⟨(some 15), (.bin 0 .eql (.t 5) (.c (.int .i64 16))), none, 0, false, []⟩,
    ⟨(some 6), (.mv (.t 15)), none, 0, false, []⟩] false
def a71_11 : AC := .reg [⟨(some 16), (.bin 0 .eql (.t 5) (.c (.int .i64 17))), none, 0, false, []⟩,
    ⟨(some 6), (.mv (.t 16)), none, 0, false, []⟩] false
def a71_12 : AC := .cond (.t 6) .skip a71_11
def a71_13 : AC := .seq a71_10 a71_12
def a71_14 : AC := .cond (.t 6) .skip a71_13
def a71_15 : AC := .seq a71_9 a71_14
def a71_16 : AC := .cond (.t 6) .skip a71_15
def a71_17 : AC := .seq a71_8 a71_16
def a71_18 : AC := .cond (.t 6) .skip a71_17
def a71_19 : AC := .seq a71_7 a71_18
def a71_20 : AC := .cond (.t 6) .skip a71_19
def a71_21 : AC := .seq a71_6 a71_20
def a71_22 : AC := .cond (.t 6) .skip a71_21
def a71_23 : AC := .seq a71_5 a71_22
def a71_24 : AC := .cond (.t 6) .skip a71_23
def a71_25 : AC := .seq a71_4 a71_24
def a71_26 : AC := .cond (.t 6) .skip a71_25
def a71_27 : AC := .seq a71_3 a71_26
def a71_28 : AC := .cond (.t 6) .skip a71_27
def a71_29 : AC := .seq a71_2 a71_28
def a71_30 : AC := .reg [⟨(some 17), (.mv (.t 1)), none, 0, false, []⟩,
    ⟨(some 18), (.bin 0 .eql (.t 17) (.c (.int .i64 1))), none, 0, false, []⟩] false
def a71_31 : AC := .reg [⟨(some 4), (.mv (.c (.int .i64 1))), none, 0, false, []⟩] false
def a71_32 : AC := .seq a71_31 .ret
def a71_33 : AC := .cond (.t 18) a71_32 .skip
def a71_34 : AC := .seq a71_30 a71_33
def a71_35 : AC := .reg [⟨(some 20), (.bin 0 .eql (.t 5) (.c (.int .i64 4))), none, 0, false, []⟩,
    ⟨(some 19), (.mv (.t 20)), none, 0, false, []⟩] false
def a71_36 : AC := .reg [⟨(some 21), (.mv (.t 1)), none, 0, false, []⟩,
    ⟨(some 22), (.bin 0 .eql (.t 21) (.c (.int .i64 1))), none, 0, false, []⟩,
    ⟨(some 23), (.mv (.t 22)), none, 0, false, []⟩,
    ⟨(some 24), (.mv (.t 1)), (some (23, false)), 0, false, []⟩,
    ⟨(some 25), (.bin 0 .eql (.t 24) (.c (.int .i64 2))), (some (23, false)), 0, false, []⟩,
    ⟨(some 26), (.pick (.t 23) (.c (.bool true)) (.t 25)), none, 0, false, []⟩] false
def a71_37 : AC := .reg [⟨(some 4), (.mv (.c (.int .i64 1))), none, 0, false, []⟩] false
def a71_38 : AC := .seq a71_37 .ret
def a71_39 : AC := .cond (.t 26) a71_38 .skip
def a71_40 : AC := .seq a71_36 a71_39
def a71_41 : AC := .reg [⟨(some 28), (.bin 0 .eql (.t 5) (.c (.int .i64 22))), none, 0, false, []⟩,
    ⟨(some 27), (.mv (.t 28)), none, 0, false, []⟩] false
def a71_42 : AC := .reg [⟨(some 29), (.mv (.t 1)), none, 0, false, []⟩,
    ⟨(some 30), (.bin 0 .eql (.t 29) (.c (.int .i64 2))), none, 0, false, []⟩] false
def a71_43 : AC := .reg [⟨(some 4), (.mv (.c (.int .i64 2))), none, 0, false, []⟩] false
def a71_44 : AC := .seq a71_43 .ret
def a71_45 : AC := .cond (.t 30) a71_44 .skip
def a71_46 : AC := .seq a71_42 a71_45
def a71_47 : AC := .cond (.t 27) a71_46 .skip
def a71_48 : AC := .seq a71_41 a71_47
def a71_49 : AC := .cond (.t 19) a71_40 a71_48
def a71_50 : AC := .seq a71_35 a71_49
def a71_51 : AC := .cond (.t 6) a71_34 a71_50
def a71_52 : AC := .seq a71_29 a71_51
def a71_53 : AC := .blk 0 a71_52
def a71_54 : AC := .seq a71_1 a71_53
def a71_55 : AC := .reg [⟨(some 4), (.mv (.c (.int .i64 0))), none, 0, false, []⟩] false
def a71_56 : AC := .seq a71_55 .ret
def a71_57 : AC := .seq a71_54 a71_56
def a71_58 : AC := .seq a71_0 a71_57
def af71 : AF := { ntmps := 31, res := [(.t 4)], body := a71_58 }
theorem tr71 : trF Tryz.prog Tryz.f71 = some af71 := by kernel_rfl
attribute [go_sem] af71 a71_0 a71_1 a71_2 a71_3 a71_4 a71_5 a71_6 a71_7 a71_8 a71_9 a71_10 a71_11 a71_12 a71_13 a71_14 a71_15 a71_16 a71_17 a71_18 a71_19 a71_20 a71_21 a71_22 a71_23 a71_24 a71_25 a71_26 a71_27 a71_28 a71_29 a71_30 a71_31 a71_32 a71_33 a71_34 a71_35 a71_36 a71_37 a71_38 a71_39 a71_40 a71_41 a71_42 a71_43 a71_44 a71_45 a71_46 a71_47 a71_48 a71_49 a71_50 a71_51 a71_52 a71_53 a71_54 a71_55 a71_56 a71_57 a71_58
def a125_0 : AC := .reg [⟨(some 4), (.mv (.c (.int .i64 0))), none, 0, false, []⟩] false
def a125_1 : AC := .reg [⟨(some 5), (.mv (.t 0)), none, 0, false, []⟩] false
def a125_2 : AC := .reg [⟨(some 7), (.bin 0 .eql (.t 5) (.c (.int .i64 3))), none, 0, false, []⟩,
    ⟨(some 6), (.mv (.t 7)), none, 0, false, []⟩] false
def a125_3 : AC := .reg [⟨(some 8), (.bin 0 .eql (.t 5) (.c (.int .i64 5))), none, 0, false, []⟩,
    ⟨(some 6), (.mv (.t 8)), none, 0, false, []⟩] false
def a125_4 : AC := .reg [⟨(some 9), (.bin 0 .eql (.t 5) (.c (.int .i64 6))), none, 0, false, []⟩,
    ⟨(some 6), (.mv (.t 9)), none, 0, false, []⟩] false
def a125_5 : AC := .reg [⟨(some 10), (.bin 0 .eql (.t 5) (.c (.int .i64 7))), none, 0, false, []⟩,
    ⟨(some 6), (.mv (.t 10)), none, 0, false, []⟩] false
def a125_6 : AC := .reg [⟨(some 11), (.bin 0 .eql (.t 5) (.c (.int .i64 8))), none, 0, false, []⟩,
    ⟨(some 6), (.mv (.t 11)), none, 0, false, []⟩] false
def a125_7 : AC := .reg [⟨(some 12), (.bin 0 .eql (.t 5) (.c (.int .i64 9))), none, 0, false, []⟩,
    ⟨(some 6), (.mv (.t 12)), none, 0, false, []⟩] false
def a125_8 : AC := .reg [⟨(some 13), (.bin 0 .eql (.t 5) (.c (.int .i64 13))), none, 0, false, []⟩,
    ⟨(some 6), (.mv (.t 13)), none, 0, false, []⟩] false
def a125_9 : AC := .reg [⟨(some 14), (.bin 0 .eql (.t 5) (.c (.int .i64 14))), none, 0, false, []⟩,
    ⟨(some 6), (.mv (.t 14)), none, 0, false, []⟩] false
def a125_10 : AC := .reg [⟨(some 15), (.bin 0 .eql (.t 5) (.c (.int .i64 16))), none, 0, false, []⟩,
    ⟨(some 6), (.mv (.t 15)), none, 0, false, []⟩] false
def a125_11 : AC := .reg [⟨(some 16), (.bin 0 .eql (.t 5) (.c (.int .i64 17))), none, 0, false, []⟩,
    ⟨(some 6), (.mv (.t 16)), none, 0, false, []⟩] false
def a125_12 : AC := .cond (.t 6) .skip a125_11
def a125_13 : AC := .seq a125_10 a125_12
def a125_14 : AC := .cond (.t 6) .skip a125_13
def a125_15 : AC := .seq a125_9 a125_14
def a125_16 : AC := .cond (.t 6) .skip a125_15
def a125_17 : AC := .seq a125_8 a125_16
def a125_18 : AC := .cond (.t 6) .skip a125_17
def a125_19 : AC := .seq a125_7 a125_18
def a125_20 : AC := .cond (.t 6) .skip a125_19
def a125_21 : AC := .seq a125_6 a125_20
def a125_22 : AC := .cond (.t 6) .skip a125_21
def a125_23 : AC := .seq a125_5 a125_22
def a125_24 : AC := .cond (.t 6) .skip a125_23
def a125_25 : AC := .seq a125_4 a125_24
def a125_26 : AC := .cond (.t 6) .skip a125_25
def a125_27 : AC := .seq a125_3 a125_26
def a125_28 : AC := .cond (.t 6) .skip a125_27
def a125_29 : AC := .seq a125_2 a125_28
def a125_30 : AC := .reg [⟨(some 17), (.mv (.t 1)), none, 0, false, []⟩,
    ⟨(some 18), (.bin 0 .eql (.t 17) (.c (.int .i64 1))), none, 0, false, []⟩] false
def a125_31 : AC := .reg [⟨(some 4), (.mv (.c (.int .i64 1))), none, 0, false, []⟩] false
def a125_32 : AC := .seq a125_31 .ret
def a125_33 : AC := .cond (.t 18) a125_32 .skip
def a125_34 : AC := .seq a125_30 a125_33
def a125_35 : AC := .reg [⟨(some 20), (.bin 0 .eql (.t 5) (.c (.int .i64 4))), none, 0, false, []⟩,
    ⟨(some 19), (.mv (.t 20)), none, 0, false, []⟩] false
def a125_36 : AC := .reg [⟨(some 21), (.mv (.t 1)), none, 0, false, []⟩,
    ⟨(some 22), (.bin 0 .eql (.t 21) (.c (.int .i64 1))), none, 0, false, []⟩,
    ⟨(some 23), (.mv (.t 22)), none, 0, false, []⟩,
    ⟨(some 24), (.mv (.t 1)), (some (23, false)), 0, false, []⟩,
    ⟨(some 25), (.bin 0 .eql (.t 24) (.c (.int .i64 2))), (some (23, false)), 0, false, []⟩,
    ⟨(some 26), (.pick (.t 23) (.c (.bool true)) (.t 25)), none, 0, false, []⟩] false
def a125_37 : AC := .reg [⟨(some 4), (.mv (.c (.int .i64 1))), none, 0, false, []⟩] false
def a125_38 : AC := .seq a125_37 .ret
def a125_39 : AC := .cond (.t 26) a125_38 .skip
def a125_40 : AC := .seq a125_36 a125_39
def a125_41 : AC := .reg [⟨(some 28), (.bin 0 .eql (.t 5) (.c (.int .i64 22))), none, 0, false, []⟩,
    ⟨(some 27), (.mv (.t 28)), none, 0, false, []⟩] false
def a125_42 : AC := .reg [⟨(some 29), (.mv (.t 1)), none, 0, false, []⟩,
    ⟨(some 30), (.bin 0 .eql (.t 29) (.c (.int .i64 2))), none, 0, false, []⟩] false
def a125_43 : AC := .reg [⟨(some 4), (.mv (.c (.int .i64 2))), none, 0, false, []⟩] false
def a125_44 : AC := .seq a125_43 .ret
def a125_45 : AC := .cond (.t 30) a125_44 .skip
def a125_46 : AC := .seq a125_42 a125_45
def a125_47 : AC := .cond (.t 27) a125_46 .skip
def a125_48 : AC := .seq a125_41 a125_47
def a125_49 : AC := .cond (.t 19) a125_40 a125_48
def a125_50 : AC := .seq a125_35 a125_49
def a125_51 : AC := .cond (.t 6) a125_34 a125_50
def a125_52 : AC := .seq a125_29 a125_51
def a125_53 : AC := .blk 0 a125_52
def a125_54 : AC := .seq a125_1 a125_53
def a125_55 : AC := .reg [⟨(some 4), (.mv (.c (.int .i64 0))), none, 0, false, []⟩] false
def a125_56 : AC := .seq a125_55 .ret
def a125_57 : AC := .seq a125_54 a125_56
def a125_58 : AC := .seq a125_0 a125_57
def af125 : AF := { ntmps := 31, res := [(.t 4)], body := a125_58 }
theorem tr125 : trF Tryz.prog Tryz.f125 = some af125 := by kernel_rfl
attribute [go_sem] af125 a125_0 a125_1 a125_2 a125_3 a125_4 a125_5 a125_6 a125_7 a125_8 a125_9 a125_10 a125_11 a125_12 a125_13 a125_14 a125_15 a125_16 a125_17 a125_18 a125_19 a125_20 a125_21 a125_22 a125_23 a125_24 a125_25 a125_26 a125_27 a125_28 a125_29 a125_30 a125_31 a125_32 a125_33 a125_34 a125_35 a125_36 a125_37 a125_38 a125_39 a125_40 a125_41 a125_42 a125_43 a125_44 a125_45 a125_46 a125_47 a125_48 a125_49 a125_50 a125_51 a125_52 a125_53 a125_54 a125_55 a125_56 a125_57 a125_58
def a72_0 : AC := .reg [⟨(some 2), (.box (.t 0)), none, 0, false, []⟩,
    ⟨(some 4), (.new [(.int .i64 0), (.int .i64 0), (.int .i64 0), (.int .i64 0), (.int .i64 0), .nils, (.int .i64 0), (.int .i64 0), (.int .i64 0), (.int .i64 0), .nils, (.int .i64 0), (.int .i64 0), (.int .i64 0), (.int .i64 0), .nils, (.int .i64 0), (.int .i64 0), (.int .i64 0), (.int .i64 0), .nils, (.int .i64 0), (.int .i64 0), (.int .i64 0), (.int .i64 0), .nils]), none, 0, false, []⟩] false
def a72_1 : AC := .reg [⟨(some 6), (.load true 26 (.t 2)), none, 0, false, []⟩,
    ⟨(some 7), (.call 101 [(.t 6)]), none, 0, false, []⟩,
    ⟨(some 8), (.un .not (.t 7)), none, 0, false, []⟩,
    ⟨(some 9), (.mv (.t 8)), none, 0, false, []⟩,
    ⟨(some 10), (.mv (.t 1)), (some (9, false)), 0, false, []⟩,
    ⟨(some 11), (.bin 0 .lss (.t 10) (.c (.int .i64 0))), (some (9, false)), 0, false, []⟩,
    ⟨(some 12), (.pick (.t 9) (.c (.bool true)) (.t 11)), none, 0, false, []⟩] false
def a72_2 : AC := .reg [⟨(some 13), (.build [(.int .i64 0), (.int .i64 0), (.int .i64 0), (.int .i64 0), (.int .i64 0), .nils, (.int .i64 0), (.int .i64 0), (.int .i64 0), (.int .i64 0), .nils, (.int .i64 0), (.int .i64 0), (.int .i64 0), (.int .i64 0), .nils, (.int .i64 0), (.int .i64 0), (.int .i64 0), (.int .i64 0), .nils, (.int .i64 0), (.int .i64 0), (.int .i64 0), (.int .i64 0), .nils] []), none, 0, false, []⟩,
    ⟨none, (.store 26 (.t 4) (.t 13)), none, 0, false, []⟩] false
def a72_3 : AC := .seq a72_2 .ret
def a72_4 : AC := .cond (.t 12) a72_3 .skip
def a72_5 : AC := .seq a72_1 a72_4
def a72_6 : AC := .reg [⟨(some 14), (.fad 0 (.t 2)), none, 0, false, []⟩,
    ⟨(some 15), (.load false 1 (.t 14)), none, 1, true, []⟩,
    ⟨(some 16), (.fad 1 (.t 2)), none, 2, false, []⟩,
    ⟨(some 17), (.load true 5 (.t 16)), none, 3, true, []⟩,
    ⟨(some 18), (.mv (.t 1)), none, 4, false, []⟩,
    ⟨(some 19), (.call 82 [(.t 17), (.t 18), (.c (.int .i64 0))]), none, 5, true, [1]⟩,
    ⟨(some 20), (.fad 6 (.t 2)), none, 6, false, []⟩,
    ⟨(some 21), (.load true 5 (.t 20)), none, 7, true, [5]⟩,
    ⟨(some 22), (.mv (.t 1)), none, 8, false, []⟩,
    ⟨(some 23), (.call 82 [(.t 21), (.t 22), (.c (.int .i64 0))]), none, 9, true, [1]⟩,
    ⟨(some 24), (.fad 11 (.t 2)), none, 10, false, []⟩,
    ⟨(some 25), (.load true 5 (.t 24)), none, 11, true, [5, 9]⟩,
    ⟨(some 26), (.mv (.t 1)), none, 12, false, []⟩,
    ⟨(some 27), (.call 82 [(.t 25), (.t 26), (.c (.int .i64 0))]), none, 13, true, [1]⟩,
    ⟨(some 28), (.fad 16 (.t 2)), none, 14, false, []⟩,
    ⟨(some 29), (.load true 5 (.t 28)), none, 15, true, [5, 9, 13]⟩,
    ⟨(some 30), (.mv (.t 1)), none, 16, false, []⟩,
    ⟨(some 31), (.call 82 [(.t 29), (.t 30), (.c (.int .i64 0))]), none, 17, true, [1]⟩,
    ⟨(some 32), (.fad 21 (.t 2)), none, 18, false, []⟩,
    ⟨(some 33), (.load true 5 (.t 32)), none, 19, true, [5, 9, 13, 17]⟩,
    ⟨(some 34), (.mv (.t 1)), none, 20, false, []⟩,
    ⟨(some 35), (.call 82 [(.t 33), (.t 34), (.c (.int .i64 0))]), none, 21, true, [1]⟩,
    ⟨(some 36), (.build [(.int .i64 0), (.int .i64 0), (.int .i64 0), (.int .i64 0), (.int .i64 0), .nils, (.int .i64 0), (.int .i64 0), (.int .i64 0), (.int .i64 0), .nils, (.int .i64 0), (.int .i64 0), (.int .i64 0), (.int .i64 0), .nils, (.int .i64 0), (.int .i64 0), (.int .i64 0), (.int .i64 0), .nils, (.int .i64 0), (.int .i64 0), (.int .i64 0), (.int .i64 0), .nils] [(0, (1, (.t 15))), (1, (5, (.t 19))), (6, (5, (.t 23))), (11, (5, (.t 27))), (16, (5, (.t 31))), (21, (5, (.t 35)))]), none, 22, false, []⟩,
    ⟨(some 5), (.new [(.int .i64 0), (.int .i64 0), (.int .i64 0), (.int .i64 0), (.int .i64 0), .nils, (.int .i64 0), (.int .i64 0), (.int .i64 0), (.int .i64 0), .nils, (.int .i64 0), (.int .i64 0), (.int .i64 0), (.int .i64 0), .nils, (.int .i64 0), (.int .i64 0), (.int .i64 0), (.int .i64 0), .nils, (.int .i64 0), (.int .i64 0), (.int .i64 0), (.int .i64 0), .nils]), none, 23, false, [1, 3, 5, 7, 9, 11, 13, 15, 17, 19, 21]⟩,
    ⟨none, (.store 26 (.t 5) (.t 36)), none, 24, false, []⟩] true
def a72_7 : AC := .reg [⟨(some 37), (.load true 26 (.t 5)), none, 0, false, []⟩,
    ⟨(some 38), (.call 101 [(.t 37)]), none, 0, false, []⟩,
    ⟨(some 39), (.un .not (.t 38)), none, 0, false, []⟩] false
def a72_8 : AC := .reg [⟨(some 40), (.build [(.int .i64 0), (.int .i64 0), (.int .i64 0), (.int .i64 0), (.int .i64 0), .nils, (.int .i64 0), (.int .i64 0), (.int .i64 0), (.int .i64 0), .nils, (.int .i64 0), (.int .i64 0), (.int .i64 0), (.int .i64 0), .nils, (.int .i64 0), (.int .i64 0), (.int .i64 0), (.int .i64 0), .nils, (.int .i64 0), (.int .i64 0), (.int .i64 0), (.int .i64 0), .nils] []), none, 0, false, []⟩,
    ⟨none, (.store 26 (.t 4) (.t 40)), none, 0, false, []⟩] false
def a72_9 : AC := .seq a72_8 .ret
def a72_10 : AC := .cond (.t 39) a72_9 .skip
def a72_11 : AC := .seq a72_7 a72_10
def a72_12 : AC := .reg [⟨(some 41), (.load true 26 (.t 5)), none, 0, false, []⟩,
    ⟨none, (.store 26 (.t 4) (.t 41)), none, 0, false, []⟩] false
def a72_13 : AC := .seq a72_12 .ret
def a72_14 : AC := .seq a72_11 a72_13
def a72_15 : AC := .seq a72_6 a72_14
def a72_16 : AC := .seq a72_5 a72_15
def a72_17 : AC := .seq a72_0 a72_16
def af72 : AF := { ntmps := 42, res := [(.cell 4 true 26)], body := a72_17 }
theorem tr72 : trF Tryz.prog Tryz.f72 = some af72 := by kernel_rfl
attribute [go_sem] af72 a72_0 a72_1 a72_2 a72_3 a72_4 a72_5 a72_6 a72_7 a72_8 a72_9 a72_10 a72_11 a72_12 a72_13 a72_14 a72_15 a72_16 a72_17
def a43_0 : AC := .reg [⟨(some 2), (.box (.t 0)), none, 0, false, []⟩,
    ⟨(some 4), (.new [(.int .i64 0), (.int .i64 0), (.int .i64 0), (.int .i64 0), (.int .i64 0), .nils, (.int .i64 0), (.int .i64 0), (.int .i64 0), (.int .i64 0), .nils, (.int .i64 0), (.int .i64 0), (.int .i64 0), (.int .i64 0), .nils, (.int .i64 0), (.int .i64 0), (.int .i64 0), (.int .i64 0), .nils, (.int .i64 0), (.int .i64 0), (.int .i64 0), (.int .i64 0), .nils]), none, 0, false, []⟩] false
def a43_1 : AC := .reg [⟨(some 9), (.load true 26 (.t 2)), none, 0, false, []⟩,
    ⟨(some 10), (.call 78 [(.t 9)]), none, 0, false, []⟩,
    ⟨(some 11), (.un .not (.t 10)), none, 0, false, []⟩,
    ⟨(some 12), (.mv (.t 11)), none, 0, false, []⟩,
    ⟨(some 13), (.mv (.t 1)), (some (12, false)), 0, false, []⟩,
    ⟨(some 14), (.bin 0 .lss (.t 13) (.c (.int .i64 0))), (some (12, false)), 0, false, []⟩,
    ⟨(some 15), (.pick (.t 12) (.c (.bool true)) (.t 14)), none, 0, false, []⟩] false
def a43_2 : AC := .reg [⟨(some 16), (.build [(.int .i64 0), (.int .i64 0), (.int .i64 0), (.int .i64 0), (.int .i64 0), .nils, (.int .i64 0), (.int .i64 0), (.int .i64 0), (.int .i64 0), .nils, (.int .i64 0), (.int .i64 0), (.int .i64 0), (.int .i64 0), .nils, (.int .i64 0), (.int .i64 0), (.int .i64 0), (.int .i64 0), .nils, (.int .i64 0), (.int .i64 0), (.int .i64 0), (.int .i64 0), .nils] []), none, 0, false, []⟩,
    ⟨none, (.store 26 (.t 4) (.t 16)), none, 0, false, []⟩] false
def a43_3 : AC := .seq a43_2 .ret
def a43_4 : AC := .cond (.t 15) a43_3 .skip
def a43_5 : AC := .seq a43_1 a43_4
def a43_6 : AC := .reg [⟨(some 17), (.fad 1 (.t 2)), none, 0, false, []⟩,
    ⟨(some 18), (.load true 5 (.t 17)), none, 0, false, []⟩,
    ⟨(some 19), (.fad 6 (.t 2)), none, 0, false, []⟩,
    ⟨(some 20), (.load true 5 (.t 19)), none, 0, false, []⟩,
    ⟨(some 21), (.fad 11 (.t 2)), none, 0, false, []⟩,
    ⟨(some 22), (.load true 5 (.t 21)), none, 0, false, []⟩,
    ⟨(some 23), (.fad 16 (.t 2)), none, 0, false, []⟩,
    ⟨(some 24), (.load true 5 (.t 23)), none, 0, false, []⟩,
    ⟨(some 25), (.fad 21 (.t 2)), none, 0, false, []⟩,
    ⟨(some 26), (.load true 5 (.t 25)), none, 0, false, []⟩,
    ⟨(some 27), (.bslice 5 [(.t 18), (.t 20), (.t 22), (.t 24), (.t 26)]), none, 0, false, []⟩,
    ⟨(some 5), (.mv (.t 27)), none, 0, false, []⟩] false
def a43_7 : AC := .reg [⟨(some 6), (.mv (.c .nils)), none, 0, false, []⟩] false
def a43_8 : AC := .reg [⟨(some 7), (.mv (.c (.int .i64 0))), none, 0, false, []⟩] false
def a43_9 : AC := .reg [⟨(some 28), (.mv (.t 7)), none, 0, false, []⟩,
    ⟨(some 29), (.mv (.t 5)), none, 0, false, []⟩,
    ⟨(some 30), (.len false (.t 29)), none, 0, false, []⟩,
    ⟨(some 31), (.bin 0 .lss (.t 28) (.t 30)), none, 0, false, []⟩] false
def a43_10 : AC := .cond (.t 31) .skip (.exit 0)
def a43_11 : AC := .seq a43_9 a43_10
def a43_12 : AC := .reg [⟨(some 34), (.mv (.t 5)), none, 0, false, []⟩,
    ⟨(some 35), (.mv (.t 7)), none, 0, false, []⟩,
    ⟨(some 36), (.iad 5 (.t 34) (.t 35)), none, 0, false, []⟩,
    ⟨(some 37), (.load true 5 (.t 36)), none, 0, false, []⟩,
    ⟨(some 38), (.mv (.t 1)), none, 0, false, []⟩,
    ⟨(some 39), (.call 77 [(.t 37), (.t 38), (.c (.int .i64 0))]), none, 0, false, []⟩,
    ⟨(some 8), (.new [(.int .i64 0), (.int .i64 0), (.int .i64 0), (.int .i64 0), .nils]), none, 0, false, []⟩,
    ⟨none, (.store 5 (.t 8) (.t 39)), none, 0, false, []⟩] false
def a43_13 : AC := .reg [⟨(some 40), (.fad 0 (.t 8)), none, 0, false, []⟩,
    ⟨(some 41), (.load false 1 (.t 40)), none, 0, false, []⟩,
    ⟨(some 42), (.bin 0 .eql (.t 41) (.c (.int .i64 0))), none, 0, false, []⟩] false
def a43_14 : AC := .reg [⟨(some 43), (.build [(.int .i64 0), (.int .i64 0), (.int .i64 0), (.int .i64 0), (.int .i64 0), .nils, (.int .i64 0), (.int .i64 0), (.int .i64 0), (.int .i64 0), .nils, (.int .i64 0), (.int .i64 0), (.int .i64 0), (.int .i64 0), .nils, (.int .i64 0), (.int .i64 0), (.int .i64 0), (.int .i64 0), .nils, (.int .i64 0), (.int .i64 0), (.int .i64 0), (.int .i64 0), .nils] []), none, 0, false, []⟩,
    ⟨none, (.store 26 (.t 4) (.t 43)), none, 0, false, []⟩] false
def a43_15 : AC := .seq a43_14 .ret
def a43_16 : AC := .cond (.t 42) a43_15 .skip
def a43_17 : AC := .seq a43_13 a43_16
def a43_18 : AC := .reg [⟨(some 44), (.mv (.t 6)), none, 0, false, []⟩,
    ⟨(some 45), (.load true 5 (.t 8)), none, 0, false, []⟩,
    ⟨(some 46), (.bslice 5 [(.t 45)]), none, 0, false, []⟩,
    ⟨(some 47), (.app 5 56 (.t 44) (.t 46)), none, 0, false, []⟩,
    ⟨(some 6), (.mv (.t 47)), none, 0, false, []⟩] false
def a43_19 : AC := .seq a43_17 a43_18
def a43_20 : AC := .seq a43_12 a43_19
def a43_21 : AC := .blk 1 a43_20
def a43_22 : AC := .reg [⟨(some 32), (.mv (.t 7)), none, 0, false, []⟩,
    ⟨(some 33), (.bin 0 .add (.t 32) (.c (.int .i64 1))), none, 0, false, []⟩,
    ⟨(some 7), (.mv (.t 33)), none, 0, false, []⟩] false
def a43_23 : AC := .seq a43_21 a43_22
def a43_24 : AC := .seq a43_11 a43_23
def a43_25 : AC := .loop a43_24
def a43_26 : AC := .blk 0 a43_25
def a43_27 : AC := .seq a43_8 a43_26
def a43_28 : AC := .reg [⟨(some 48), (.fad 0 (.t 2)), none, 0, false, []⟩,
    ⟨(some 49), (.load false 1 (.t 48)), none, 1, false, []⟩,
    ⟨(some 50), (.mv (.t 6)), none, 2, false, []⟩,
    ⟨(some 51), (.iad 5 (.t 50) (.c (.int .i64 0))), none, 3, false, []⟩,
    ⟨(some 52), (.load true 5 (.t 51)), none, 4, false, []⟩,
    ⟨(some 53), (.mv (.t 6)), none, 5, false, []⟩,
    ⟨(some 54), (.iad 5 (.t 53) (.c (.int .i64 1))), none, 6, false, []⟩,
    ⟨(some 55), (.load true 5 (.t 54)), none, 7, false, []⟩,
    ⟨(some 56), (.mv (.t 6)), none, 8, false, []⟩,
    ⟨(some 57), (.iad 5 (.t 56) (.c (.int .i64 2))), none, 9, false, []⟩,
    ⟨(some 58), (.load true 5 (.t 57)), none, 10, false, []⟩,
    ⟨(some 59), (.mv (.t 6)), none, 11, false, []⟩,
    ⟨(some 60), (.iad 5 (.t 59) (.c (.int .i64 3))), none, 12, false, []⟩,
    ⟨(some 61), (.load true 5 (.t 60)), none, 13, false, []⟩,
    ⟨(some 62), (.mv (.t 6)), none, 14, false, []⟩,
    ⟨(some 63), (.iad 5 (.t 62) (.c (.int .i64 4))), none, 15, false, []⟩,
    ⟨(some 64), (.load true 5 (.t 63)), none, 16, false, []⟩,
    ⟨(some 65), (.build [(.int .i64 0), (.int .i64 0), (.int .i64 0), (.int .i64 0), (.int .i64 0), .nils, (.int .i64 0), (.int .i64 0), (.int .i64 0), (.int .i64 0), .nils, (.int .i64 0), (.int .i64 0), (.int .i64 0), (.int .i64 0), .nils, (.int .i64 0), (.int .i64 0), (.int .i64 0), (.int .i64 0), .nils, (.int .i64 0), (.int .i64 0), (.int .i64 0), (.int .i64 0), .nils] [(0, (1, (.t 49))), (1, (5, (.t 52))), (6, (5, (.t 55))), (11, (5, (.t 58))), (16, (5, (.t 61))), (21, (5, (.t 64)))]), none, 17, false, []⟩,
    ⟨none, (.store 26 (.t 4) (.t 65)), none, 18, false, []⟩] true
def a43_29 : AC := .seq a43_28 .ret
def a43_30 : AC := .seq a43_27 a43_29
def a43_31 : AC := .seq a43_7 a43_30
def a43_32 : AC := .seq a43_6 a43_31
def a43_33 : AC := .seq a43_5 a43_32
def a43_34 : AC := .seq a43_0 a43_33
def af43 : AF := { ntmps := 66, res := [(.cell 4 true 26)], body := a43_34 }
theorem tr43 : trF Tryz.prog Tryz.f43 = some af43 := by kernel_rfl
attribute [go_sem] af43 a43_0 a43_1 a43_2 a43_3 a43_4 a43_5 a43_6 a43_7 a43_8 a43_9 a43_10 a43_11 a43_12 a43_13 a43_14 a43_15 a43_16 a43_17 a43_18 a43_19 a43_20 a43_21 a43_22 a43_23 a43_24 a43_25 a43_26 a43_27 a43_28 a43_29 a43_30 a43_31 a43_32 a43_33 a43_34
end Go.Proofs.YtkldipbhenabfaaGreat.Abs

