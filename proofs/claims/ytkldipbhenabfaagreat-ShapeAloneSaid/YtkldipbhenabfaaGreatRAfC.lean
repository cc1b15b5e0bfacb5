/- The abstract code of functions, printed by program; that it is the translation of the model's code is decided by the kernel. -/
import Derived.Test.YtkldipbhenabfaaGreatREv
import Derived.Test.YtkldipbhenabfaaGreatProg
import Derived.KernelRfl
namespace Go.Proofs.YtkldipbhenabfaaGreat.Abs
open Go Go.Proofs Go.Proofs.YtkldipbhenabfaaGreat
def a21_0 : AC := .reg [⟨(some 1), (.box (.t 0)), none, 0, false, []⟩,
    ⟨(some 2), (.mv (.c (.bool false))), none, 0, false, []⟩] false
def a21_1 : AC := .reg [⟨(some 4), (.fad 0 (.t 1)), none, 0, false, []⟩,
    ⟨(some 5), (.load false 1 (.t 4)), none, 0, false, []⟩,
    ⟨(some 6), (.bin 0 .lss (.t 5) (.c (.int .i64 1))), none, 0, false, []⟩,
    ⟨(some 7), (.mv (.t 6)), none, 0, false, []⟩,
    ⟨(some 8), (.fad 0 (.t 1)), (some (7, false)), 0, false, []⟩,
    ⟨(some 9), (.load false 1 (.t 8)), (some (7, false)), 0, false, []⟩,
    ⟨(some 10), (.bin 0 .gtr (.t 9) (.c (.int .i64 12))), (some (7, false)), 0, false, []⟩,
    ⟨(some 11), (.pick (.t 7) (.c (.bool true)) (.t 10)), none, 0, false, []⟩,
    ⟨(some 12), (.mv (.t 11)), none, 0, false, []⟩,
    ⟨(some 13), (.load true 5 (.t 1)), (some (12, false)), 0, false, []⟩,
    ⟨(some 14), (.call 59 [(.t 13)]), (some (12, false)), 0, false, []⟩,
    ⟨(some 15), (.un .not (.t 14)), (some (12, false)), 0, false, []⟩,
    ⟨(some 16), (.pick (.t 12) (.c (.bool true)) (.t 15)), none, 0, false, []⟩] false
def a21_2 : AC := .reg [⟨(some 2), (.mv (.c (.bool false))), none, 0, false, []⟩] false
def a21_3 : AC := .seq a21_2 .ret
def a21_4 : AC := .cond (.t 16) a21_3 .skip
def a21_5 : AC := .seq a21_1 a21_4
def a21_6 : AC := .reg [⟨(some 3), (.mv (.c (.int .i64 0))), none, 0, false, []⟩] false
def a21_7 : AC := .reg [⟨(some 17), (.mv (.t 3)), none, 0, false, []⟩,
    ⟨(some 18), (.fad 4 (.t 1)), none, 0, false, []⟩,
    ⟨(some 19), (.load false 1 (.t 18)), none, 0, false, []⟩,
    ⟨(some 20), (.len false (.t 19)), none, 0, false, []⟩,
    ⟨(some 21), (.bin 0 .lss (.t 17) (.t 20)), none, 0, false, []⟩] false
def a21_8 : AC := .cond (.t 21) .skip (.exit 0)
def a21_9 : AC := .seq a21_7 a21_8
def a21_10 : AC := .reg [⟨(some 24), (.fad 0 (.t 1)), none, 0, false, []⟩,
    ⟨(some 25), (.load false 1 (.t 24)), none, 0, false, []⟩,
    ⟨(some 26), (.bin 0 .eql (.t 25) (.c (.int .i64 12))), none, 0, false, []⟩,
    ⟨(some 27), (.mv (.t 26)), none, 0, false, []⟩,
    ⟨(some 28), (.mv (.t 3)), (some (27, true)), 0, false, []⟩,
    ⟨(some 29), (.bin 0 .eql (.t 28) (.c (.int .i64 2))), (some (27, true)), 0, false, []⟩,
    ⟨(some 30), (.pick (.t 27) (.t 29) (.c (.bool false))), none, 0, false, []⟩] false
def a21_11 : AC := .reg [⟨(some 31), (.fad 4 (.t 1)), none, 0, false, []⟩,
    ⟨(some 32), (.load false 1 (.t 31)), none, 0, false, []⟩,
    ⟨(some 33), (.mv (.t 3)), none, 0, false, []⟩,
    ⟨(some 34), (.iad 5 (.t 32) (.t 33)), none, 0, false, []⟩,
    ⟨(some 35), (.load true 5 (.t 34)), none, 0, false, []⟩,
    ⟨(some 36), (.call 60 [(.t 35)]), none, 0, false, []⟩,
    ⟨(some 37), (.un .not (.t 36)), none, 0, false, []⟩] false
def a21_12 : AC := .reg [⟨(some 2), (.mv (.c (.bool false))), none, 0, false, []⟩] false
def a21_13 : AC := .seq a21_12 .ret
def a21_14 : AC := .cond (.t 37) a21_13 .skip
def a21_15 : AC := .seq a21_11 a21_14
def a21_16 : AC := .reg [⟨(some 38), (.fad 4 (.t 1)), none, 0, false, []⟩,
    ⟨(some 39), (.load false 1 (.t 38)), none, 0, false, []⟩,
    ⟨(some 40), (.mv (.t 3)), none, 0, false, []⟩,
    ⟨(some 41), (.iad 5 (.t 39) (.t 40)), none, 0, false, []⟩,
    ⟨(some 42), (.load true 5 (.t 41)), none, 0, false, []⟩,
    ⟨(some 43), (.call 21 [(.t 42)]), none, 0, false, []⟩,
    ⟨(some 44), (.un .not (.t 43)), none, 0, false, []⟩] false
def a21_17 : AC := .reg [⟨(some 2), (.mv (.c (.bool false))), none, 0, false, []⟩] false
def a21_18 : AC := .seq a21_17 .ret
def a21_19 : AC := .cond (.t 44) a21_18 .skip
def a21_20 : AC := .seq a21_16 a21_19
def a21_21 : AC := .cond (.t 30) a21_15 a21_20
def a21_22 : AC := .seq a21_10 a21_21
def a21_23 : AC := .blk 1 a21_22
def a21_24 : AC := .reg [⟨(some 22), (.mv (.t 3)), none, 0, false, []⟩,
    ⟨(some 23), (.bin 0 .add (.t 22) (.c (.int .i64 1))), none, 0, false, []⟩,
    ⟨(some 3), (.mv (.t 23)), none, 0, false, []⟩] false
def a21_25 : AC := .seq a21_23 a21_24
def a21_26 : AC := .seq a21_9 a21_25
def a21_27 : AC := .loop a21_26
def a21_28 : AC := .blk 0 a21_27
def a21_29 : AC := .seq a21_6 a21_28
def a21_30 : AC := .reg [⟨(some 2), (.mv (.c (.bool true))), none, 0, false, []⟩] false
def a21_31 : AC := .seq a21_30 .ret
def a21_32 : AC := .seq a21_29 a21_31
def a21_33 : AC := .seq a21_5 a21_32
def a21_34 : AC := .seq a21_0 a21_33
def af21 : AF := { ntmps := 45, res := [(.t 2)], body := a21_34 }
theorem tr21 : trF Tryz.prog Tryz.f21 = some af21 := by kernel_rfl
attribute [go_sem] af21 a21_0 a21_1 a21_2 a21_3 a21_4 a21_5 a21_6 a21_7 a21_8 a21_9 a21_10 a21_11 a21_12 a21_13 a21_14 a21_15 a21_16 a21_17 a21_18 a21_19 a21_20 a21_21 a21_22 a21_23 a21_24 a21_25 a21_26 a21_27 a21_28 a21_29 a21_30 a21_31 a21_32 a21_33 a21_34
def a33_0 : AC := .reg [⟨(some 3), (.box (.t 0)), none, 0, false, []⟩,
    ⟨(some 6), (.new [(.int .i64 0), (.int .i64 0), (.int .i64 0), (.int .i64 0), .nils]), none, 0, false, []⟩,
    ⟨(some 7), (.mv (.c (.bool false))), none, 0, false, []⟩] false
def a33_1 : AC := .reg [⟨(some 13), (.fad 0 (.t 3)), none, 0, false, []⟩,
    ⟨(some 14), (.load false 1 (.t 13)), none, 0, false, []⟩,
    ⟨(some 15), (.bin 0 .eql (.t 14) (.c (.int .i64 2))), none, 0, false, []⟩,
    ⟨(some 16), (.mv (.t 15)), none, 0, false, []⟩,
    ⟨(some 17), (.fad 1 (.t 3)), (some (16, true)), 0, false, []⟩,
    ⟨(some 18), (.load false 1 (.t 17)), (some (16, true)), 0, false, []⟩,
    ⟨(some 19), (.mv (.t 2)), (some (16, true)), 0, false, []⟩,
    ⟨(some 20), (.bin 0 .geq (.t 18) (.t 19)), (some (16, true)), 0, false, []⟩,
    ⟨(some 21), (.pick (.t 16) (.t 20) (.c (.bool false))), none, 0, false, []⟩] false
def a33_2 : AC := .reg [⟨(some 22), (.mv (.t 1)), none, 0, false, []⟩,
    ⟨(some 23), (.fad 1 (.t 3)), none, 0, false, []⟩,
    ⟨(some 24), (.load false 1 (.t 23)), none, 0, false, []⟩,
    ⟨(some 25), (.bin 0 .sub (.c (.int .i64 2147483647)) (.t 24)), none, 0, false, []⟩,
    ⟨(some 26), (.bin 0 .gtr (.t 22) (.t 25)), none, 0, false, []⟩] false
def a33_3 : AC := .reg [⟨(some 27), (.build [(.int .i64 0), (.int .i64 0), (.int .i64 0), (.int .i64 0), .nils] []), none, 0, false, []⟩,
    ⟨none, (.store 5 (.t 6) (.t 27)), none, 0, false, []⟩,
    ⟨(some 7), (.mv (.c (.bool false))), none, 0, false, []⟩] false
def a33_4 : AC := .seq a33_3 .ret
def a33_5 : AC := .cond (.t 26) a33_4 .skip
def a33_6 : AC := .seq a33_2 a33_5
def a33_7 : AC := .reg [⟨(some 28), (.fad 1 (.t 3)), none, 0, false, []⟩,
    ⟨(some 29), (.load false 1 (.t 28)), none, 0, false, []⟩,
    ⟨(some 30), (.mv (.t 1)), none, 0, false, []⟩,
    ⟨(some 31), (.bin 0 .add (.t 29) (.t 30)), none, 0, false, []⟩,
    ⟨(some 32), (.fad 1 (.t 3)), none, 0, false, []⟩,
    ⟨none, (.store 1 (.t 32) (.t 31)), none, 0, false, []⟩] false
def a33_8 : AC := .seq a33_6 a33_7
def a33_9 : AC := .cond (.t 21) a33_8 .skip
def a33_10 : AC := .seq a33_1 a33_9
def a33_11 : AC := .reg [⟨(some 33), (.fad 4 (.t 3)), none, 0, false, []⟩,
    ⟨(some 34), (.load false 1 (.t 33)), none, 0, false, []⟩,
    ⟨(some 35), (.len false (.t 34)), none, 0, false, []⟩,
    ⟨(some 36), (.bin 0 .eql (.t 35) (.c (.int .i64 0))), none, 0, false, []⟩] false
def a33_12 : AC := .reg [⟨(some 37), (.fad 4 (.t 3)), none, 0, false, []⟩,
    ⟨none, (.store 1 (.t 37) (.c .nils)), none, 0, false, []⟩] false
def a33_13 : AC := .reg [⟨(some 38), (.load true 5 (.t 3)), none, 0, false, []⟩,
    ⟨none, (.store 5 (.t 6) (.t 38)), none, 0, false, []⟩,
    ⟨(some 7), (.mv (.c (.bool true))), none, 0, false, []⟩] false
def a33_14 : AC := .seq a33_13 .ret
def a33_15 : AC := .seq a33_12 a33_14
def a33_16 : AC := .cond (.t 36) a33_15 .skip
def a33_17 : AC := .seq a33_11 a33_16
def a33_18 : AC := .reg [⟨(some 39), (.fad 4 (.t 3)), none, 0, false, []⟩,
    ⟨(some 40), (.load false 1 (.t 39)), none, 0, false, []⟩,
    ⟨(some 41), (.len false (.t 40)), none, 0, false, []⟩,
    ⟨(some 42), (.mk 5 56 [(.int .i64 0), (.int .i64 0), (.int .i64 0), (.int .i64 0), .nils] (.t 41) (.t 41)), none, 0, false, []⟩,
    ⟨(some 8), (.mv (.t 42)), none, 0, false, []⟩] false
def a33_19 : AC := .reg [⟨(some 43), (.fad 4 (.t 3)), none, 0, false, []⟩,
    ⟨(some 44), (.load false 1 (.t 43)), none, 0, false, []⟩,
    ⟨(some 45), (.len false (.t 44)), none, 0, false, []⟩,
    ⟨(some 46), (.mv (.c (.int .i64 0))), none, 0, false, []⟩] false
def a33_20 : AC := .reg [⟨(some 47), (.bin 0 .lss (.t 46) (.t 45)), none, 0, false, []⟩] false
def a33_21 : AC := .cond (.t 47) .skip (.exit 0)
def a33_22 : AC := .reg [⟨(some 48), (.mv (.t 46)), none, 0, false, []⟩,
    ⟨(some 49), (.iad 5 (.t 44) (.t 46)), none, 0, false, []⟩,
    ⟨(some 50), (.load true 5 (.t 49)), none, 0, false, []⟩,
    ⟨(some 10), (.new [(.int .i64 0), (.int .i64 0), (.int .i64 0), (.int .i64 0), .nils]), none, 0, false, []⟩,
    ⟨(some 9), (.mv (.t 48)), none, 0, false, []⟩,
    ⟨none, (.store 5 (.t 10) (.t 50)), none, 0, false, []⟩] false
def a33_23 : AC := .reg [⟨(some 52), (.load true 5 (.t 10)), none, 0, true, []⟩,
    ⟨(some 53), (.mv (.t 1)), none, 1, false, []⟩,
    ⟨(some 54), (.mv (.t 2)), none, 2, false, []⟩,
    ⟨(some 55), (.fad 0 (.t 3)), none, 3, false, []⟩,
    ⟨(some 56), (.load false 1 (.t 55)), none, 4, true, []⟩,
    ⟨(some 57), (.mv (.t 9)), none, 5, false, []⟩,
    ⟨(some 58), (.call 71 [(.t 56), (.t 57)]), none, 6, true, [0]⟩,
    ⟨(some 59), (.bin 0 .add (.t 54) (.t 58)), none, 7, false, []⟩,
    ⟨(some 60), (.call 33 [(.t 52), (.t 53), (.t 59)]), none, 8, true, []⟩,
    ⟨(some 51), (.mv (.t 60)), none, 9, false, []⟩,
    ⟨(some 61), (.ext (.t 51) 0), none, 10, false, []⟩,
    ⟨(some 62), (.ext (.t 51) 1), none, 11, false, []⟩,
    ⟨(some 11), (.new [(.int .i64 0), (.int .i64 0), (.int .i64 0), (.int .i64 0), .nils]), none, 12, false, [0, 4, 6, 8]⟩,
    ⟨none, (.store 5 (.t 11) (.t 61)), none, 13, false, []⟩,
    ⟨(some 12), (.mv (.t 62)), none, 14, false, []⟩] true
def a33_24 : AC := .reg [⟨(some 63), (.mv (.t 12)), none, 0, false, []⟩,
    ⟨(some 64), (.un .not (.t 63)), none, 0, false, []⟩] false
def a33_25 : AC := .reg [⟨(some 65), (.build [(.int .i64 0), (.int .i64 0), (.int .i64 0), (.int .i64 0), .nils] []), none, 0, false, []⟩,
    ⟨none, (.store 5 (.t 6) (.t 65)), none, 0, false, []⟩,
    ⟨(some 7), (.mv (.c (.bool false))), none, 0, false, []⟩] false
def a33_26 : AC := .seq a33_25 .ret
def a33_27 : AC := .cond (.t 64) a33_26 .skip
def a33_28 : AC := .seq a33_24 a33_27
def a33_29 : AC := .reg [⟨(some 66), (.mv (.t 8)), none, 0, false, []⟩,
    ⟨(some 67), (.mv (.t 9)), none, 0, false, []⟩,
    ⟨(some 68), (.load true 5 (.t 11)), none, 0, false, []⟩,
    ⟨(some 69), (.iad 5 (.t 66) (.t 67)), none, 0, false, []⟩,
    ⟨none, (.store 5 (.t 69) (.t 68)), none, 0, false, []⟩] false
def a33_30 : AC := .seq a33_28 a33_29
def a33_31 : AC := .seq a33_23 a33_30
def a33_32 : AC := .seq a33_22 a33_31
def a33_33 : AC := .blk 1 a33_32
def a33_34 : AC := .reg [⟨(some 70), (.bin 0 .add (.t 46) (.c (.int .i64 1))), none, 0, false, []⟩,
    ⟨(some 46), (.mv (.t 70)), none, 0, false, []⟩] false
def a33_35 : AC := .seq a33_33 a33_34
def a33_36 : AC := .seq a33_21 a33_35
def a33_37 : AC := .seq a33_20 a33_36
def a33_38 : AC := .loop a33_37
def a33_39 : AC := .blk 0 a33_38
def a33_40 : AC := .seq a33_19 a33_39
def a33_41 : AC := .reg [⟨(some 71), (.mv (.t 8)), none, 0, false, []⟩,
    ⟨(some 72), (.fad 4 (.t 3)), none, 0, false, []⟩,
    ⟨none, (.store 1 (.t 72) (.t 71)), none, 0, false, []⟩] false
def a33_42 : AC := .reg [⟨(some 73), (.load true 5 (.t 3)), none, 0, false, []⟩,
    ⟨none, (.store 5 (.t 6) (.t 73)), none, 0, false, []⟩,
    ⟨(some 7), (.mv (.c (.bool true))), none, 0, false, []⟩] false
def a33_43 : AC := .seq a33_42 .ret
def a33_44 : AC := .seq a33_41 a33_43
def a33_45 : AC := .seq a33_40 a33_44
def a33_46 : AC := .seq a33_18 a33_45
def a33_47 : AC := .seq a33_17 a33_46
def a33_48 : AC := .seq a33_10 a33_47
def a33_49 : AC := .seq a33_0 a33_48
def af33 : AF := { ntmps := 74, res := [(.cell 6 true 5), (.t 7)], body := a33_49 }
theorem tr33 : trF Tryz.prog Tryz.f33 = some af33 := by kernel_rfl
attribute [go_sem] af33 a33_0 a33_1 a33_2 a33_3 a33_4 a33_5 a33_6 a33_7 a33_8 a33_9 a33_10 a33_11 a33_12 a33_13 a33_14 a33_15 a33_16 a33_17 a33_18 a33_19 a33_20 a33_21 a33_22 a33_23 a33_24 a33_25 a33_26 a33_27 a33_28 a33_29 a33_30 a33_31 a33_32 a33_33 a33_34 a33_35 a33_36 a33_37 a33_38 a33_39 a33_40 a33_41 a33_42 a33_43 a33_44 a33_45 a33_46 a33_47 a33_48 a33_49
def a82_0 : AC := .reg [⟨(some 3), (.box (.t 0)), none, 0, false, []⟩,
    ⟨(some 6), (.new [(.int .i64 0), (.int .i64 0), (.int .i64 0), (.int .i64 0), .nils]), none, 0, false, []⟩] false
def a82_1 : AC := .reg [⟨(some 9), (.mv (.t 1)), none, 0, false, []⟩,
    ⟨(some 10), (.bin 0 .lss (.t 9) (.c (.int .i64 0))), none, 0, false, []⟩,
    ⟨(some 11), (.mv (.t 10)), none, 0, false, []⟩,
    ⟨(some 12), (.mv (.t 2)), (some (11, false)), 0, false, []⟩,
    ⟨(some 13), (.bin 0 .lss (.t 12) (.c (.int .i64 0))), (some (11, false)), 0, false, []⟩,
    ⟨(some 14), (.pick (.t 11) (.c (.bool true)) (.t 13)), none, 0, false, []⟩,
    ⟨(some 15), (.mv (.t 14)), none, 0, false, []⟩,
    ⟨(some 16), (.load true 5 (.t 3)), (some (15, false)), 0, false, []⟩,
    ⟨(some 17), (.call 88 [(.t 16)]), (some (15, false)), 0, false, []⟩,
    ⟨(some 18), (.un .not (.t 17)), (some (15, false)), 0, false, []⟩,
    ⟨(some 19), (.pick (.t 15) (.c (.bool true)) (.t 18)), none, 0, false, []⟩] false
def a82_2 : AC := .reg [⟨(some 20), (.build [(.int .i64 0), (.int .i64 0), (.int .i64 0), (.int .i64 0), .nils] []), none, 0, false, []⟩,
    ⟨none, (.store 5 (.t 6) (.t 20)), none, 0, false, []⟩] false
def a82_3 : AC := .seq a82_2 .ret
def a82_4 : AC := .cond (.t 19) a82_3 .skip
def a82_5 : AC := .seq a82_1 a82_4
def a82_6 : AC := .reg [⟨(some 22), (.load true 5 (.t 3)), none, 0, false, []⟩,
    ⟨(some 23), (.mv (.t 1)), none, 0, false, []⟩,
    ⟨(some 24), (.mv (.t 2)), none, 0, false, []⟩,
    ⟨(some 25), (.mnx false (.t 24) (.c (.int .i64 2147483648))), none, 0, false, []⟩,
    ⟨(some 26), (.call 33 [(.t 22), (.t 23), (.t 25)]), none, 0, false, []⟩,
    ⟨(some 21), (.mv (.t 26)), none, 0, false, []⟩,
    ⟨(some 27), (.ext (.t 21) 0), none, 0, false, []⟩,
    ⟨(some 28), (.ext (.t 21) 1), none, 0, false, []⟩,
    ⟨(some 7), (.new [(.int .i64 0), (.int .i64 0), (.int .i64 0), (.int .i64 0), .nils]), none, 0, false, []⟩,
    ⟨none, (.store 5 (.t 7) (.t 27)), none, 0, false, []⟩,
    ⟨(some 8), (.mv (.t 28)), none, 0, false, []⟩] false
def a82_7 : AC := .reg [⟨(some 29), (.mv (.t 8)), none, 0, false, []⟩,
    ⟨(some 30), (.un .not (.t 29)), none, 0, false, []⟩] false
def a82_8 : AC := .reg [⟨(some 31), (.build [(.int .i64 0), (.int .i64 0), (.int .i64 0), (.int .i64 0), .nils] []), none, 0, false, []⟩,
    ⟨none, (.store 5 (.t 6) (.t 31)), none, 0, false, []⟩] false
def a82_9 : AC := .seq a82_8 .ret
def a82_10 : AC := .cond (.t 30) a82_9 .skip
def a82_11 : AC := .seq a82_7 a82_10
def a82_12 : AC := .reg [⟨(some 32), (.load true 5 (.t 7)), none, 0, false, []⟩,
    ⟨none, (.store 5 (.t 6) (.t 32)), none, 0, false, []⟩] false
def a82_13 : AC := .seq a82_12 .ret
def a82_14 : AC := .seq a82_11 a82_13
def a82_15 : AC := .seq a82_6 a82_14
def a82_16 : AC := .seq a82_5 a82_15
def a82_17 : AC := .seq a82_0 a82_16
def af82 : AF := { ntmps := 33, res := [(.cell 6 true 5)], body := a82_17 }
theorem tr82 : trF Tryz.prog Tryz.f82 = some af82 := by kernel_rfl
attribute [go_sem] af82 a82_0 a82_1 a82_2 a82_3 a82_4 a82_5 a82_6 a82_7 a82_8 a82_9 a82_10 a82_11 a82_12 a82_13 a82_14 a82_15 a82_16 a82_17
def a71_0 : AC := .reg [⟨(some 4), (.mv (.c (.int .i64 0))), none, 0, false, []⟩] false
def a71_1 : AC := .reg [⟨(some 5), (.mv (.t 0)), none, 0, false, []⟩] false
def a71_2 : AC := .reg [⟨(some 7), (.bin 0 .eql (.t 5) (.c (.int .i64 3))), none, 0, false, []⟩,
    ⟨(some 6), (.mv (.t 7)), none, 0, false, []⟩] false
def a71_3 : AC := .reg [⟨(some 8), (.bin 0 .eql (.t 5) (.c (.int .i64 5))), none, 0, false, []⟩,
    ⟨(some 6), (.mv (.t 8)), none, 0, false, []⟩] false
def a71_4 : AC := .reg [⟨(some 9), (.bin 0 .eql (.t 5) (.c (.int .i64 6))), none, 0, false, []⟩,
    ⟨(some 6), (.mv (.t 9)), none, 0, false, []⟩] false
def a71_5 : AC := .reg [⟨(some 10), (.bin 0 .eql (.t 5) (.c (.int .i64 7))), none, 0, false, []⟩,
    ⟨(some 6), (.mv (.t 10)), none, 0, false, []⟩] false
def a71_6 : AC := .reg [⟨(some 11), (.bin 0 .eql (.t 5) (.c (.int .i64 8))), none, 0, false, []⟩,
    ⟨(some 6), (.mv (.t 11)), none, 0, false, []⟩] false
def a71_7 : AC := .reg [⟨(some 12), (.bin 0 .eql (.t 5) (.c (.int .i64 9))), none, 0, false, []⟩,
    ⟨(some 6), (.mv (.t 12)), none, 0, false, []⟩] false
def a71_8 : AC := .reg [⟨(some 13), (.bin 0 .eql (.t 5) (.c (.int .i64 13))), none, 0, false, []⟩,
    ⟨(some 6), (.mv (.t 13)), none, 0, false, []⟩] false
def a71_9 : AC := .reg [⟨(some 14), (.bin 0 .eql (.t 5) (.c (.int .i64 14))), none, 0, false, []⟩,
    ⟨(some 6), (.mv (.t 14)), none, 0, false, []⟩] false
def a71_10 : AC := .reg [⟨(some 15), (.bin 0 .eql (.t 5) (.c (.int .i64 16))), none, 0, false, []⟩,
    ⟨(some 6), (.mv (.t 15)), none, 0, false, []⟩] false
def a71_11 : AC := .reg [⟨(some 16), (.bin 0 .eql (.t 5) (.c (.int .i64 17))), none, 0, false, []⟩,
    ⟨(some 6), (.mv (.t 16)), none, 0, false, []⟩] false
def a71_12 : AC := .cond (.t 6) .skip a71_11
def a71_13 : AC := .seq a71_10 a71_12
def a71_14 : AC := .cond (.t 6) .skip a71_13
def a71_15 : AC := .seq a71_9 a71_14
def a71_16 : AC := .cond (.t 6) .skip a71_15
def a71_17 : AC := .seq a71_8 a71_16
def a71_18 : AC := .cond (.t 6) .skip a71_17
def a71_19 : AC := .seq a71_7 a71_18
def a71_20 : AC := .cond (.t 6) .skip a71_19
def a71_21 : AC := .seq a71_6 a71_20
def a71_22 : AC := .cond (.t 6) .skip a71_21
def a71_23 : AC := .seq a71_5 a71_22
def a71_24 : AC := .cond (.t 6) .skip a71_23
def a71_25 : AC := .seq a71_4 a71_24
def a71_26 : AC := .cond (.t 6) .skip a71_25
def a71_27 : AC := .seq a71_3 a71_26
def a71_28 : AC := .cond (.t 6) .skip a71_27
def a71_29 : AC := .seq a71_2 a71_28
def a71_30 : AC := .reg [⟨(some 17), (.mv (.t 1)), none, 0, false, []⟩,
    ⟨(some 18), (.bin 0 .eql (.t 17) (.c (.int .i64 1))), none, 0, false, []⟩] false
def a71_31 : AC := .reg [⟨(some 4), (.mv (.c (.int .i64 1))), none, 0, false, []⟩] false
def a71_32 : AC := .seq a71_31 .ret
def a71_33 : AC := .cond (.t 18) a71_32 .skip
def a71_34 : AC := .seq a71_30 a71_33
def a71_35 : AC := .reg [⟨(some 20), (.bin 0 .eql (.t 5) (.c (.int .i64 4))), none, 0, false, []⟩,
    ⟨(some 19), (.mv (.t 20)), none, 0, false, []⟩] false
def a71_36 : AC := .reg [⟨(some 21), (.mv (.t 1)), none, 0, false, []⟩,
    ⟨(some 22), (.bin 0 .eql (.t 21) (.c (.int .i64 1))), none, 0, false, []⟩,
    ⟨(some 23), (.mv (.t 22)), none, 0, false, []⟩,
    ⟨(some 24), (.mv (.t 1)), (some (23, false)), 0, false, []⟩,
    ⟨(some 25), (.bin 0 .eql (.t 24) (.c (.int .i64 2))), (some (23, false)), 0, false, []⟩,
    ⟨(some 26), (.pick (.t 23) (.c (.bool true)) (.t 25)), none, 0, false, []⟩] false
def a71_37 : AC := .reg [⟨(some 4), (.mv (.c (.int .i64 1))), none, 0, false, []⟩] false
def a71_38 : AC := .seq a71_37 .ret
def a71_39 : AC := .cond (.t 26) a71_38 .skip
def a71_40 : AC := .seq a71_36 a71_39
def a71_41 : AC := .reg [⟨(some 28), (.bin 0 .eql (.t 5) (.c (.int .i64 22))), none, 0, false, []⟩,
    ⟨(some 27), (.mv (.t 28)), none, 0, false, []⟩] false
def a71_42 : AC := .reg [⟨(some 29), (.mv (.t 1)), none, 0, false, []⟩,
    ⟨(some 30), (.bin 0 .eql (.t 29) (.c (.int .i64 2))), none, 0, false, []⟩] false
def a71_43 : AC := .reg [⟨(some 4), (.mv (.c (.int .i64 2))), none, 0, false, []⟩] false
def a71_44 : AC := .seq a71_43 .ret
def a71_45 : AC := .cond (.t 30) a71_44 .skip
def a71_46 : AC := .seq a71_42 a71_45
def a71_47 : AC := .cond (.t 27) a71_46 .skip
def a71_48 : AC := .seq a71_41 a71_47
def a71_49 : AC := .cond (.t 19) a71_40 a71_48
def a71_50 : AC := .seq a71_35 a71_49
def a71_51 : AC := .cond (.t 6) a71_34 a71_50
def a71_52 : AC := .seq a71_29 a71_51
def a71_53 : AC := .blk 0 a71_52
def a71_54 : AC := .seq a71_1 a71_53
def a71_55 : AC := .reg [⟨(some 4), (.mv (.c (.int .i64 0))), none, 0, false, []⟩] false
def a71_56 : AC := .seq a71_55 .ret
def a71_57 : AC := .seq a71_54 a71_56
def a71_58 : AC := .seq a71_0 a71_57
def af71 : AF := { ntmps := 31, res := [(.t 4)], body := a71_58 }
theorem tr71 : trF Tryz.prog Tryz.f71 = some af71 := by kernel_rfl
attribute [go_sem] af71 a71_0 a71_1 a71_2 a71_3 a71_4 a71_5 a71_6 a71_7 a71_8 a71_9 a71_10 a71_11 a71_12 a71_13 a71_14 a71_15 a71_16 a71_17 a71_18 a71_19 a71_20 a71_21 a71_22 a71_23 a71_24 a71_25 a71_26 a71_27 a71_28 a71_29 a71_30 a71_31 a71_32 a71_33 a71_34 a71_35 a71_36 a71_37 a71_38 a71_39 a71_40 a71_41 a71_42 a71_43 a71_44 a71_45 a71_46 a71_47 a71_48 a71_49 a71_50 a71_51 a71_52 a71_53 a71_54 a71_55 a71_56 a71_57 a71_58
def a128_0 : AC := .reg [⟨(some 4), (.box (.t 1)), none, 0, false, []⟩,
    ⟨(some 5), (.box (.t 2)), none, 0, false, []⟩,
    ⟨(some 6), (.new [(.int .i64 0), (.int .i64 0), (.int .i64 0), (.int .i64 0), .nils]), none, 0, false, []⟩] false
def a128_1 : AC := .reg [⟨(some 7), (.mv (.t 0)), none, 0, false, []⟩,
    ⟨(some 8), (.call 83 [(.t 7)]), none, 0, false, []⟩,
    ⟨(some 9), (.un .not (.t 8)), none, 0, false, []⟩,
    ⟨(some 10), (.mv (.t 9)), none, 0, false, []⟩,
    ⟨(some 11), (.load true 5 (.t 4)), (some (10, false)), 0, false, []⟩,
    ⟨(some 12), (.load true 5 (.t 5)), (some (10, false)), 0, false, []⟩,
    ⟨(some 13), (.bslice 5 [(.t 11), (.t 12)]), (some (10, false)), 0, false, []⟩,
    ⟨(some 14), (.call 84 [(.t 13)]), (some (10, false)), 0, false, []⟩,
    ⟨(some 15), (.un .not (.t 14)), (some (10, false)), 0, false, []⟩,
    ⟨(some 16), (.pick (.t 10) (.c (.bool true)) (.t 15)), none, 0, false, []⟩] false
def a128_2 : AC := .reg [⟨(some 17), (.build [(.int .i64 0), (.int .i64 0), (.int .i64 0), (.int .i64 0), .nils] []), none, 0, false, []⟩,
    ⟨none, (.store 5 (.t 6) (.t 17)), none, 0, false, []⟩] false
def a128_3 : AC := .seq a128_2 .ret
def a128_4 : AC := .cond (.t 16) a128_3 .skip
def a128_5 : AC := .seq a128_1 a128_4
def a128_6 : AC := .reg [⟨(some 18), (.mv (.t 0)), none, 0, false, []⟩,
    ⟨(some 19), (.load true 5 (.t 4)), none, 0, false, []⟩,
    ⟨(some 20), (.load true 5 (.t 5)), none, 0, false, []⟩,
    ⟨(some 21), (.call 87 [(.t 18), (.t 19), (.t 20)]), none, 0, false, []⟩,
    ⟨(some 22), (.call 34 [(.t 21)]), none, 0, false, []⟩,
    ⟨none, (.store 5 (.t 6) (.t 22)), none, 0, false, []⟩] false
def a128_7 : AC := .seq a128_6 .ret
def a128_8 : AC := .seq a128_5 a128_7
def a128_9 : AC := .seq a128_0 a128_8
def af128 : AF := { ntmps := 23, res := [(.cell 6 true 5)], body := a128_9 }
theorem tr128 : trF Tryz.prog Tryz.f128 = some af128 := by kernel_rfl
attribute [go_sem] af128 a128_0 a128_1 a128_2 a128_3 a128_4 a128_5 a128_6 a128_7 a128_8 a128_9
def a114_0 : AC := .reg [⟨(some 1), (.box (.t 0)), none, 0, false, []⟩,
    ⟨(some 2), (.new [(.int .i64 0), (.int .i64 0), (.int .i64 0), (.int .i64 0), (.int .i64 0), .nils, (.int .i64 0), (.int .i64 0), (.int .i64 0), (.int .i64 0), .nils, (.int .i64 0), (.int .i64 0), (.int .i64 0), (.int .i64 0), .nils, (.int .i64 0), (.int .i64 0), (.int .i64 0), (.int .i64 0), .nils, (.int .i64 0), (.int .i64 0), (.int .i64 0), (.int .i64 0), .nils]), none, 0, false, []⟩] false
def a114_1 : AC := .reg [⟨(some 3), (.load true 26 (.t 1)), none, 0, false, []⟩,
    ⟨(some 4), (.call 101 [(.t 3)]), none, 0, false, []⟩,
    ⟨(some 5), (.un .not (.t 4)), none, 0, false, []⟩] false
def a114_2 : AC := .reg [⟨(some 6), (.build [(.int .i64 0), (.int .i64 0), (.int .i64 0), (.int .i64 0), (.int .i64 0), .nils, (.int .i64 0), (.int .i64 0), (.int .i64 0), (.int .i64 0), .nils, (.int .i64 0), (.int .i64 0), (.int .i64 0), (.int .i64 0), .nils, (.int .i64 0), (.int .i64 0), (.int .i64 0), (.int .i64 0), .nils, (.int .i64 0), (.int .i64 0), (.int .i64 0), (.int .i64 0), .nils] []), none, 0, false, []⟩,
    ⟨none, (.store 26 (.t 2) (.t 6)), none, 0, false, []⟩] false
def a114_3 : AC := .seq a114_2 .ret
def a114_4 : AC := .cond (.t 5) a114_3 .skip
def a114_5 : AC := .seq a114_1 a114_4
def a114_6 : AC := .reg [⟨(some 7), (.fad 0 (.t 1)), none, 0, false, []⟩,
    ⟨(some 8), (.load false 1 (.t 7)), none, 1, true, []⟩,
    ⟨(some 9), (.fad 6 (.t 1)), none, 2, false, []⟩,
    ⟨(some 10), (.load true 5 (.t 9)), none, 3, true, []⟩,
    ⟨(some 11), (.fad 1 (.t 1)), none, 4, false, []⟩,
    ⟨(some 12), (.load true 5 (.t 11)), none, 5, true, []⟩,
    ⟨(some 13), (.fad 16 (.t 1)), none, 6, false, []⟩,
    ⟨(some 14), (.load true 5 (.t 13)), none, 7, true, []⟩,
    ⟨(some 15), (.fad 11 (.t 1)), none, 8, false, []⟩,
    ⟨(some 16), (.load true 5 (.t 15)), none, 9, true, []⟩,
    ⟨(some 17), (.fad 0 (.t 1)), none, 10, false, []⟩,
    ⟨(some 18), (.load false 1 (.t 17)), none, 11, true, []⟩,
    ⟨(some 19), (.bin 0 .add (.t 18) (.c (.int .i64 1))), none, 12, false, []⟩,
    ⟨(some 20), (.fad 0 (.t 1)), none, 13, false, []⟩,
    ⟨(some 21), (.load false 1 (.t 20)), none, 14, false, []⟩,
    ⟨(some 22), (.call 86 [(.t 21)]), none, 15, true, [1, 3, 5, 7, 9, 11]⟩,
    ⟨(some 23), (.fad 0 (.t 1)), none, 16, false, []⟩,
    ⟨(some 24), (.load false 1 (.t 23)), none, 17, false, [15]⟩,
    ⟨(some 25), (.fad 1 (.t 1)), none, 18, false, []⟩,
    ⟨(some 26), (.load true 5 (.t 25)), none, 19, false, [15]⟩,
    ⟨(some 27), (.fad 11 (.t 1)), none, 20, false, []⟩,
    ⟨(some 28), (.load true 5 (.t 27)), none, 21, false, [15]⟩,
    ⟨(some 29), (.call 87 [(.t 24), (.t 26), (.t 28)]), none, 22, true, [1, 3, 5, 7, 9, 11]⟩,
    ⟨(some 30), (.fad 0 (.t 1)), none, 23, false, []⟩,
    ⟨(some 31), (.load false 1 (.t 30)), none, 24, false, [15, 22]⟩,
    ⟨(some 32), (.fad 6 (.t 1)), none, 25, false, []⟩,
    ⟨(some 33), (.load true 5 (.t 32)), none, 26, false, [15, 22]⟩,
    ⟨(some 34), (.fad 16 (.t 1)), none, 27, false, []⟩,
    ⟨(some 35), (.load true 5 (.t 34)), none, 28, false, [15, 22]⟩,
    ⟨(some 36), (.call 87 [(.t 31), (.t 33), (.t 35)]), none, 29, true, [1, 3, 5, 7, 9, 11]⟩,
    ⟨(some 37), (.fad 21 (.t 1)), none, 30, false, []⟩,
    ⟨(some 38), (.load true 5 (.t 37)), none, 31, false, [15, 22, 29]⟩,
    ⟨(some 39), (.bslice 5 [(.t 22), (.t 29), (.t 36), (.t 38)]), none, 32, false, [1, 3, 5, 7, 9, 11]⟩,
    ⟨(some 40), (.call 58 [(.c (.int .i64 23)), (.t 19), (.c (.int .i64 0)), (.c (.int .i64 3)), (.t 39)]), none, 33, false, [1, 3, 5, 7, 9]⟩,
    ⟨(some 41), (.call 85 [(.t 8), (.t 10), (.t 12), (.t 14), (.t 16), (.t 40)]), none, 34, false, []⟩,
    ⟨none, (.store 26 (.t 2) (.t 41)), none, 35, false, []⟩] true
def a114_7 : AC := .seq a114_6 .ret
def a114_8 : AC := .seq a114_5 a114_7
def a114_9 : AC := .seq a114_0 a114_8
def af114 : AF := { ntmps := 42, res := [(.cell 2 true 26)], body := a114_9 }
theorem tr114 : trF Tryz.prog Tryz.f114 = some af114 := by kernel_rfl
attribute [go_sem] af114 a114_0 a114_1 a114_2 a114_3 a114_4 a114_5 a114_6 a114_7 a114_8 a114_9
def a129_0 : AC := .reg [⟨(some 1), (.box (.t 0)), none, 0, false, []⟩,
    ⟨(some 2), (.new [(.int .i64 0), (.int .i64 0), (.int .i64 0), (.int .i64 0), .nils]), none, 0, false, []⟩] false
def a129_1 : AC := .reg [⟨(some 3), (.load true 26 (.t 1)), none, 0, false, []⟩,
    ⟨(some 4), (.call 101 [(.t 3)]), none, 0, false, []⟩,
    ⟨(some 5), (.un .not (.t 4)), none, 0, false, []⟩] false
def a129_2 : AC := .reg [⟨(some 6), (.build [(.int .i64 0), (.int .i64 0), (.int .i64 0), (.int .i64 0), .nils] []), none, 0, false, []⟩,
    ⟨none, (.store 5 (.t 2) (.t 6)), none, 0, false, []⟩] false
def a129_3 : AC := .seq a129_2 .ret
def a129_4 : AC := .cond (.t 5) a129_3 .skip
def a129_5 : AC := .seq a129_1 a129_4
def a129_6 : AC := .reg [⟨(some 7), (.fad 0 (.t 1)), none, 0, false, []⟩,
    ⟨(some 8), (.load false 1 (.t 7)), none, 0, false, []⟩,
    ⟨(some 9), (.fad 1 (.t 1)), none, 0, false, []⟩,
    ⟨(some 10), (.load true 5 (.t 9)), none, 0, false, []⟩,
    ⟨(some 11), (.fad 11 (.t 1)), none, 0, false, []⟩,
    ⟨(some 12), (.load true 5 (.t 11)), none, 0, false, []⟩,
    ⟨(some 13), (.fad 16 (.t 1)), none, 0, false, []⟩,
    ⟨(some 14), (.load true 5 (.t 13)), none, 0, false, []⟩,
    ⟨(some 15), (.fad 21 (.t 1)), none, 0, false, []⟩,
    ⟨(some 16), (.load true 5 (.t 15)), none, 0, false, []⟩,
    ⟨(some 17), (.bslice 5 [(.t 10), (.t 12), (.t 14), (.t 16)]), none, 0, false, []⟩,
    ⟨(some 18), (.call 110 [(.c (.int .i64 10)), (.t 8), (.t 17)]), none, 0, false, []⟩,
    ⟨none, (.store 5 (.t 2) (.t 18)), none, 0, false, []⟩] false
def a129_7 : AC := .seq a129_6 .ret
def a129_8 : AC := .seq a129_5 a129_7
def a129_9 : AC := .seq a129_0 a129_8
def af129 : AF := { ntmps := 19, res := [(.cell 2 true 5)], body := a129_9 }
theorem tr129 : trF Tryz.prog Tryz.f129 = some af129 := by kernel_rfl
attribute [go_sem] af129 a129_0 a129_1 a129_2 a129_3 a129_4 a129_5 a129_6 a129_7 a129_8 a129_9
def a72_0 : AC := .reg [⟨(some 2), (.box (.t 0)), none, 0, false, []⟩,
    ⟨(some 4), (.new [(.int .i64 0), (.int .i64 0), (.int .i64 0), (.int .i64 0), (.int .i64 0), .nils, (.int .i64 0), (.int .i64 0), (.int .i64 0), (.int .i64 0), .nils, (.int .i64 0), (.int .i64 0), (.int .i64 0), (.int .i64 0), .nils, (.int .i64 0), (.int .i64 0), (.int .i64 0), (.int .i64 0), .nils, (.int .i64 0), (.int .i64 0), (.int .i64 0), (.int .i64 0), .nils]), none, 0, false, []⟩] false
def a72_1 : AC := .reg [⟨(some 6), (.load true 26 (.t 2)), none, 0, false, []⟩,
    ⟨(some 7), (.call 101 [(.t 6)]), none, 0, false, []⟩,
    ⟨(some 8), (.un .not (.t 7)), none, 0, false, []⟩,
    ⟨(some 9), (.mv (.t 8)), none, 0, false, []⟩,
    ⟨(some 10), (.mv (.t 1)), (some (9, false)), 0, false, []⟩,
    ⟨(some 11), (.bin 0 .lss (.t 10) (.c (.int .i64 0))), (some (9, false)), 0, false, []⟩,
    ⟨(some 12), (.pick (.t 9) (.c (.bool true)) (.t 11)), none, 0, false, []⟩] false
def a72_2 : AC := .reg [⟨(some 13), (.build [(.int .i64 0), (.int .i64 0), (.int .i64 0), (.int .i64 0), (.int .i64 0), .nils, (.int .i64 0), (.int .i64 0), (.int .i64 0), (.int .i64 0), .nils, (.int .i64 0), (.int .i64 0), (.int .i64 0), (.int .i64 0), .nils, (.int .i64 0), (.int .i64 0), (.int .i64 0), (.int .i64 0), .nils, (.int .i64 0), (.int .i64 0), (.int .i64 0), (.int .i64 0), .nils] []), none, 0, false, []⟩,
    ⟨none, (.store 26 (.t 4) (.t 13)), none, 0, false, []⟩] false
def a72_3 : AC := .seq a72_2 .ret
def a72_4 : AC := .cond (.t 12) a72_3 .skip
def a72_5 : AC := .seq a72_1 a72_4
def a72_6 : AC := .reg [⟨(some 14), (.fad 0 (.t 2)), none, 0, false, []⟩,
    ⟨(some 15), (.load false 1 (.t 14)), none, 1, true, []⟩,
    ⟨(some 16), (.fad 1 (.t 2)), none, 2, false, []⟩,
    ⟨(some 17), (.load true 5 (.t 16)), none, 3, true, []⟩,
    ⟨(some 18), (.mv (.t 1)), none, 4, false, []⟩,
    ⟨(some 19), (.call 82 [(.t 17), (.t 18), (.c (.int .i64 0))]), none, 5, true, [1]⟩,
    ⟨(some 20), (.fad 6 (.t 2)), none, 6, false, []⟩,
    ⟨(some 21), (.load true 5 (.t 20)), none, 7, true, [5]⟩,
    ⟨(some 22), (.mv (.t 1)), none, 8, false, []⟩,
    ⟨(some 23), (.call 82 [(.t 21), (.t 22), (.c (.int .i64 0))]), none, 9, true, [1]⟩,
    ⟨(some 24), (.fad 11 (.t 2)), none, 10, false, []⟩,
    ⟨(some 25), (.load true 5 (.t 24)), none, 11, true, [5, 9]⟩,
    ⟨(some 26), (.mv (.t 1)), none, 12, false, []⟩,
    ⟨(some 27), (.call 82 [(.t 25), (.t 26), (.c (.int .i64 0))]), none, 13, true, [1]⟩,
    ⟨(some 28), (.fad 16 (.t 2)), none, 14, false, []⟩,
    ⟨(some 29), (.load true 5 (.t 28)), none, 15, true, [5, 9, 13]⟩,
    ⟨(some 30), (.mv (.t 1)), none, 16, false, []⟩,
    ⟨(some 31), (.call 82 [(.t 29), (.t 30), (.c (.int .i64 0))]), none, 17, true, [1]⟩,
    ⟨(some 32), (.fad 21 (.t 2)), none, 18, false, []⟩,
    ⟨(some 33), (.load true 5 (.t 32)), none, 19, true, [5, 9, 13, 17]⟩,
    ⟨(some 34), (.mv (.t 1)), none, 20, false, []⟩,
    ⟨(some 35), (.call 82 [(.t 33), (.t 34), (.c (.int .i64 0))]), none, 21, true, [1]⟩,
    ⟨(some 36), (.build [(.int .i64 0), (.int .i64 0), (.int .i64 0), (.int .i64 0), (.int .i64 0), .nils, (.int .i64 0), (.int .i64 0), (.int .i64 0), (.int .i64 0), .nils, (.int .i64 0), (.int .i64 0), (.int .i64 0), (.int .i64 0), .nils, (.int .i64 0), (.int .i64 0), (.int .i64 0), (.int .i64 0), .nils, (.int .i64 0), (.int .i64 0), (.int .i64 0), (.int .i64 0), .nils] [(0, (1, (.t 15))), (1, (5, (.t 19))), (6, (5, (.t 23))), (11, (5, (.t 27))), (16, (5, (.t 31))), (21, (5, (.t 35)))]), none, 22, false, []⟩,
    ⟨(some 5), (.new [(.int .i64 0), (.int .i64 0), (.int .i64 0), (.int .i64 0), (.int .i64 0), .nils, (.int .i64 0), (.int .i64 0), (.int .i64 0), (.int .i64 0), .nils, (.int .i64 0), (.int .i64 0), (.int .i64 0), (.int .i64 0), .nils, (.int .i64 0), (.int .i64 0), (.int .i64 0), (.int .i64 0), .nils, (.int .i64 0), (.int .i64 0), (.int .i64 0), (.int .i64 0), .nils]), none, 23, false, [1, 3, 5, 7, 9, 11, 13, 15, 17, 19, 21]⟩,
    ⟨none, (.store 26 (.t 5) (.t 36)), none, 24, false, []⟩] true
def a72_7 : AC := .reg [⟨(some 37), (.load true 26 (.t 5)), none, 0, false, []⟩,
    ⟨(some 38), (.call 101 [(.t 37)]), none, 0, false, []⟩,
    ⟨(some 39), (.un .not (.t 38)), none, 0, false, []⟩] false
def a72_8 : AC := .reg [⟨(some 40), (.build [(.int .i64 0), (.int .i64 0), (.int .i64 0), (.int .i64 0), (.int .i64 0), .nils, (.int .i64 0), (.int .i64 0), (.int .i64 0), (.int .i64 0), .nils, (.int .i64 0), (.int .i64 0), (.int .i64 0), (.int .i64 0), .nils, (.int .i64 0), (.int .i64 0), (.int .i64 0), (.int .i64 0), .nils, (.int .i64 0), (.int .i64 0), (.int .i64 0), (.int .i64 0), .nils] []), none, 0, false, []⟩,
    ⟨none, (.store 26 (.t 4) (.t 40)), none, 0, false, []⟩] false
def a72_9 : AC := .seq a72_8 .ret
def a72_10 : AC := .cond (.t 39) a72_9 .skip
def a72_11 : AC := .seq a72_7 a72_10
def a72_12 : AC := .reg [⟨(some 41), (.load true 26 (.t 5)), none, 0, false, []⟩,
    ⟨none, (.store 26 (.t 4) (.t 41)), none, 0, false, []⟩] false
def a72_13 : AC := .seq a72_12 .ret
def a72_14 : AC := .seq a72_11 a72_13
def a72_15 : AC := .seq a72_6 a72_14
def a72_16 : AC := .seq a72_5 a72_15
def a72_17 : AC := .seq a72_0 a72_16
def af72 : AF := { ntmps := 42, res := [(.cell 4 true 26)], body := a72_17 }
theorem tr72 : trF Tryz.prog Tryz.f72 = some af72 := by kernel_rfl
attribute [go_sem] af72 a72_0 a72_1 a72_2 a72_3 a72_4 a72_5 a72_6 a72_7 a72_8 a72_9 a72_10 a72_11 a72_12 a72_13 a72_14 a72_15 a72_16 a72_17
def a152_0 : AC := .reg [⟨(some 6), (.box (.t 1)), none, 0, false, []⟩,
    ⟨(some 7), (.box (.t 2)), none, 0, false, []⟩,
    ⟨(some 8), (.box (.t 3)), none, 0, false, []⟩,
    ⟨(some 9), (.box (.t 4)), none, 0, false, []⟩,
    ⟨(some 10), (.new [(.int .i64 0), (.int .i64 0), (.int .i64 0), (.int .i64 0), (.int .i64 0), .nils, (.int .i64 0), (.int .i64 0), (.int .i64 0), (.int .i64 0), .nils, (.int .i64 0), (.int .i64 0), (.int .i64 0), (.int .i64 0), .nils, (.int .i64 0), (.int .i64 0), (.int .i64 0), (.int .i64 0), .nils, (.int .i64 0), (.int .i64 0), (.int .i64 0), (.int .i64 0), .nils]), none, 0, false, []⟩] false
def a152_1 : AC := .reg [⟨(some 11), (.mv (.t 0)), none, 0, false, []⟩,
    ⟨(some 12), (.call 83 [(.t 11)]), none, 0, false, []⟩,
    ⟨(some 13), (.un .not (.t 12)), none, 0, false, []⟩,
    ⟨(some 14), (.mv (.t 13)), none, 0, false, []⟩,
    ⟨(some 15), (.load true 5 (.t 6)), (some (14, false)), 0, false, []⟩,
    ⟨(some 16), (.load true 5 (.t 7)), (some (14, false)), 0, false, []⟩,
    ⟨(some 17), (.load true 5 (.t 8)), (some (14, false)), 0, false, []⟩,
    ⟨(some 18), (.load true 5 (.t 9)), (some (14, false)), 0, false, []⟩,
    ⟨(some 19), (.bslice 5 [(.t 15), (.t 16), (.t 17), (.t 18)]), (some (14, false)), 0, false, []⟩,
    ⟨(some 20), (.call 84 [(.t 19)]), (some (14, false)), 0, false, []⟩,
    ⟨(some 21), (.un .not (.t 20)), (some (14, false)), 0, false, []⟩,
    ⟨(some 22), (.pick (.t 14) (.c (.bool true)) (.t 21)), none, 0, false, []⟩] false
def a152_2 : AC := .reg [⟨(some 23), (.build [(.int .i64 0), (.int .i64 0), (.int .i64 0), (.int .i64 0), (.int .i64 0), .nils, (.int .i64 0), (.int .i64 0), (.int .i64 0), (.int .i64 0), .nils, (.int .i64 0), (.int .i64 0), (.int .i64 0), (.int .i64 0), .nils, (.int .i64 0), (.int .i64 0), (.int .i64 0), (.int .i64 0), .nils, (.int .i64 0), (.int .i64 0), (.int .i64 0), (.int .i64 0), .nils] []), none, 0, false, []⟩,
    ⟨none, (.store 26 (.t 10) (.t 23)), none, 0, false, []⟩] false
def a152_3 : AC := .seq a152_2 .ret
def a152_4 : AC := .cond (.t 22) a152_3 .skip
def a152_5 : AC := .seq a152_1 a152_4
def a152_6 : AC := .reg [⟨(some 24), (.mv (.t 0)), none, 0, false, []⟩,
    ⟨(some 25), (.load true 5 (.t 6)), none, 1, true, []⟩,
    ⟨(some 26), (.load true 5 (.t 6)), none, 2, true, []⟩,
    ⟨(some 27), (.load true 5 (.t 7)), none, 3, true, []⟩,
    ⟨(some 28), (.load true 5 (.t 8)), none, 4, true, []⟩,
    ⟨(some 29), (.mv (.t 0)), none, 5, false, []⟩,
    ⟨(some 30), (.load true 5 (.t 6)), none, 6, false, []⟩,
    ⟨(some 31), (.load true 5 (.t 7)), none, 7, false, []⟩,
    ⟨(some 32), (.load true 5 (.t 8)), none, 8, false, []⟩,
    ⟨(some 33), (.load true 5 (.t 9)), none, 9, false, []⟩,
    ⟨(some 34), (.bslice 5 [(.t 30), (.t 31), (.t 32), (.t 33)]), none, 10, false, [1, 2, 3, 4]⟩,
    ⟨(some 35), (.call 58 [(.c (.int .i64 23)), (.t 29), (.c (.int .i64 0)), (.c (.int .i64 11)), (.t 34)]), none, 11, false, [1, 2, 3, 4]⟩,
    ⟨(some 36), (.call 85 [(.t 24), (.t 25), (.t 26), (.t 27), (.t 28), (.t 35)]), none, 12, false, []⟩,
    ⟨none, (.store 26 (.t 10) (.t 36)), none, 13, false, []⟩] true
def a152_7 : AC := .seq a152_6 .ret
def a152_8 : AC := .seq a152_5 a152_7
def a152_9 : AC := .seq a152_0 a152_8
def af152 : AF := { ntmps := 37, res := [(.cell 10 true 26)], body := a152_9 }
theorem tr152 : trF Tryz.prog Tryz.f152 = some af152 := by kernel_rfl
attribute [go_sem] af152 a152_0 a152_1 a152_2 a152_3 a152_4 a152_5 a152_6 a152_7 a152_8 a152_9
def a112_0 : AC := .reg [⟨(some 6), (.box (.t 1)), none, 0, false, []⟩,
    ⟨(some 7), (.box (.t 2)), none, 0, false, []⟩,
    ⟨(some 8), (.box (.t 3)), none, 0, false, []⟩,
    ⟨(some 9), (.box (.t 4)), none, 0, false, []⟩,
    ⟨(some 10), (.new [(.int .i64 0), (.int .i64 0), (.int .i64 0), (.int .i64 0), (.int .i64 0), .nils, (.int .i64 0), (.int .i64 0), (.int .i64 0), (.int .i64 0), .nils, (.int .i64 0), (.int .i64 0), (.int .i64 0), (.int .i64 0), .nils, (.int .i64 0), (.int .i64 0), (.int .i64 0), (.int .i64 0), .nils, (.int .i64 0), (.int .i64 0), (.int .i64 0), (.int .i64 0), .nils]), none, 0, false, []⟩] false
def a112_1 : AC := .reg [⟨(some 11), (.mv (.t 0)), none, 0, false, []⟩,
    ⟨(some 12), (.call 83 [(.t 11)]), none, 0, false, []⟩,
    ⟨(some 13), (.un .not (.t 12)), none, 0, false, []⟩,
    ⟨(some 14), (.mv (.t 13)), none, 0, false, []⟩,
    ⟨(some 15), (.load true 5 (.t 6)), (some (14, false)), 0, false, []⟩,
    ⟨(some 16), (.load true 5 (.t 7)), (some (14, false)), 0, false, []⟩,
    ⟨(some 17), (.load true 5 (.t 8)), (some (14, false)), 0, false, []⟩,
    ⟨(some 18), (.load true 5 (.t 9)), (some (14, false)), 0, false, []⟩,
    ⟨(some 19), (.bslice 5 [(.t 15), (.t 16), (.t 17), (.t 18)]), (some (14, false)), 0, false, []⟩,
    ⟨(some 20), (.call 84 [(.t 19)]), (some (14, false)), 0, false, []⟩,
    ⟨(some 21), (.un .not (.t 20)), (some (14, false)), 0, false, []⟩,
    ⟨(some 22), (.pick (.t 14) (.c (.bool true)) (.t 21)), none, 0, false, []⟩] false
def a112_2 : AC := .reg [⟨(some 23), (.build [(.int .i64 0), (.int .i64 0), (.int .i64 0), (.int .i64 0), (.int .i64 0), .nils, (.int .i64 0), (.int .i64 0), (.int .i64 0), (.int .i64 0), .nils, (.int .i64 0), (.int .i64 0), (.int .i64 0), (.int .i64 0), .nils, (.int .i64 0), (.int .i64 0), (.int .i64 0), (.int .i64 0), .nils, (.int .i64 0), (.int .i64 0), (.int .i64 0), (.int .i64 0), .nils] []), none, 0, false, []⟩,
    ⟨none, (.store 26 (.t 10) (.t 23)), none, 0, false, []⟩] false
def a112_3 : AC := .seq a112_2 .ret
def a112_4 : AC := .cond (.t 22) a112_3 .skip
def a112_5 : AC := .seq a112_1 a112_4
def a112_6 : AC := .reg [⟨(some 24), (.mv (.t 0)), none, 0, false, []⟩,
    ⟨(some 25), (.load true 5 (.t 6)), none, 1, true, []⟩,
    ⟨(some 26), (.load true 5 (.t 7)), none, 2, true, []⟩,
    ⟨(some 27), (.load true 5 (.t 9)), none, 3, true, []⟩,
    ⟨(some 28), (.mv (.t 0)), none, 4, false, []⟩,
    ⟨(some 29), (.load true 5 (.t 6)), none, 5, true, []⟩,
    ⟨(some 30), (.load true 5 (.t 7)), none, 6, true, []⟩,
    ⟨(some 31), (.load true 5 (.t 8)), none, 7, true, []⟩,
    ⟨(some 32), (.load true 5 (.t 9)), none, 8, true, []⟩,
    ⟨(some 33), (.bslice 5 [(.t 29), (.t 30), (.t 31), (.t 32)]), none, 9, true, [1, 2, 3]⟩,
    ⟨(some 34), (.call 58 [(.c (.int .i64 23)), (.t 28), (.c (.int .i64 0)), (.c (.int .i64 5)), (.t 33)]), none, 10, true, [1, 2, 3]⟩,
    ⟨(some 35), (.mv (.t 0)), none, 11, false, []⟩,
    ⟨(some 36), (.load true 5 (.t 6)), none, 12, false, [9, 10]⟩,
    ⟨(some 37), (.load true 5 (.t 7)), none, 13, false, [9, 10]⟩,
    ⟨(some 38), (.load true 5 (.t 8)), none, 14, false, [9, 10]⟩,
    ⟨(some 39), (.load true 5 (.t 9)), none, 15, false, [9, 10]⟩,
    ⟨(some 40), (.bslice 5 [(.t 36), (.t 37), (.t 38), (.t 39)]), none, 16, false, [1, 2, 3, 5, 6, 7, 8, 9, 10]⟩,
    ⟨(some 41), (.call 58 [(.c (.int .i64 23)), (.t 35), (.c (.int .i64 0)), (.c (.int .i64 8)), (.t 40)]), none, 17, false, [1, 2, 3]⟩,
    ⟨(some 42), (.call 85 [(.t 24), (.t 25), (.t 26), (.t 27), (.t 34), (.t 41)]), none, 18, false, []⟩,
    ⟨none, (.store 26 (.t 10) (.t 42)), none, 19, false, []⟩] true
def a112_7 : AC := .seq a112_6 .ret
def a112_8 : AC := .seq a112_5 a112_7
def a112_9 : AC := .seq a112_0 a112_8
def af112 : AF := { ntmps := 43, res := [(.cell 10 true 26)], body := a112_9 }
theorem tr112 : trF Tryz.prog Tryz.f112 = some af112 := by kernel_rfl
attribute [go_sem] af112 a112_0 a112_1 a112_2 a112_3 a112_4 a112_5 a112_6 a112_7 a112_8 a112_9
end Go.Proofs.YtkldipbhenabfaaGreat.Abs

