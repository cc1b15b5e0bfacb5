/- The abstract code of functions, printed by program; that it is the translation of the model's code is decided by the kernel. -/
import Derived.Test.YtkldipbhenabfaaGreatQEv
import Derived.Test.YtkldipbhenabfaaGreatProg
import Derived.KernelRfl
namespace Go.Proofs.YtkldipbhenabfaaGreat.Abs
open Go Go.Proofs Go.Proofs.YtkldipbhenabfaaGreat
def a3_0 : AC := .reg [⟨(some 4), (.mv (.c (.bool false))), none, 0, false, []⟩] false
def a3_1 : AC := .reg [⟨(some 12), (.mv (.t 0)), none, 0, false, []⟩,
    ⟨(some 13), (.call 7 [(.t 12), (.c (.int .i64 40))]), none, 0, false, []⟩,
    ⟨(some 14), (.mv (.t 13)), none, 0, false, []⟩,
    ⟨(some 15), (.mv (.t 1)), (some (14, false)), 0, false, []⟩,
    ⟨(some 16), (.call 7 [(.t 15), (.c (.int .i64 40))]), (some (14, false)), 0, false, []⟩,
    ⟨(some 17), (.pick (.t 14) (.c (.bool true)) (.t 16)), none, 0, false, []⟩] false
def a3_2 : AC := .reg [⟨(some 4), (.mv (.c (.bool true))), none, 0, false, []⟩] false
def a3_3 : AC := .seq a3_2 .ret
def a3_4 : AC := .cond (.t 17) a3_3 .skip
def a3_5 : AC := .seq a3_1 a3_4
def a3_6 : AC := .reg [⟨(some 19), (.mv (.t 0)), none, 0, false, []⟩,
    ⟨(some 20), (.mv (.t 1)), none, 0, false, []⟩,
    ⟨(some 21), (.call 8 [(.t 19), (.t 20)]), none, 0, false, []⟩,
    ⟨(some 18), (.mv (.t 21)), none, 0, false, []⟩,
    ⟨(some 22), (.ext (.t 18) 0), none, 0, false, []⟩,
    ⟨(some 23), (.ext (.t 18) 1), none, 0, false, []⟩,
    ⟨(some 24), (.ext (.t 18) 2), none, 0, false, []⟩,
    ⟨(some 5), (.mv (.t 22)), none, 0, false, []⟩,
    ⟨(some 6), (.mv (.t 23)), none, 0, false, []⟩,
    ⟨(some 7), (.mv (.t 24)), none, 0, false, []⟩] false
def a3_7 : AC := .reg [⟨(some 26), (.mv (.t 0)), none, 0, false, []⟩,
    ⟨(some 27), (.mv (.t 1)), none, 0, false, []⟩,
    ⟨(some 28), (.call 9 [(.t 26), (.t 27)]), none, 0, false, []⟩,
    ⟨(some 25), (.mv (.t 28)), none, 0, false, []⟩,
    ⟨(some 29), (.ext (.t 25) 0), none, 0, false, []⟩,
    ⟨(some 30), (.ext (.t 25) 1), none, 0, false, []⟩,
    ⟨(some 31), (.ext (.t 25) 2), none, 0, false, []⟩,
    ⟨(some 8), (.mv (.t 29)), none, 0, false, []⟩,
    ⟨(some 9), (.mv (.t 30)), none, 0, false, []⟩,
    ⟨(some 10), (.mv (.t 31)), none, 0, false, []⟩] false
def a3_8 : AC := .reg [⟨(some 32), (.mv (.t 7)), none, 0, false, []⟩,
    ⟨(some 33), (.mv (.t 10)), none, 0, false, []⟩,
    ⟨(some 34), (.bin 1 .neq (.t 32) (.t 33)), none, 0, false, []⟩,
    ⟨(some 35), (.mv (.t 34)), none, 0, false, []⟩,
    ⟨(some 36), (.mv (.t 5)), (some (35, false)), 0, false, []⟩,
    ⟨(some 37), (.mv (.t 8)), (some (35, false)), 0, false, []⟩,
    ⟨(some 38), (.call 10 [(.t 36), (.t 37)]), (some (35, false)), 0, false, []⟩,
    ⟨(some 39), (.un .not (.t 38)), (some (35, false)), 0, false, []⟩,
    ⟨(some 40), (.pick (.t 35) (.c (.bool true)) (.t 39)), none, 0, false, []⟩,
    ⟨(some 41), (.mv (.t 40)), none, 0, false, []⟩,
    ⟨(some 42), (.mv (.t 6)), (some (41, false)), 0, false, []⟩,
    ⟨(some 43), (.len false (.t 42)), (some (41, false)), 0, false, []⟩,
    ⟨(some 44), (.mv (.t 9)), (some (41, false)), 0, false, []⟩,
    ⟨(some 45), (.len false (.t 44)), (some (41, false)), 0, false, []⟩,
    ⟨(some 46), (.bin 0 .neq (.t 43) (.t 45)), (some (41, false)), 0, false, []⟩,
    ⟨(some 47), (.pick (.t 41) (.c (.bool true)) (.t 46)), none, 0, false, []⟩] false
def a3_9 : AC := .reg [⟨(some 4), (.mv (.c (.bool false))), none, 0, false, []⟩] false
def a3_10 : AC := .seq a3_9 .ret
def a3_11 : AC := .cond (.t 47) a3_10 .skip
def a3_12 : AC := .seq a3_8 a3_11
def a3_13 : AC := .reg [⟨(some 11), (.mv (.c (.int .i64 0))), none, 0, false, []⟩] false
def a3_14 : AC := .reg [⟨(some 48), (.mv (.t 11)), none, 0, false, []⟩,
    ⟨(some 49), (.mv (.t 6)), none, 0, false, []⟩,
    ⟨(some 50), (.len false (.t 49)), none, 0, false, []⟩,
    ⟨(some 51), (.bin 0 .lss (.t 48) (.t 50)), none, 0, false, []⟩] false
def a3_15 : AC := .cond (.t 51) .skip (.exit 0)
def a3_16 : AC := .seq a3_14 a3_15
def a3_17 : AC := .reg [⟨(some 54), (.mv (.t 6)), none, 0, false, []⟩,
    ⟨(some 55), (.mv (.t 11)), none, 1, false, []⟩,
    ⟨(some 56), (.iad 26 (.t 54) (.t 55)), none, 2, false, []⟩,
    ⟨(some 57), (.load true 26 (.t 56)), none, 3, false, []⟩,
    ⟨(some 58), (.mv (.t 9)), none, 4, false, []⟩,
    ⟨(some 59), (.mv (.t 11)), none, 5, false, []⟩,
    ⟨(some 60), (.iad 26 (.t 58) (.t 59)), none, 6, false, []⟩,
    ⟨(some 61), (.load true 26 (.t 60)), none, 7, false, []⟩,
    ⟨(some 62), (.call 11 [(.t 57), (.t 61), (.c (.bool true))]), none, 8, false, []⟩,
    ⟨(some 63), (.un .not (.t 62)), none, 9, false, []⟩] true
def a3_18 : AC := .reg [⟨(some 4), (.mv (.c (.bool false))), none, 0, false, []⟩] false
def a3_19 : AC := .seq a3_18 .ret
def a3_20 : AC := .cond (.t 63) a3_19 .skip
def a3_21 : AC := .seq a3_17 a3_20
def a3_22 : AC := .blk 1 a3_21
def a3_23 : AC := .reg [⟨(some 52), (.mv (.t 11)), none, 0, false, []⟩,
    ⟨(some 53), (.bin 0 .add (.t 52) (.c (.int .i64 1))), none, 0, false, []⟩,
    ⟨(some 11), (.mv (.t 53)), none, 0, false, []⟩] false
def a3_24 : AC := .seq a3_22 a3_23
def a3_25 : AC := .seq a3_16 a3_24
def a3_26 : AC := .loop a3_25
def a3_27 : AC := .blk 0 a3_26
def a3_28 : AC := .seq a3_13 a3_27
def a3_29 : AC := .reg [⟨(some 64), (.call 12 []), none, 0, false, []⟩,
    ⟨(some 4), (.mv (.t 64)), none, 0, false, []⟩] false
def a3_30 : AC := .seq a3_29 .ret
def a3_31 : AC := .seq a3_28 a3_30
def a3_32 : AC := .seq a3_12 a3_31
def a3_33 : AC := .seq a3_7 a3_32
def a3_34 : AC := .seq a3_6 a3_33
def a3_35 : AC := .seq a3_5 a3_34
def a3_36 : AC := .seq a3_0 a3_35
def af3 : AF := { ntmps := 65, res := [(.t 4)], body := a3_36 }
theorem tr3 : trF Tryz.prog Tryz.f3 = some af3 := by kernel_rfl
attribute [go_sem] af3 a3_0 a3_1 a3_2 a3_3 a3_4 a3_5 a3_6 a3_7 a3_8 a3_9 a3_10 a3_11 a3_12 a3_13 a3_14 a3_15 a3_16 a3_17 a3_18 a3_19 a3_20 a3_21 a3_22 a3_23 a3_24 a3_25 a3_26 a3_27 a3_28 a3_29 a3_30 a3_31 a3_32 a3_33 a3_34 a3_35 a3_36
def a8_0 : AC := .reg [⟨(some 4), (.mv (.c .nils)), none, 0, false, []⟩,
    ⟨(some 5), (.mv (.c .nils)), none, 0, false, []⟩,
    ⟨(some 6), (.mv (.c (.bool false))), none, 0, false, []⟩] false
def a8_1 : AC := .reg [⟨(some 15), (.mv (.t 0)), none, 0, false, []⟩,
    ⟨(some 16), (.call 28 []), none, 0, false, []⟩,
    ⟨(some 17), (.call 27 [(.t 15), (.t 16)]), none, 0, false, []⟩,
    ⟨(some 18), (.un .not (.t 17)), none, 0, false, []⟩,
    ⟨(some 19), (.mv (.t 18)), none, 0, false, []⟩,
    ⟨(some 20), (.mv (.t 1)), (some (19, false)), 0, false, []⟩,
    ⟨(some 21), (.call 28 []), (some (19, false)), 0, false, []⟩,
    ⟨(some 22), (.call 27 [(.t 20), (.t 21)]), (some (19, false)), 0, false, []⟩,
    ⟨(some 23), (.un .not (.t 22)), (some (19, false)), 0, false, []⟩,
    ⟨(some 24), (.pick (.t 19) (.c (.bool true)) (.t 23)), none, 0, false, []⟩,
    ⟨(some 25), (.mv (.t 24)), none, 0, false, []⟩,
    ⟨(some 26), (.mv (.t 0)), (some (25, false)), 0, false, []⟩,
    ⟨(some 27), (.call 30 [(.t 26)]), (some (25, false)), 0, false, []⟩,
    ⟨(some 28), (.mv (.t 1)), (some (25, false)), 0, false, []⟩,
    ⟨(some 29), (.call 30 [(.t 28)]), (some (25, false)), 0, false, []⟩,
    ⟨(some 30), (.call 29 [(.t 27), (.t 29)]), (some (25, false)), 0, false, []⟩,
    ⟨(some 31), (.un .not (.t 30)), (some (25, false)), 0, false, []⟩,
    ⟨(some 32), (.pick (.t 25) (.c (.bool true)) (.t 31)), none, 0, false, []⟩] false
def a8_2 : AC := .reg [⟨(some 4), (.mv (.c .nils)), none, 0, false, []⟩,
    ⟨(some 5), (.mv (.c .nils)), none, 0, false, []⟩,
    ⟨(some 6), (.mv (.c (.bool false))), none, 0, false, []⟩] false
def a8_3 : AC := .seq a8_2 .ret
def a8_4 : AC := .cond (.t 32) a8_3 .skip
def a8_5 : AC := .seq a8_1 a8_4
def a8_6 : AC := .reg [⟨(some 7), (.mv (.c .nils)), none, 0, false, []⟩] false
def a8_7 : AC := .reg [⟨(some 8), (.mv (.c .nils)), none, 0, false, []⟩] false
def a8_8 : AC := .reg [⟨(some 33), (.mv (.t 0)), none, 0, false, []⟩,
    ⟨(some 34), (.len false (.t 33)), none, 0, false, []⟩,
    ⟨(some 35), (.mv (.c (.int .i64 0))), none, 0, false, []⟩] false
def a8_9 : AC := .reg [⟨(some 36), (.bin 0 .lss (.t 35) (.t 34)), none, 0, false, []⟩] false
def a8_10 : AC := .cond (.t 36) .skip (.exit 0)
def a8_11 : AC := .reg [⟨(some 37), (.mv (.t 35)), none, 0, false, []⟩,
    ⟨(some 9), (.mv (.t 37)), none, 0, false, []⟩] false
def a8_12 : AC := .reg [⟨(some 38), (.mv (.t 0)), none, 0, false, []⟩,
    ⟨(some 39), (.mv (.t 9)), none, 1, false, []⟩,
    ⟨(some 40), (.iad 6 (.t 38) (.t 39)), none, 2, true, []⟩,
    ⟨(some 41), (.fad 5 (.t 40)), none, 3, false, []⟩,
    ⟨(some 42), (.load false 1 (.t 41)), none, 4, true, []⟩,
    ⟨(some 43), (.mv (.t 8)), none, 5, false, []⟩,
    ⟨(some 44), (.mv (.t 0)), none, 6, false, []⟩,
    ⟨(some 45), (.mv (.t 9)), none, 7, false, []⟩,
    ⟨(some 46), (.iad 6 (.t 44) (.t 45)), none, 8, true, []⟩,
    ⟨(some 47), (.fad 0 (.t 46)), none, 9, false, []⟩,
    ⟨(some 48), (.load true 5 (.t 47)), none, 10, true, []⟩,
    ⟨(some 49), (.call 31 [(.t 43), (.t 48)]), none, 11, true, [2, 4]⟩,
    ⟨(some 50), (.mv (.t 8)), none, 12, false, []⟩,
    ⟨(some 51), (.mv (.t 1)), none, 13, false, []⟩,
    ⟨(some 52), (.mv (.t 9)), none, 14, false, []⟩,
    ⟨(some 53), (.iad 6 (.t 51) (.t 52)), none, 15, true, [11]⟩,
    ⟨(some 54), (.fad 0 (.t 53)), none, 16, false, []⟩,
    ⟨(some 55), (.load true 5 (.t 54)), none, 17, true, [11]⟩,
    ⟨(some 56), (.call 32 [(.t 50), (.t 55)]), none, 18, true, [2, 4]⟩,
    ⟨(some 11), (.new [(.int .i64 0), (.int .i64 0), (.int .i64 0), (.int .i64 0), .nils]), none, 19, true, [2, 4, 8, 10, 11, 15, 17, 18]⟩,
    ⟨(some 12), (.new [(.int .i64 0), (.int .i64 0), (.int .i64 0), (.int .i64 0), .nils]), none, 20, false, [2, 4, 8, 10, 11, 15, 17, 18, 19]⟩,
    ⟨(some 10), (.mv (.t 42)), none, 21, false, []⟩,
    ⟨none, (.store 5 (.t 11) (.t 49)), none, 22, false, []⟩,
    ⟨none, (.store 5 (.t 12) (.t 56)), none, 23, false, []⟩] true
def a8_13 : AC := .reg [⟨(some 58), (.load true 5 (.t 12)), none, 0, false, []⟩,
    ⟨(some 59), (.call 33 [(.t 58), (.c (.int .i64 1)), (.c (.int .i64 0))]), none, 0, false, []⟩,
    ⟨(some 57), (.mv (.t 59)), none, 0, false, []⟩,
    ⟨(some 60), (.ext (.t 57) 0), none, 0, false, []⟩,
    ⟨(some 61), (.ext (.t 57) 1), none, 0, false, []⟩,
    ⟨(some 13), (.new [(.int .i64 0), (.int .i64 0), (.int .i64 0), (.int .i64 0), .nils]), none, 0, false, []⟩,
    ⟨none, (.store 5 (.t 13) (.t 60)), none, 0, false, []⟩,
    ⟨(some 14), (.mv (.t 61)), none, 0, false, []⟩] false
def a8_14 : AC := .reg [⟨(some 62), (.mv (.t 7)), none, 0, false, []⟩,
    ⟨(some 63), (.load true 5 (.t 11)), none, 1, true, []⟩,
    ⟨(some 64), (.load true 5 (.t 13)), none, 2, true, []⟩,
    ⟨(some 65), (.mv (.t 10)), none, 3, false, []⟩,
    ⟨(some 66), (.load true 5 (.t 11)), none, 4, false, []⟩,
    ⟨(some 67), (.load true 5 (.t 12)), none, 5, false, []⟩,
    ⟨(some 68), (.call 35 [(.t 65), (.t 66), (.t 67)]), none, 6, false, [1, 2]⟩,
    ⟨(some 69), (.call 34 [(.t 68)]), none, 7, false, [1, 2]⟩,
    ⟨(some 70), (.bslice 5 [(.t 63), (.t 64), (.t 69)]), none, 8, false, []⟩,
    ⟨(some 71), (.app 5 56 (.t 62) (.t 70)), none, 9, false, []⟩,
    ⟨(some 7), (.mv (.t 71)), none, 10, false, []⟩] true
def a8_15 : AC := .reg [⟨(some 72), (.mv (.t 8)), none, 0, false, []⟩,
    ⟨(some 73), (.mv (.t 10)), none, 0, false, []⟩,
    ⟨(some 74), (.load true 5 (.t 11)), none, 0, false, []⟩,
    ⟨(some 75), (.load true 5 (.t 12)), none, 0, false, []⟩,
    ⟨(some 76), (.call 36 [(.t 72), (.t 73), (.t 74), (.t 75)]), none, 0, false, []⟩,
    ⟨(some 8), (.mv (.t 76)), none, 0, false, []⟩] false
def a8_16 : AC := .seq a8_14 a8_15
def a8_17 : AC := .seq a8_13 a8_16
def a8_18 : AC := .seq a8_12 a8_17
def a8_19 : AC := .seq a8_11 a8_18
def a8_20 : AC := .blk 1 a8_19
def a8_21 : AC := .reg [⟨(some 77), (.bin 0 .add (.t 35) (.c (.int .i64 1))), none, 0, false, []⟩,
    ⟨(some 35), (.mv (.t 77)), none, 0, false, []⟩] false
def a8_22 : AC := .seq a8_20 a8_21
def a8_23 : AC := .seq a8_10 a8_22
def a8_24 : AC := .seq a8_9 a8_23
def a8_25 : AC := .loop a8_24
def a8_26 : AC := .blk 0 a8_25
def a8_27 : AC := .seq a8_8 a8_26
def a8_28 : AC := .reg [⟨(some 78), (.mv (.t 7)), none, 0, false, []⟩,
    ⟨(some 79), (.mv (.t 8)), none, 0, false, []⟩,
    ⟨(some 4), (.mv (.t 78)), none, 0, false, []⟩,
    ⟨(some 5), (.mv (.t 79)), none, 0, false, []⟩,
    ⟨(some 6), (.mv (.c (.bool true))), none, 0, false, []⟩] false
def a8_29 : AC := .seq a8_28 .ret
def a8_30 : AC := .seq a8_27 a8_29
def a8_31 : AC := .seq a8_7 a8_30
def a8_32 : AC := .seq a8_6 a8_31
def a8_33 : AC := .seq a8_5 a8_32
def a8_34 : AC := .seq a8_0 a8_33
def af8 : AF := { ntmps := 80, res := [(.t 4), (.t 5), (.t 6)], body := a8_34 }
theorem tr8 : trF Tryz.prog Tryz.f8 = some af8 := by kernel_rfl
attribute [go_sem] af8 a8_0 a8_1 a8_2 a8_3 a8_4 a8_5 a8_6 a8_7 a8_8 a8_9 a8_10 a8_11 a8_12 a8_13 a8_14 a8_15 a8_16 a8_17 a8_18 a8_19 a8_20 a8_21 a8_22 a8_23 a8_24 a8_25 a8_26 a8_27 a8_28 a8_29 a8_30 a8_31 a8_32 a8_33 a8_34
def a9_0 : AC := .reg [⟨(some 4), (.mv (.c .nils)), none, 0, false, []⟩,
    ⟨(some 5), (.mv (.c .nils)), none, 0, false, []⟩,
    ⟨(some 6), (.mv (.c (.bool false))), none, 0, false, []⟩] false
def a9_1 : AC := .reg [⟨(some 16), (.mv (.t 0)), none, 0, false, []⟩,
    ⟨(some 17), (.call 37 [(.t 16)]), none, 0, false, []⟩,
    ⟨(some 18), (.un .not (.t 17)), none, 0, false, []⟩,
    ⟨(some 19), (.mv (.t 18)), none, 0, false, []⟩,
    ⟨(some 20), (.mv (.t 1)), (some (19, false)), 0, false, []⟩,
    ⟨(some 21), (.call 37 [(.t 20)]), (some (19, false)), 0, false, []⟩,
    ⟨(some 22), (.un .not (.t 21)), (some (19, false)), 0, false, []⟩,
    ⟨(some 23), (.pick (.t 19) (.c (.bool true)) (.t 22)), none, 0, false, []⟩,
    ⟨(some 24), (.mv (.t 23)), none, 0, false, []⟩,
    ⟨(some 25), (.mv (.t 0)), (some (24, false)), 0, false, []⟩,
    ⟨(some 26), (.len false (.t 25)), (some (24, false)), 0, false, []⟩,
    ⟨(some 27), (.mv (.t 1)), (some (24, false)), 0, false, []⟩,
    ⟨(some 28), (.len false (.t 27)), (some (24, false)), 0, false, []⟩,
    ⟨(some 29), (.bin 0 .neq (.t 26) (.t 28)), (some (24, false)), 0, false, []⟩,
    ⟨(some 30), (.pick (.t 24) (.c (.bool true)) (.t 29)), none, 0, false, []⟩,
    ⟨(some 31), (.mv (.t 30)), none, 0, false, []⟩,
    ⟨(some 32), (.mv (.t 0)), (some (31, false)), 0, false, []⟩,
    ⟨(some 33), (.call 39 [(.t 32)]), (some (31, false)), 0, false, []⟩,
    ⟨(some 34), (.mv (.t 1)), (some (31, false)), 0, false, []⟩,
    ⟨(some 35), (.call 39 [(.t 34)]), (some (31, false)), 0, false, []⟩,
    ⟨(some 36), (.call 38 [(.t 33), (.t 35)]), (some (31, false)), 0, false, []⟩,
    ⟨(some 37), (.un .not (.t 36)), (some (31, false)), 0, false, []⟩,
    ⟨(some 38), (.pick (.t 31) (.c (.bool true)) (.t 37)), none, 0, false, []⟩] false
def a9_2 : AC := .reg [⟨(some 4), (.mv (.c .nils)), none, 0, false, []⟩,
    ⟨(some 5), (.mv (.c .nils)), none, 0, false, []⟩,
    ⟨(some 6), (.mv (.c (.bool false))), none, 0, false, []⟩] false
def a9_3 : AC := .seq a9_2 .ret
def a9_4 : AC := .cond (.t 38) a9_3 .skip
def a9_5 : AC := .seq a9_1 a9_4
def a9_6 : AC := .reg [⟨(some 7), (.mv (.c .nils)), none, 0, false, []⟩] false
def a9_7 : AC := .reg [⟨(some 8), (.mv (.c .nils)), none, 0, false, []⟩] false
def a9_8 : AC := .reg [⟨(some 9), (.mv (.c (.int .i64 0))), none, 0, false, []⟩] false
def a9_9 : AC := .reg [⟨(some 39), (.mv (.t 9)), none, 0, false, []⟩,
    ⟨(some 40), (.mv (.t 0)), none, 0, false, []⟩,
    ⟨(some 41), (.len false (.t 40)), none, 0, false, []⟩,
    ⟨(some 42), (.bin 0 .lss (.t 39) (.t 41)), none, 0, false, []⟩] false
def a9_10 : AC := .cond (.t 42) .skip (.exit 0)
def a9_11 : AC := .seq a9_9 a9_10
def a9_12 : AC := .reg [⟨(some 46), (.mv (.t 8)), none, 0, false, []⟩,
    ⟨(some 47), (.mv (.t 0)), none, 0, false, []⟩,
    ⟨(some 48), (.mv (.t 9)), none, 0, false, []⟩,
    ⟨(some 49), (.iad 6 (.t 47) (.t 48)), none, 0, false, []⟩,
    ⟨(some 50), (.fad 0 (.t 49)), none, 0, false, []⟩,
    ⟨(some 51), (.load true 5 (.t 50)), none, 0, false, []⟩,
    ⟨(some 52), (.call 40 [(.t 46), (.t 51), (.c (.bool false))]), none, 0, false, []⟩,
    ⟨(some 45), (.mv (.t 52)), none, 0, false, []⟩,
    ⟨(some 53), (.ext (.t 45) 0), none, 0, false, []⟩,
    ⟨(some 54), (.ext (.t 45) 1), none, 0, false, []⟩,
    ⟨(some 10), (.new [(.int .i64 0), (.int .i64 0), (.int .i64 0), (.int .i64 0), .nils]), none, 0, false, []⟩,
    ⟨none, (.store 5 (.t 10) (.t 53)), none, 0, false, []⟩,
    ⟨(some 11), (.mv (.t 54)), none, 0, false, []⟩] false
def a9_13 : AC := .reg [⟨(some 56), (.mv (.t 8)), none, 0, false, []⟩,
    ⟨(some 57), (.mv (.t 1)), none, 0, false, []⟩,
    ⟨(some 58), (.mv (.t 9)), none, 0, false, []⟩,
    ⟨(some 59), (.iad 6 (.t 57) (.t 58)), none, 0, false, []⟩,
    ⟨(some 60), (.fad 0 (.t 59)), none, 0, false, []⟩,
    ⟨(some 61), (.load true 5 (.t 60)), none, 0, false, []⟩,
    ⟨(some 62), (.call 40 [(.t 56), (.t 61), (.c (.bool true))]), none, 0, false, []⟩,
    ⟨(some 55), (.mv (.t 62)), none, 0, false, []⟩,
    ⟨(some 63), (.ext (.t 55) 0), none, 0, false, []⟩,
    ⟨(some 64), (.ext (.t 55) 1), none, 0, false, []⟩,
    ⟨(some 12), (.new [(.int .i64 0), (.int .i64 0), (.int .i64 0), (.int .i64 0), .nils]), none, 0, false, []⟩,
    ⟨none, (.store 5 (.t 12) (.t 63)), none, 0, false, []⟩,
    ⟨(some 13), (.mv (.t 64)), none, 0, false, []⟩] false
def a9_14 : AC := .reg [⟨(some 65), (.mv (.t 11)), none, 0, false, []⟩,
    ⟨(some 66), (.un .not (.t 65)), none, 0, false, []⟩,
    ⟨(some 67), (.mv (.t 66)), none, 0, false, []⟩,
    ⟨(some 68), (.mv (.t 13)), (some (67, false)), 0, false, []⟩,
    ⟨(some 69), (.un .not (.t 68)), (some (67, false)), 0, false, []⟩,
    ⟨(some 70), (.pick (.t 67) (.c (.bool true)) (.t 69)), none, 0, false, []⟩] false
def a9_15 : AC := .reg [⟨(some 4), (.mv (.c .nils)), none, 0, false, []⟩,
    ⟨(some 5), (.mv (.c .nils)), none, 0, false, []⟩,
    ⟨(some 6), (.mv (.c (.bool false))), none, 0, false, []⟩] false
def a9_16 : AC := .seq a9_15 .ret
def a9_17 : AC := .cond (.t 70) a9_16 .skip
def a9_18 : AC := .seq a9_14 a9_17
def a9_19 : AC := .reg [⟨(some 71), (.mv (.t 7)), none, 0, false, []⟩,
    ⟨(some 72), (.load true 5 (.t 10)), none, 1, true, []⟩,
    ⟨(some 73), (.load true 5 (.t 12)), none, 2, false, []⟩,
    ⟨(some 74), (.call 41 [(.t 73), (.c (.int .i64 1))]), none, 3, true, [1]⟩,
    ⟨(some 75), (.mv (.t 0)), none, 4, false, []⟩,
    ⟨(some 76), (.mv (.t 9)), none, 5, false, []⟩,
    ⟨(some 77), (.iad 6 (.t 75) (.t 76)), none, 6, true, [3]⟩,
    ⟨(some 78), (.fad 5 (.t 77)), none, 7, false, []⟩,
    ⟨(some 79), (.load false 1 (.t 78)), none, 8, true, [3]⟩,
    ⟨(some 80), (.load true 5 (.t 10)), none, 9, false, [3]⟩,
    ⟨(some 81), (.call 41 [(.t 80), (.c (.int .i64 2))]), none, 10, true, [1, 6, 8]⟩,
    ⟨(some 82), (.load true 5 (.t 12)), none, 11, false, [3, 10]⟩,
    ⟨(some 83), (.call 41 [(.t 82), (.c (.int .i64 2))]), none, 12, false, [1, 6, 8]⟩,
    ⟨(some 84), (.call 42 [(.c (.int .i64 1))]), none, 13, false, [1, 6, 8]⟩,
    ⟨(some 85), (.call 42 [(.c (.int .i64 0))]), none, 14, false, [1, 6, 8]⟩,
    ⟨(some 86), (.bslice 5 [(.t 81), (.t 83), (.t 84), (.t 85)]), none, 15, false, [1, 6, 8]⟩,
    ⟨(some 87), (.build [(.int .i64 0), (.int .i64 0), (.int .i64 0), (.int .i64 0), .nils] [(0, (1, (.c (.int .i64 23)))), (3, (1, (.c (.int .i64 6)))), (1, (1, (.t 79))), (4, (1, (.t 86)))]), none, 16, false, []⟩,
    ⟨(some 88), (.bslice 5 [(.t 72), (.t 74), (.t 87)]), none, 17, false, []⟩,
    ⟨(some 89), (.app 5 56 (.t 71) (.t 88)), none, 18, false, []⟩,
    ⟨(some 7), (.mv (.t 89)), none, 19, false, []⟩] true
def a9_20 : AC := .reg [⟨(some 14), (.mv (.c .nils)), none, 0, false, []⟩] false
def a9_21 : AC := .reg [⟨(some 15), (.mv (.c (.int .i64 0))), none, 0, false, []⟩] false
def a9_22 : AC := .reg [⟨(some 90), (.mv (.t 15)), none, 0, false, []⟩,
    ⟨(some 91), (.mv (.t 8)), none, 0, false, []⟩,
    ⟨(some 92), (.len false (.t 91)), none, 0, false, []⟩,
    ⟨(some 93), (.bin 0 .lss (.t 90) (.t 92)), none, 0, false, []⟩] false
def a9_23 : AC := .cond (.t 93) .skip (.exit 2)
def a9_24 : AC := .seq a9_22 a9_23
def a9_25 : AC := .reg [⟨(some 96), (.mv (.t 14)), none, 0, false, []⟩,
    ⟨(some 97), (.mv (.t 8)), none, 0, false, []⟩,
    ⟨(some 98), (.mv (.t 15)), none, 0, false, []⟩,
    ⟨(some 99), (.iad 26 (.t 97) (.t 98)), none, 0, false, []⟩,
    ⟨(some 100), (.load true 26 (.t 99)), none, 0, false, []⟩,
    ⟨(some 101), (.call 43 [(.t 100), (.c (.int .i64 3))]), none, 0, false, []⟩,
    ⟨(some 102), (.bslice 26 [(.t 101)]), none, 0, false, []⟩,
    ⟨(some 103), (.app 26 288 (.t 96) (.t 102)), none, 0, false, []⟩,
    ⟨(some 14), (.mv (.t 103)), none, 0, false, []⟩] false
def a9_26 : AC := .blk 3 a9_25
def a9_27 : AC := .reg [⟨(some 94), (.mv (.t 15)), none, 0, false, []⟩,
    ⟨(some 95), (.bin 0 .add (.t 94) (.c (.int .i64 1))), none, 0, false, []⟩,
    ⟨(some 15), (.mv (.t 95)), none, 0, false, []⟩] false
def a9_28 : AC := .seq a9_26 a9_27
def a9_29 : AC := .seq a9_24 a9_28
def a9_30 : AC := .loop a9_29
def a9_31 : AC := .blk 2 a9_30
def a9_32 : AC := .seq a9_21 a9_31
def a9_33 : AC := .reg [⟨(some 104), (.mv (.t 14)), none, 0, false, []⟩,
    ⟨(some 105), (.mv (.t 0)), none, 1, false, []⟩,
    ⟨(some 106), (.mv (.t 9)), none, 2, false, []⟩,
    ⟨(some 107), (.iad 6 (.t 105) (.t 106)), none, 3, true, []⟩,
    ⟨(some 108), (.fad 5 (.t 107)), none, 4, false, []⟩,
    ⟨(some 109), (.load false 1 (.t 108)), none, 5, true, []⟩,
    ⟨(some 110), (.load true 5 (.t 10)), none, 6, false, []⟩,
    ⟨(some 111), (.call 41 [(.t 110), (.c (.int .i64 3))]), none, 7, true, [3, 5]⟩,
    ⟨(some 112), (.load true 5 (.t 12)), none, 8, false, [7]⟩,
    ⟨(some 113), (.call 41 [(.t 112), (.c (.int .i64 3))]), none, 9, false, [3, 5]⟩,
    ⟨(some 114), (.call 42 [(.c (.int .i64 2))]), none, 10, false, [3, 5]⟩,
    ⟨(some 115), (.call 42 [(.c (.int .i64 1))]), none, 11, false, [3, 5]⟩,
    ⟨(some 116), (.call 42 [(.c (.int .i64 0))]), none, 12, false, [3, 5]⟩,
    ⟨(some 117), (.build [(.int .i64 0), (.int .i64 0), (.int .i64 0), (.int .i64 0), (.int .i64 0), .nils, (.int .i64 0), (.int .i64 0), (.int .i64 0), (.int .i64 0), .nils, (.int .i64 0), (.int .i64 0), (.int .i64 0), (.int .i64 0), .nils, (.int .i64 0), (.int .i64 0), (.int .i64 0), (.int .i64 0), .nils, (.int .i64 0), (.int .i64 0), (.int .i64 0), (.int .i64 0), .nils] [(0, (1, (.t 109))), (1, (5, (.t 111))), (6, (5, (.t 113))), (11, (5, (.t 114))), (16, (5, (.t 115))), (21, (5, (.t 116)))]), none, 13, false, []⟩,
    ⟨(some 118), (.bslice 26 [(.t 117)]), none, 14, false, []⟩,
    ⟨(some 119), (.app 26 288 (.t 104) (.t 118)), none, 15, false, []⟩,
    ⟨(some 8), (.mv (.t 119)), none, 16, false, []⟩] true
def a9_34 : AC := .seq a9_32 a9_33
def a9_35 : AC := .seq a9_20 a9_34
def a9_36 : AC := .seq a9_19 a9_35
def a9_37 : AC := .seq a9_18 a9_36
def a9_38 : AC := .seq a9_13 a9_37
def a9_39 : AC := .seq a9_12 a9_38
def a9_40 : AC := .blk 1 a9_39
def a9_41 : AC := .reg [⟨(some 43), (.mv (.t 9)), none, 0, false, []⟩,
    ⟨(some 44), (.bin 0 .add (.t 43) (.c (.int .i64 1))), none, 0, false, []⟩,
    ⟨(some 9), (.mv (.t 44)), none, 0, false, []⟩] false
def a9_42 : AC := .seq a9_40 a9_41
def a9_43 : AC := .seq a9_11 a9_42
def a9_44 : AC := .loop a9_43
def a9_45 : AC := .blk 0 a9_44
def a9_46 : AC := .seq a9_8 a9_45
def a9_47 : AC := .reg [⟨(some 120), (.mv (.t 7)), none, 0, false, []⟩,
    ⟨(some 121), (.mv (.t 8)), none, 0, false, []⟩,
    ⟨(some 4), (.mv (.t 120)), none, 0, false, []⟩,
    ⟨(some 5), (.mv (.t 121)), none, 0, false, []⟩,
    ⟨(some 6), (.mv (.c (.bool true))), none, 0, false, []⟩] false
def a9_48 : AC := .seq a9_47 .ret
def a9_49 : AC := .seq a9_46 a9_48
def a9_50 : AC := .seq a9_7 a9_49
def a9_51 : AC := .seq a9_6 a9_50
def a9_52 : AC := .seq a9_5 a9_51
def a9_53 : AC := .seq a9_0 a9_52
def af9 : AF := { ntmps := 122, res := [(.t 4), (.t 5), (.t 6)], body := a9_53 }
theorem tr9 : trF Tryz.prog Tryz.f9 = some af9 := by kernel_rfl
attribute [go_sem] af9 a9_0 a9_1 a9_2 a9_3 a9_4 a9_5 a9_6 a9_7 a9_8 a9_9 a9_10 a9_11 a9_12 a9_13 a9_14 a9_15 a9_16 a9_17 a9_18 a9_19 a9_20 a9_21 a9_22 a9_23 a9_24 a9_25 a9_26 a9_27 a9_28 a9_29 a9_30 a9_31 a9_32 a9_33 a9_34 a9_35 a9_36 a9_37 a9_38 a9_39 a9_40 a9_41 a9_42 a9_43 a9_44 a9_45 a9_46 a9_47 a9_48 a9_49 a9_50 a9_51 a9_52 a9_53
def a11_0 : AC := .reg [⟨(some 3), (.box (.t 0)), none, 0, false, []⟩,
    ⟨(some 4), (.box (.t 1)), none, 0, false, []⟩,
    ⟨(some 6), (.mv (.c (.bool false))), none, 0, false, []⟩] false
def a11_1 : AC := .reg [⟨(some 7), (.fad 0 (.t 3)), none, 0, false, []⟩,
    ⟨(some 8), (.load false 1 (.t 7)), none, 0, false, []⟩,
    ⟨(some 9), (.fad 0 (.t 4)), none, 0, false, []⟩,
    ⟨(some 10), (.load false 1 (.t 9)), none, 0, false, []⟩,
    ⟨(some 11), (.bin 0 .eql (.t 8) (.t 10)), none, 0, false, []⟩,
    ⟨(some 12), (.mv (.t 11)), none, 0, false, []⟩,
    ⟨(some 13), (.fad 1 (.t 3)), (some (12, true)), 0, false, []⟩,
    ⟨(some 14), (.load true 5 (.t 13)), (some (12, true)), 0, false, []⟩,
    ⟨(some 15), (.fad 1 (.t 4)), (some (12, true)), 0, false, []⟩,
    ⟨(some 16), (.load true 5 (.t 15)), (some (12, true)), 0, false, []⟩,
    ⟨(some 17), (.call 16 [(.t 14), (.t 16)]), (some (12, true)), 0, false, []⟩,
    ⟨(some 18), (.pick (.t 12) (.t 17) (.c (.bool false))), none, 0, false, []⟩,
    ⟨(some 19), (.mv (.t 18)), none, 0, false, []⟩,
    ⟨(some 20), (.fad 6 (.t 3)), (some (19, true)), 0, false, []⟩,
    ⟨(some 21), (.load true 5 (.t 20)), (some (19, true)), 0, false, []⟩,
    ⟨(some 22), (.fad 6 (.t 4)), (some (19, true)), 0, false, []⟩,
    ⟨(some 23), (.load true 5 (.t 22)), (some (19, true)), 0, false, []⟩,
    ⟨(some 24), (.call 16 [(.t 21), (.t 23)]), (some (19, true)), 0, false, []⟩,
    ⟨(some 25), (.pick (.t 19) (.t 24) (.c (.bool false))), none, 0, false, []⟩,
    ⟨(some 26), (.mv (.t 25)), none, 0, false, []⟩,
    ⟨(some 27), (.fad 11 (.t 3)), (some (26, true)), 0, false, []⟩,
    ⟨(some 28), (.load true 5 (.t 27)), (some (26, true)), 0, false, []⟩,
    ⟨(some 29), (.fad 11 (.t 4)), (some (26, true)), 0, false, []⟩,
    ⟨(some 30), (.load true 5 (.t 29)), (some (26, true)), 0, false, []⟩,
    ⟨(some 31), (.call 16 [(.t 28), (.t 30)]), (some (26, true)), 0, false, []⟩,
    ⟨(some 32), (.pick (.t 26) (.t 31) (.c (.bool false))), none, 0, false, []⟩,
    ⟨(some 33), (.mv (.t 32)), none, 0, false, []⟩,
    ⟨(some 34), (.fad 16 (.t 3)), (some (33, true)), 0, false, []⟩,
    ⟨(some 35), (.load true 5 (.t 34)), (some (33, true)), 0, false, []⟩,
    ⟨(some 36), (.fad 16 (.t 4)), (some (33, true)), 0, false, []⟩,
    ⟨(some 37), (.load true 5 (.t 36)), (some (33, true)), 0, false, []⟩,
    ⟨(some 38), (.call 16 [(.t 35), (.t 37)]), (some (33, true)), 0, false, []⟩,
    ⟨(some 39), (.pick (.t 33) (.t 38) (.c (.bool false))), none, 0, false, []⟩,
    ⟨(some 40), (.mv (.t 39)), none, 0, false, []⟩,
    ⟨(some 41), (.mv (.t 2)), (some (40, true)), 0, false, []⟩,
    ⟨(some 42), (.un .not (.t 41)), (some (40, true)), 0, false, []⟩,
    ⟨(some 43), (.mv (.t 42)), (some (40, true)), 0, false, []⟩,
    ⟨(some 44), (.fad 21 (.t 3)), (some (43, false)), 0, false, []⟩,
    ⟨(some 45), (.load true 5 (.t 44)), (some (43, false)), 0, false, []⟩,
    ⟨(some 46), (.fad 21 (.t 4)), (some (43, false)), 0, false, []⟩,
    ⟨(some 47), (.load true 5 (.t 46)), (some (43, false)), 0, false, []⟩,
    ⟨(some 48), (.call 16 [(.t 45), (.t 47)]), (some (43, false)), 0, false, []⟩,
    ⟨(some 49), (.pick (.t 43) (.c (.bool true)) (.t 48)), (some (40, true)), 0, false, []⟩,
    ⟨(some 50), (.pick (.t 40) (.t 49) (.c (.bool false))), none, 0, false, []⟩,
    ⟨(some 6), (.mv (.t 50)), none, 0, false, []⟩] false
def a11_2 : AC := .seq a11_1 .ret
def a11_3 : AC := .seq a11_0 a11_2
def af11 : AF := { ntmps := 51, res := [(.t 6)], body := a11_3 }
theorem tr11 : trF Tryz.prog Tryz.f11 = some af11 := by kernel_rfl
attribute [go_sem] af11 a11_0 a11_1 a11_2 a11_3
def a12_0 : AC := .reg [⟨(some 0), (.mv (.c (.bool false))), none, 0, false, []⟩] false
def a12_1 : AC := .reg [⟨(some 9), (.call 45 [(.c (.int .i64 0))]), none, 0, false, []⟩,
    ⟨(some 10), (.call 45 [(.c (.int .i64 0))]), none, 0, false, []⟩,
    ⟨(some 11), (.call 44 [(.c .nils), (.t 9), (.t 10)]), none, 0, false, []⟩,
    ⟨(some 8), (.mv (.t 11)), none, 0, false, []⟩,
    ⟨(some 12), (.ext (.t 8) 0), none, 0, false, []⟩,
    ⟨(some 13), (.ext (.t 8) 1), none, 0, false, []⟩,
    ⟨(some 1), (.new [(.int .i64 0), (.int .i64 0), (.int .i64 0), (.int .i64 0), (.int .i64 0), .nils, (.int .i64 0), (.int .i64 0), (.int .i64 0), (.int .i64 0), .nils, (.int .i64 0), (.int .i64 0), (.int .i64 0), (.int .i64 0), .nils, (.int .i64 0), (.int .i64 0), (.int .i64 0), (.int .i64 0), .nils, (.int .i64 0), (.int .i64 0), (.int .i64 0), (.int .i64 0), .nils]), none, 0, false, []⟩,
    ⟨none, (.store 26 (.t 1) (.t 12)), none, 0, false, []⟩,
    ⟨(some 2), (.mv (.t 13)), none, 0, false, []⟩] false
def a12_2 : AC := .reg [⟨(some 15), (.call 45 [(.c (.int .i64 0))]), none, 0, false, []⟩,
    ⟨(some 16), (.build [(.int .i64 0), (.int .i64 0), (.int .i64 0), (.int .i64 0), .nils, (.int .i64 0)] [(0, (5, (.t 15))), (5, (1, (.c (.int .i64 1))))]), none, 0, false, []⟩,
    ⟨(some 17), (.bslice 6 [(.t 16)]), none, 0, false, []⟩,
    ⟨(some 18), (.call 45 [(.c (.int .i64 0))]), none, 0, false, []⟩,
    ⟨(some 19), (.build [(.int .i64 0), (.int .i64 0), (.int .i64 0), (.int .i64 0), .nils, (.int .i64 0)] [(0, (5, (.t 18))), (5, (1, (.c (.int .i64 1))))]), none, 0, false, []⟩,
    ⟨(some 20), (.bslice 6 [(.t 19)]), none, 0, false, []⟩,
    ⟨(some 21), (.call 8 [(.t 17), (.t 20)]), none, 0, false, []⟩,
    ⟨(some 14), (.mv (.t 21)), none, 0, false, []⟩,
    ⟨(some 22), (.ext (.t 14) 0), none, 0, false, []⟩,
    ⟨(some 23), (.ext (.t 14) 1), none, 0, false, []⟩,
    ⟨(some 24), (.ext (.t 14) 2), none, 0, false, []⟩,
    ⟨(some 3), (.mv (.t 22)), none, 0, false, []⟩,
    ⟨(some 4), (.mv (.t 23)), none, 0, false, []⟩,
    ⟨(some 5), (.mv (.t 24)), none, 0, false, []⟩] false
def a12_3 : AC := .reg [⟨(some 26), (.call 45 [(.c (.int .i64 0))]), none, 0, false, []⟩,
    ⟨(some 27), (.call 45 [(.c (.int .i64 1))]), none, 0, false, []⟩,
    ⟨(some 28), (.call 44 [(.c .nils), (.t 26), (.t 27)]), none, 0, false, []⟩,
    ⟨(some 25), (.mv (.t 28)), none, 0, false, []⟩,
    ⟨(some 29), (.ext (.t 25) 0), none, 0, false, []⟩,
    ⟨(some 30), (.ext (.t 25) 1), none, 0, false, []⟩,
    ⟨(some 6), (.new [(.int .i64 0), (.int .i64 0), (.int .i64 0), (.int .i64 0), (.int .i64 0), .nils, (.int .i64 0), (.int .i64 0), (.int .i64 0), (.int .i64 0), .nils, (.int .i64 0), (.int .i64 0), (.int .i64 0), (.int .i64 0), .nils, (.int .i64 0), (.int .i64 0), (.int .i64 0), (.int .i64 0), .nils, (.int .i64 0), (.int .i64 0), (.int .i64 0), (.int .i64 0), .nils]), none, 0, false, []⟩,
    ⟨none, (.store 26 (.t 6) (.t 29)), none, 0, false, []⟩,
    ⟨(some 7), (.mv (.t 30)), none, 0, false, []⟩] false
def a12_4 : AC := .reg [⟨(some 31), (.mv (.t 2)), none, 0, false, []⟩,
    ⟨(some 32), (.mv (.t 31)), none, 0, false, []⟩,
    ⟨(some 33), (.fad 0 (.t 1)), (some (32, true)), 0, false, []⟩,
    ⟨(some 34), (.load false 1 (.t 33)), (some (32, true)), 0, false, []⟩,
    ⟨(some 35), (.bin 0 .eql (.t 34) (.c (.int .i64 2))), (some (32, true)), 0, false, []⟩,
    ⟨(some 36), (.pick (.t 32) (.t 35) (.c (.bool false))), none, 0, false, []⟩,
    ⟨(some 37), (.mv (.t 36)), none, 0, false, []⟩,
    ⟨(some 38), (.fad 11 (.t 1)), (some (37, true)), 0, false, []⟩,
    ⟨(some 39), (.fad 0 (.t 38)), (some (37, true)), 0, false, []⟩,
    ⟨(some 40), (.load false 1 (.t 39)), (some (37, true)), 0, false, []⟩,
    ⟨(some 41), (.bin 0 .eql (.t 40) (.c (.int .i64 1))), (some (37, true)), 0, false, []⟩,
    ⟨(some 42), (.pick (.t 37) (.t 41) (.c (.bool false))), none, 0, false, []⟩,
    ⟨(some 43), (.mv (.t 42)), none, 0, false, []⟩,
    ⟨(some 44), (.mv (.t 5)), (some (43, true)), 0, false, []⟩,
    ⟨(some 45), (.pick (.t 43) (.t 44) (.c (.bool false))), none, 0, false, []⟩,
    ⟨(some 46), (.mv (.t 45)), none, 0, false, []⟩,
    ⟨(some 47), (.mv (.t 3)), (some (46, true)), 0, false, []⟩,
    ⟨(some 48), (.len false (.t 47)), (some (46, true)), 0, false, []⟩,
    ⟨(some 49), (.bin 0 .eql (.t 48) (.c (.int .i64 3))), (some (46, true)), 0, false, []⟩,
    ⟨(some 50), (.pick (.t 46) (.t 49) (.c (.bool false))), none, 0, false, []⟩,
    ⟨(some 51), (.mv (.t 50)), none, 0, false, []⟩,
    ⟨(some 52), (.mv (.t 3)), (some (51, true)), 0, false, []⟩,
    ⟨(some 53), (.iad 5 (.t 52) (.c (.int .i64 2))), (some (51, true)), 0, false, []⟩,
    ⟨(some 54), (.fad 0 (.t 53)), (some (51, true)), 0, false, []⟩,
    ⟨(some 55), (.load false 1 (.t 54)), (some (51, true)), 0, false, []⟩,
    ⟨(some 56), (.bin 0 .eql (.t 55) (.c (.int .i64 23))), (some (51, true)), 0, false, []⟩,
    ⟨(some 57), (.pick (.t 51) (.t 56) (.c (.bool false))), none, 0, false, []⟩,
    ⟨(some 58), (.mv (.t 57)), none, 0, false, []⟩,
    ⟨(some 59), (.mv (.t 4)), (some (58, true)), 0, false, []⟩,
    ⟨(some 60), (.len false (.t 59)), (some (58, true)), 0, false, []⟩,
    ⟨(some 61), (.bin 0 .eql (.t 60) (.c (.int .i64 1))), (some (58, true)), 0, false, []⟩,
    ⟨(some 62), (.pick (.t 58) (.t 61) (.c (.bool false))), none, 0, false, []⟩,
    ⟨(some 63), (.mv (.t 62)), none, 0, false, []⟩,
    ⟨(some 64), (.mv (.t 4)), (some (63, true)), 0, false, []⟩,
    ⟨(some 65), (.iad 26 (.t 64) (.c (.int .i64 0))), (some (63, true)), 0, false, []⟩,
    ⟨(some 66), (.fad 11 (.t 65)), (some (63, true)), 0, false, []⟩,
    ⟨(some 67), (.fad 1 (.t 66)), (some (63, true)), 0, false, []⟩,
    ⟨(some 68), (.load false 1 (.t 67)), (some (63, true)), 0, false, []⟩,
    ⟨(some 69), (.bin 0 .eql (.t 68) (.c (.int .i64 2))), (some (63, true)), 0, false, []⟩,
    ⟨(some 70), (.pick (.t 63) (.t 69) (.c (.bool false))), none, 0, false, []⟩,
    ⟨(some 71), (.mv (.t 70)), none, 0, false, []⟩,
    ⟨(some 72), (.mv (.t 7)), (some (71, true)), 0, false, []⟩,
    ⟨(some 73), (.un .not (.t 72)), (some (71, true)), 0, false, []⟩,
    ⟨(some 74), (.pick (.t 71) (.t 73) (.c (.bool false))), none, 0, false, []⟩,
    ⟨(some 0), (.mv (.t 74)), none, 0, false, []⟩] false
def a12_5 : AC := .seq a12_4 .ret
def a12_6 : AC := .seq a12_3 a12_5
def a12_7 : AC := .seq a12_2 a12_6
def a12_8 : AC := .seq a12_1 a12_7
def a12_9 : AC := .seq a12_0 a12_8
def af12 : AF := { ntmps := 75, res := [(.t 0)], body := a12_9 }
theorem tr12 : trF Tryz.prog Tryz.f12 = some af12 := by kernel_rfl
attribute [go_sem] af12 a12_0 a12_1 a12_2 a12_3 a12_4 a12_5 a12_6 a12_7 a12_8 a12_9
def a31_0 : AC := .reg [⟨(some 3), (.box (.t 1)), none, 0, false, []⟩,
    ⟨(some 4), (.new [(.int .i64 0), (.int .i64 0), (.int .i64 0), (.int .i64 0), .nils]), none, 0, false, []⟩] false
def a31_1 : AC := .reg [⟨(some 5), (.mv (.t 0)), none, 0, false, []⟩,
    ⟨(some 6), (.load true 5 (.t 3)), none, 0, false, []⟩,
    ⟨(some 7), (.call 49 [(.t 6)]), none, 0, false, []⟩,
    ⟨(some 8), (.call 70 [(.t 5), (.t 7), (.c (.bool false))]), none, 0, false, []⟩,
    ⟨none, (.store 5 (.t 4) (.t 8)), none, 0, false, []⟩] false
def a31_2 : AC := .seq a31_1 .ret
def a31_3 : AC := .seq a31_0 a31_2
def af31 : AF := { ntmps := 9, res := [(.cell 4 true 5)], body := a31_3 }
theorem tr31 : trF Tryz.prog Tryz.f31 = some af31 := by kernel_rfl
attribute [go_sem] af31 a31_0 a31_1 a31_2 a31_3
def a32_0 : AC := .reg [⟨(some 3), (.box (.t 1)), none, 0, false, []⟩,
    ⟨(some 4), (.new [(.int .i64 0), (.int .i64 0), (.int .i64 0), (.int .i64 0), .nils]), none, 0, false, []⟩] false
def a32_1 : AC := .reg [⟨(some 5), (.mv (.t 0)), none, 0, false, []⟩,
    ⟨(some 6), (.load true 5 (.t 3)), none, 0, false, []⟩,
    ⟨(some 7), (.call 49 [(.t 6)]), none, 0, false, []⟩,
    ⟨(some 8), (.call 70 [(.t 5), (.t 7), (.c (.bool true))]), none, 0, false, []⟩,
    ⟨none, (.store 5 (.t 4) (.t 8)), none, 0, false, []⟩] false
def a32_2 : AC := .seq a32_1 .ret
def a32_3 : AC := .seq a32_0 a32_2
def af32 : AF := { ntmps := 9, res := [(.cell 4 true 5)], body := a32_3 }
theorem tr32 : trF Tryz.prog Tryz.f32 = some af32 := by kernel_rfl
attribute [go_sem] af32 a32_0 a32_1 a32_2 a32_3
def a70_0 : AC := .reg [⟨(some 4), (.box (.t 1)), none, 0, false, []⟩,
    ⟨(some 6), (.new [(.int .i64 0), (.int .i64 0), (.int .i64 0), (.int .i64 0), .nils]), none, 0, false, []⟩] false
def a70_1 : AC := .reg [⟨(some 11), (.mv (.t 0)), none, 0, false, []⟩,
    ⟨(some 12), (.len false (.t 11)), none, 0, false, []⟩,
    ⟨(some 13), (.mk 5 56 [(.int .i64 0), (.int .i64 0), (.int .i64 0), (.int .i64 0), .nils] (.c (.int .i64 0)) (.t 12)), none, 0, false, []⟩,
    ⟨(some 7), (.mv (.t 13)), none, 0, false, []⟩] false
def a70_2 : AC := .reg [⟨(some 14), (.mv (.t 0)), none, 0, false, []⟩,
    ⟨(some 15), (.len false (.t 14)), none, 0, false, []⟩,
    ⟨(some 16), (.bin 0 .sub (.t 15) (.c (.int .i64 1))), none, 0, false, []⟩,
    ⟨(some 8), (.mv (.t 16)), none, 0, false, []⟩] false
def a70_3 : AC := .reg [⟨(some 17), (.mv (.t 8)), none, 0, false, []⟩,
    ⟨(some 18), (.bin 0 .geq (.t 17) (.c (.int .i64 0))), none, 0, false, []⟩] false
def a70_4 : AC := .cond (.t 18) .skip (.exit 0)
def a70_5 : AC := .seq a70_3 a70_4
def a70_6 : AC := .reg [⟨(some 21), (.mv (.t 2)), none, 0, false, []⟩] false
def a70_7 : AC := .reg [⟨(some 22), (.mv (.t 7)), none, 0, false, []⟩,
    ⟨(some 23), (.mv (.t 0)), none, 0, false, []⟩,
    ⟨(some 24), (.mv (.t 8)), none, 0, false, []⟩,
    ⟨(some 25), (.iad 26 (.t 23) (.t 24)), none, 0, false, []⟩,
    ⟨(some 26), (.fad 16 (.t 25)), none, 0, false, []⟩,
    ⟨(some 27), (.load true 5 (.t 26)), none, 0, false, []⟩,
    ⟨(some 28), (.bslice 5 [(.t 27)]), none, 0, false, []⟩,
    ⟨(some 29), (.app 5 56 (.t 22) (.t 28)), none, 0, false, []⟩,
    ⟨(some 7), (.mv (.t 29)), none, 0, false, []⟩] false
def a70_8 : AC := .reg [⟨(some 30), (.mv (.t 7)), none, 0, false, []⟩,
    ⟨(some 31), (.mv (.t 0)), none, 0, false, []⟩,
    ⟨(some 32), (.mv (.t 8)), none, 0, false, []⟩,
    ⟨(some 33), (.iad 26 (.t 31) (.t 32)), none, 0, false, []⟩,
    ⟨(some 34), (.fad 11 (.t 33)), none, 0, false, []⟩,
    ⟨(some 35), (.load true 5 (.t 34)), none, 0, false, []⟩,
    ⟨(some 36), (.bslice 5 [(.t 35)]), none, 0, false, []⟩,
    ⟨(some 37), (.app 5 56 (.t 30) (.t 36)), none, 0, false, []⟩,
    ⟨(some 7), (.mv (.t 37)), none, 0, false, []⟩] false
def a70_9 : AC := .cond (.t 21) a70_7 a70_8
def a70_10 : AC := .seq a70_6 a70_9
def a70_11 : AC := .blk 1 a70_10
def a70_12 : AC := .reg [⟨(some 19), (.mv (.t 8)), none, 0, false, []⟩,
    ⟨(some 20), (.bin 0 .sub (.t 19) (.c (.int .i64 1))), none, 0, false, []⟩,
    ⟨(some 8), (.mv (.t 20)), none, 0, false, []⟩] false
def a70_13 : AC := .seq a70_11 a70_12
def a70_14 : AC := .seq a70_5 a70_13
def a70_15 : AC := .loop a70_14
def a70_16 : AC := .blk 0 a70_15
def a70_17 : AC := .seq a70_2 a70_16
def a70_18 : AC := .reg [⟨(some 39), (.load true 5 (.t 4)), none, 0, false, []⟩,
    ⟨(some 40), (.mv (.t 7)), none, 0, false, []⟩,
    ⟨(some 41), (.call 100 [(.t 39), (.t 40)]), none, 0, false, []⟩,
    ⟨(some 38), (.mv (.t 41)), none, 0, false, []⟩,
    ⟨(some 42), (.ext (.t 38) 0), none, 0, false, []⟩,
    ⟨(some 43), (.ext (.t 38) 1), none, 0, false, []⟩,
    ⟨(some 9), (.new [(.int .i64 0), (.int .i64 0), (.int .i64 0), (.int .i64 0), .nils]), none, 0, false, []⟩,
    ⟨none, (.store 5 (.t 9) (.t 42)), none, 0, false, []⟩,
    ⟨(some 10), (.mv (.t 43)), none, 0, false, []⟩] false
def a70_19 : AC := .reg [⟨(some 44), (.load true 5 (.t 9)), none, 0, false, []⟩,
    ⟨none, (.store 5 (.t 6) (.t 44)), none, 0, false, []⟩] false
def a70_20 : AC := .seq a70_19 .ret
def a70_21 : AC := .seq a70_18 a70_20
def a70_22 : AC := .seq a70_17 a70_21
def a70_23 : AC := .seq a70_1 a70_22
def a70_24 : AC := .seq a70_0 a70_23
def af70 : AF := { ntmps := 45, res := [(.cell 6 true 5)], body := a70_24 }
theorem tr70 : trF Tryz.prog Tryz.f70 = some af70 := by kernel_rfl
attribute [go_sem] af70 a70_0 a70_1 a70_2 a70_3 a70_4 a70_5 a70_6 a70_7 a70_8 a70_9 a70_10 a70_11 a70_12 a70_13 a70_14 a70_15 a70_16 a70_17 a70_18 a70_19 a70_20 a70_21 a70_22 a70_23 a70_24
def a35_0 : AC := .reg [⟨(some 4), (.box (.t 1)), none, 0, false, []⟩,
    ⟨(some 5), (.box (.t 2)), none, 0, false, []⟩,
    ⟨(some 6), (.new [(.int .i64 0), (.int .i64 0), (.int .i64 0), (.int .i64 0), .nils]), none, 0, false, []⟩] false
def a35_1 : AC := .reg [⟨(some 12), (.load true 5 (.t 4)), none, 0, false, []⟩,
    ⟨(some 13), (.call 33 [(.t 12), (.c (.int .i64 2)), (.c (.int .i64 0))]), none, 0, false, []⟩,
    ⟨(some 11), (.mv (.t 13)), none, 0, false, []⟩,
    ⟨(some 14), (.ext (.t 11) 0), none, 0, false, []⟩,
    ⟨(some 15), (.ext (.t 11) 1), none, 0, false, []⟩,
    ⟨(some 7), (.new [(.int .i64 0), (.int .i64 0), (.int .i64 0), (.int .i64 0), .nils]), none, 0, false, []⟩,
    ⟨none, (.store 5 (.t 7) (.t 14)), none, 0, false, []⟩,
    ⟨(some 8), (.mv (.t 15)), none, 0, false, []⟩] false
def a35_2 : AC := .reg [⟨(some 17), (.load true 5 (.t 5)), none, 0, false, []⟩,
    ⟨(some 18), (.call 33 [(.t 17), (.c (.int .i64 2)), (.c (.int .i64 0))]), none, 0, false, []⟩,
    ⟨(some 16), (.mv (.t 18)), none, 0, false, []⟩,
    ⟨(some 19), (.ext (.t 16) 0), none, 0, false, []⟩,
    ⟨(some 20), (.ext (.t 16) 1), none, 0, false, []⟩,
    ⟨(some 9), (.new [(.int .i64 0), (.int .i64 0), (.int .i64 0), (.int .i64 0), .nils]), none, 0, false, []⟩,
    ⟨none, (.store 5 (.t 9) (.t 19)), none, 0, false, []⟩,
    ⟨(some 10), (.mv (.t 20)), none, 0, false, []⟩] false
def a35_3 : AC := .reg [⟨(some 21), (.mv (.t 0)), none, 0, false, []⟩,
    ⟨(some 22), (.load true 5 (.t 7)), none, 1, true, []⟩,
    ⟨(some 23), (.load true 5 (.t 9)), none, 2, true, []⟩,
    ⟨(some 24), (.call 50 [(.c (.int .i64 1))]), none, 3, false, [1, 2]⟩,
    ⟨(some 25), (.call 50 [(.c (.int .i64 0))]), none, 4, false, [1, 2]⟩,
    ⟨(some 26), (.bslice 5 [(.t 22), (.t 23), (.t 24), (.t 25)]), none, 5, false, []⟩,
    ⟨(some 27), (.call 58 [(.c (.int .i64 23)), (.t 21), (.c (.int .i64 0)), (.c (.int .i64 6)), (.t 26)]), none, 6, false, []⟩,
    ⟨none, (.store 5 (.t 6) (.t 27)), none, 7, false, []⟩] true
def a35_4 : AC := .seq a35_3 .ret
def a35_5 : AC := .seq a35_2 a35_4
def a35_6 : AC := .seq a35_1 a35_5
def a35_7 : AC := .seq a35_0 a35_6
def af35 : AF := { ntmps := 28, res := [(.cell 6 true 5)], body := a35_7 }
theorem tr35 : trF Tryz.prog Tryz.f35 = some af35 := by kernel_rfl
attribute [go_sem] af35 a35_0 a35_1 a35_2 a35_3 a35_4 a35_5 a35_6 a35_7
def a36_0 : AC := .reg [⟨(some 6), (.box (.t 2)), none, 0, false, []⟩,
    ⟨(some 7), (.box (.t 3)), none, 0, false, []⟩,
    ⟨(some 8), (.mv (.c .nils)), none, 0, false, []⟩] false
def a36_1 : AC := .reg [⟨(some 16), (.mv (.t 0)), none, 0, false, []⟩,
    ⟨(some 17), (.len false (.t 16)), none, 0, false, []⟩,
    ⟨(some 18), (.bin 0 .add (.t 17) (.c (.int .i64 1))), none, 0, false, []⟩,
    ⟨(some 19), (.mk 26 288 [(.int .i64 0), (.int .i64 0), (.int .i64 0), (.int .i64 0), (.int .i64 0), .nils, (.int .i64 0), (.int .i64 0), (.int .i64 0), (.int .i64 0), .nils, (.int .i64 0), (.int .i64 0), (.int .i64 0), (.int .i64 0), .nils, (.int .i64 0), (.int .i64 0), (.int .i64 0), (.int .i64 0), .nils, (.int .i64 0), (.int .i64 0), (.int .i64 0), (.int .i64 0), .nils] (.c (.int .i64 0)) (.t 18)), none, 0, false, []⟩,
    ⟨(some 9), (.mv (.t 19)), none, 0, false, []⟩] false
def a36_2 : AC := .reg [⟨(some 20), (.mv (.t 0)), none, 0, false, []⟩,
    ⟨(some 21), (.len false (.t 20)), none, 0, false, []⟩,
    ⟨(some 22), (.mv (.c (.int .i64 0))), none, 0, false, []⟩] false
def a36_3 : AC := .reg [⟨(some 23), (.bin 0 .lss (.t 22) (.t 21)), none, 0, false, []⟩] false
def a36_4 : AC := .cond (.t 23) .skip (.exit 0)
def a36_5 : AC := .reg [⟨(some 24), (.iad 26 (.t 20) (.t 22)), none, 0, false, []⟩,
    ⟨(some 25), (.load true 26 (.t 24)), none, 0, false, []⟩,
    ⟨(some 11), (.new [(.int .i64 0), (.int .i64 0), (.int .i64 0), (.int .i64 0), (.int .i64 0), .nils, (.int .i64 0), (.int .i64 0), (.int .i64 0), (.int .i64 0), .nils, (.int .i64 0), (.int .i64 0), (.int .i64 0), (.int .i64 0), .nils, (.int .i64 0), (.int .i64 0), (.int .i64 0), (.int .i64 0), .nils, (.int .i64 0), (.int .i64 0), (.int .i64 0), (.int .i64 0), .nils]), none, 0, false, []⟩,
    ⟨none, (.store 26 (.t 11) (.t 25)), none, 0, false, []⟩] false
def a36_6 : AC := .reg [⟨(some 26), (.mv (.t 9)), none, 0, false, []⟩,
    ⟨(some 27), (.load true 26 (.t 11)), none, 0, false, []⟩,
    ⟨(some 28), (.call 72 [(.t 27), (.c (.int .i64 3))]), none, 0, false, []⟩,
    ⟨(some 29), (.bslice 26 [(.t 28)]), none, 0, false, []⟩,
    ⟨(some 30), (.app 26 288 (.t 26) (.t 29)), none, 0, false, []⟩,
    ⟨(some 9), (.mv (.t 30)), none, 0, false, []⟩] false
def a36_7 : AC := .seq a36_5 a36_6
def a36_8 : AC := .blk 1 a36_7
def a36_9 : AC := .reg [⟨(some 31), (.bin 0 .add (.t 22) (.c (.int .i64 1))), none, 0, false, []⟩,
    ⟨(some 22), (.mv (.t 31)), none, 0, false, []⟩] false
def a36_10 : AC := .seq a36_8 a36_9
def a36_11 : AC := .seq a36_4 a36_10
def a36_12 : AC := .seq a36_3 a36_11
def a36_13 : AC := .loop a36_12
def a36_14 : AC := .blk 0 a36_13
def a36_15 : AC := .seq a36_2 a36_14
def a36_16 : AC := .reg [⟨(some 33), (.load true 5 (.t 6)), none, 0, false, []⟩,
    ⟨(some 34), (.call 33 [(.t 33), (.c (.int .i64 3)), (.c (.int .i64 0))]), none, 0, false, []⟩,
    ⟨(some 32), (.mv (.t 34)), none, 0, false, []⟩,
    ⟨(some 35), (.ext (.t 32) 0), none, 0, false, []⟩,
    ⟨(some 36), (.ext (.t 32) 1), none, 0, false, []⟩,
    ⟨(some 12), (.new [(.int .i64 0), (.int .i64 0), (.int .i64 0), (.int .i64 0), .nils]), none, 0, false, []⟩,
    ⟨none, (.store 5 (.t 12) (.t 35)), none, 0, false, []⟩,
    ⟨(some 13), (.mv (.t 36)), none, 0, false, []⟩] false
def a36_17 : AC := .reg [⟨(some 38), (.load true 5 (.t 7)), none, 0, false, []⟩,
    ⟨(some 39), (.call 33 [(.t 38), (.c (.int .i64 3)), (.c (.int .i64 0))]), none, 0, false, []⟩,
    ⟨(some 37), (.mv (.t 39)), none, 0, false, []⟩,
    ⟨(some 40), (.ext (.t 37) 0), none, 0, false, []⟩,
    ⟨(some 41), (.ext (.t 37) 1), none, 0, false, []⟩,
    ⟨(some 14), (.new [(.int .i64 0), (.int .i64 0), (.int .i64 0), (.int .i64 0), .nils]), none, 0, false, []⟩,
    ⟨none, (.store 5 (.t 14) (.t 40)), none, 0, false, []⟩,
    ⟨(some 15), (.mv (.t 41)), none, 0, false, []⟩] false
def a36_18 : AC := .reg [⟨(some 42), (.mv (.t 9)), none, 0, false, []⟩,
    ⟨(some 43), (.mv (.t 1)), none, 1, false, []⟩,
    ⟨(some 44), (.load true 5 (.t 12)), none, 2, true, []⟩,
    ⟨(some 45), (.load true 5 (.t 14)), none, 3, true, []⟩,
    ⟨(some 46), (.call 50 [(.c (.int .i64 2))]), none, 4, false, [2, 3]⟩,
    ⟨(some 47), (.call 50 [(.c (.int .i64 1))]), none, 5, false, [2, 3]⟩,
    ⟨(some 48), (.call 50 [(.c (.int .i64 0))]), none, 6, false, [2, 3]⟩,
    ⟨(some 49), (.build [(.int .i64 0), (.int .i64 0), (.int .i64 0), (.int .i64 0), (.int .i64 0), .nils, (.int .i64 0), (.int .i64 0), (.int .i64 0), (.int .i64 0), .nils, (.int .i64 0), (.int .i64 0), (.int .i64 0), (.int .i64 0), .nils, (.int .i64 0), (.int .i64 0), (.int .i64 0), (.int .i64 0), .nils, (.int .i64 0), (.int .i64 0), (.int .i64 0), (.int .i64 0), .nils] [(0, (1, (.t 43))), (1, (5, (.t 44))), (6, (5, (.t 45))), (11, (5, (.t 46))), (16, (5, (.t 47))), (21, (5, (.t 48)))]), none, 7, false, []⟩,
    ⟨(some 50), (.bslice 26 [(.t 49)]), none, 8, false, []⟩,
    ⟨(some 51), (.app 26 288 (.t 42) (.t 50)), none, 9, false, []⟩,
    ⟨(some 8), (.mv (.t 51)), none, 10, false, []⟩] true
def a36_19 : AC := .seq a36_18 .ret
def a36_20 : AC := .seq a36_17 a36_19
def a36_21 : AC := .seq a36_16 a36_20
def a36_22 : AC := .seq a36_15 a36_21
def a36_23 : AC := .seq a36_1 a36_22
def a36_24 : AC := .seq a36_0 a36_23
def af36 : AF := { ntmps := 52, res := [(.t 8)], body := a36_24 }
theorem tr36 : trF Tryz.prog Tryz.f36 = some af36 := by kernel_rfl
attribute [go_sem] af36 a36_0 a36_1 a36_2 a36_3 a36_4 a36_5 a36_6 a36_7 a36_8 a36_9 a36_10 a36_11 a36_12 a36_13 a36_14 a36_15 a36_16 a36_17 a36_18 a36_19 a36_20 a36_21 a36_22 a36_23 a36_24
def a40_0 : AC := .reg [⟨(some 4), (.box (.t 1)), none, 0, false, []⟩,
    ⟨(some 6), (.new [(.int .i64 0), (.int .i64 0), (.int .i64 0), (.int .i64 0), .nils]), none, 0, false, []⟩,
    ⟨(some 7), (.mv (.c (.bool false))), none, 0, false, []⟩] false
def a40_1 : AC := .reg [⟨(some 8), (.mv (.c .nils)), none, 0, false, []⟩] false
def a40_2 : AC := .reg [⟨(some 10), (.mv (.t 0)), none, 0, false, []⟩,
    ⟨(some 11), (.len false (.t 10)), none, 0, false, []⟩,
    ⟨(some 12), (.bin 0 .sub (.t 11) (.c (.int .i64 1))), none, 0, false, []⟩,
    ⟨(some 9), (.mv (.t 12)), none, 0, false, []⟩] false
def a40_3 : AC := .reg [⟨(some 13), (.mv (.t 9)), none, 0, false, []⟩,
    ⟨(some 14), (.bin 0 .geq (.t 13) (.c (.int .i64 0))), none, 0, false, []⟩] false
def a40_4 : AC := .cond (.t 14) .skip (.exit 0)
def a40_5 : AC := .seq a40_3 a40_4
def a40_6 : AC := .reg [⟨(some 17), (.mv (.t 2)), none, 0, false, []⟩] false
def a40_7 : AC := .reg [⟨(some 18), (.mv (.t 8)), none, 0, false, []⟩,
    ⟨(some 19), (.mv (.t 0)), none, 0, false, []⟩,
    ⟨(some 20), (.mv (.t 9)), none, 0, false, []⟩,
    ⟨(some 21), (.iad 26 (.t 19) (.t 20)), none, 0, false, []⟩,
    ⟨(some 22), (.fad 16 (.t 21)), none, 0, false, []⟩,
    ⟨(some 23), (.load true 5 (.t 22)), none, 0, false, []⟩,
    ⟨(some 24), (.bslice 5 [(.t 23)]), none, 0, false, []⟩,
    ⟨(some 25), (.app 5 56 (.t 18) (.t 24)), none, 0, false, []⟩,
    ⟨(some 8), (.mv (.t 25)), none, 0, false, []⟩] false
def a40_8 : AC := .reg [⟨(some 26), (.mv (.t 8)), none, 0, false, []⟩,
    ⟨(some 27), (.mv (.t 0)), none, 0, false, []⟩,
    ⟨(some 28), (.mv (.t 9)), none, 0, false, []⟩,
    ⟨(some 29), (.iad 26 (.t 27) (.t 28)), none, 0, false, []⟩,
    ⟨(some 30), (.fad 11 (.t 29)), none, 0, false, []⟩,
    ⟨(some 31), (.load true 5 (.t 30)), none, 0, false, []⟩,
    ⟨(some 32), (.bslice 5 [(.t 31)]), none, 0, false, []⟩,
    ⟨(some 33), (.app 5 56 (.t 26) (.t 32)), none, 0, false, []⟩,
    ⟨(some 8), (.mv (.t 33)), none, 0, false, []⟩] false
def a40_9 : AC := .cond (.t 17) a40_7 a40_8
def a40_10 : AC := .seq a40_6 a40_9
def a40_11 : AC := .blk 1 a40_10
def a40_12 : AC := .reg [⟨(some 15), (.mv (.t 9)), none, 0, false, []⟩,
    ⟨(some 16), (.bin 0 .sub (.t 15) (.c (.int .i64 1))), none, 0, false, []⟩,
    ⟨(some 9), (.mv (.t 16)), none, 0, false, []⟩] false
def a40_13 : AC := .seq a40_11 a40_12
def a40_14 : AC := .seq a40_5 a40_13
def a40_15 : AC := .loop a40_14
def a40_16 : AC := .blk 0 a40_15
def a40_17 : AC := .seq a40_2 a40_16
def a40_18 : AC := .reg [⟨(some 34), (.load true 5 (.t 4)), none, 0, false, []⟩,
    ⟨(some 35), (.call 53 [(.t 34)]), none, 0, false, []⟩,
    ⟨(some 36), (.mv (.t 8)), none, 0, false, []⟩,
    ⟨(some 37), (.call 76 [(.t 35), (.t 36)]), none, 0, false, []⟩,
    ⟨(some 38), (.ext (.t 37) 0), none, 0, false, []⟩,
    ⟨(some 39), (.ext (.t 37) 1), none, 0, false, []⟩,
    ⟨none, (.store 5 (.t 6) (.t 38)), none, 0, false, []⟩,
    ⟨(some 7), (.mv (.t 39)), none, 0, false, []⟩] false
def a40_19 : AC := .seq a40_18 .ret
def a40_20 : AC := .seq a40_17 a40_19
def a40_21 : AC := .seq a40_1 a40_20
def a40_22 : AC := .seq a40_0 a40_21
def af40 : AF := { ntmps := 40, res := [(.cell 6 true 5), (.t 7)], body := a40_22 }
theorem tr40 : trF Tryz.prog Tryz.f40 = some af40 := by kernel_rfl
attribute [go_sem] af40 a40_0 a40_1 a40_2 a40_3 a40_4 a40_5 a40_6 a40_7 a40_8 a40_9 a40_10 a40_11 a40_12 a40_13 a40_14 a40_15 a40_16 a40_17 a40_18 a40_19 a40_20 a40_21 a40_22
def a41_0 : AC := .reg [⟨(some 2), (.box (.t 0)), none, 0, false, []⟩,
    ⟨(some 4), (.new [(.int .i64 0), (.int .i64 0), (.int .i64 0), (.int .i64 0), .nils]), none, 0, false, []⟩] false
def a41_1 : AC := .reg [⟨(some 5), (.load true 5 (.t 2)), none, 0, false, []⟩,
    ⟨(some 6), (.mv (.t 1)), none, 0, false, []⟩,
    ⟨(some 7), (.call 77 [(.t 5), (.t 6), (.c (.int .i64 0))]), none, 0, false, []⟩,
    ⟨none, (.store 5 (.t 4) (.t 7)), none, 0, false, []⟩] false
def a41_2 : AC := .seq a41_1 .ret
def a41_3 : AC := .seq a41_0 a41_2
def af41 : AF := { ntmps := 8, res := [(.cell 4 true 5)], body := a41_3 }
theorem tr41 : trF Tryz.prog Tryz.f41 = some af41 := by kernel_rfl
attribute [go_sem] af41 a41_0 a41_1 a41_2 a41_3
def a100_0 : AC := .reg [⟨(some 2), (.box (.t 0)), none, 0, false, []⟩,
    ⟨(some 4), (.new [(.int .i64 0), (.int .i64 0), (.int .i64 0), (.int .i64 0), .nils]), none, 0, false, []⟩,
    ⟨(some 5), (.mv (.c (.bool false))), none, 0, false, []⟩] false
def a100_1 : AC := .reg [⟨(some 6), (.load true 5 (.t 2)), none, 0, false, []⟩,
    ⟨(some 7), (.call 88 [(.t 6)]), none, 0, false, []⟩,
    ⟨(some 8), (.un .not (.t 7)), none, 0, false, []⟩] false
def a100_2 : AC := .reg [⟨(some 9), (.build [(.int .i64 0), (.int .i64 0), (.int .i64 0), (.int .i64 0), .nils] []), none, 0, false, []⟩,
    ⟨none, (.store 5 (.t 4) (.t 9)), none, 0, false, []⟩,
    ⟨(some 5), (.mv (.c (.bool false))), none, 0, false, []⟩] false
def a100_3 : AC := .seq a100_2 .ret
def a100_4 : AC := .cond (.t 8) a100_3 .skip
def a100_5 : AC := .seq a100_1 a100_4
def a100_6 : AC := .reg [⟨(some 10), (.load true 5 (.t 2)), none, 0, false, []⟩,
    ⟨(some 11), (.mv (.t 1)), none, 0, false, []⟩,
    ⟨(some 12), (.call 124 [(.t 10), (.t 11), (.c (.bool false))]), none, 0, false, []⟩,
    ⟨(some 13), (.ext (.t 12) 0), none, 0, false, []⟩,
    ⟨(some 14), (.ext (.t 12) 1), none, 0, false, []⟩,
    ⟨none, (.store 5 (.t 4) (.t 13)), none, 0, false, []⟩,
    ⟨(some 5), (.mv (.t 14)), none, 0, false, []⟩] false
def a100_7 : AC := .seq a100_6 .ret
def a100_8 : AC := .seq a100_5 a100_7
def a100_9 : AC := .seq a100_0 a100_8
def af100 : AF := { ntmps := 15, res := [(.cell 4 true 5), (.t 5)], body := a100_9 }
theorem tr100 : trF Tryz.prog Tryz.f100 = some af100 := by kernel_rfl
attribute [go_sem] af100 a100_0 a100_1 a100_2 a100_3 a100_4 a100_5 a100_6 a100_7 a100_8 a100_9
def a108_0 : AC := .reg [⟨(some 4), (.box (.t 0)), none, 0, false, []⟩,
    ⟨(some 8), (.new [(.int .i64 0), (.int .i64 0), (.int .i64 0), (.int .i64 0), .nils]), none, 0, false, []⟩,
    ⟨(some 9), (.mv (.c (.bool false))), none, 0, false, []⟩] false
def a108_1 : AC := .reg [⟨(some 15), (.fad 0 (.t 4)), none, 0, false, []⟩,
    ⟨(some 16), (.load false 1 (.t 15)), none, 0, false, []⟩,
    ⟨(some 17), (.bin 0 .eql (.t 16) (.c (.int .i64 2))), none, 0, false, []⟩,
    ⟨(some 18), (.mv (.t 17)), none, 0, false, []⟩,
    ⟨(some 19), (.fad 1 (.t 4)), (some (18, true)), 0, false, []⟩,
    ⟨(some 20), (.load false 1 (.t 19)), (some (18, true)), 0, false, []⟩,
    ⟨(some 21), (.mv (.t 2)), (some (18, true)), 0, false, []⟩,
    ⟨(some 22), (.bin 0 .geq (.t 20) (.t 21)), (some (18, true)), 0, false, []⟩,
    ⟨(some 23), (.pick (.t 18) (.t 22) (.c (.bool false))), none, 0, false, []⟩] false
def a108_2 : AC := .reg [⟨(some 24), (.mv (.t 1)), none, 0, false, []⟩,
    ⟨(some 25), (.fad 1 (.t 4)), none, 0, false, []⟩,
    ⟨(some 26), (.load false 1 (.t 25)), none, 0, false, []⟩,
    ⟨(some 27), (.mv (.t 2)), none, 0, false, []⟩,
    ⟨(some 28), (.bin 0 .sub (.t 26) (.t 27)), none, 0, false, []⟩,
    ⟨(some 29), (.iad 5 (.t 24) (.t 28)), none, 0, false, []⟩,
    ⟨(some 30), (.load true 5 (.t 29)), none, 0, false, []⟩,
    ⟨(some 31), (.mv (.t 2)), none, 0, false, []⟩,
    ⟨(some 32), (.mv (.t 3)), none, 0, false, []⟩,
    ⟨(some 33), (.call 126 [(.t 30), (.t 31), (.t 32)]), none, 0, false, []⟩,
    ⟨(some 34), (.ext (.t 33) 0), none, 0, false, []⟩,
    ⟨(some 35), (.ext (.t 33) 1), none, 0, false, []⟩,
    ⟨none, (.store 5 (.t 8) (.t 34)), none, 0, false, []⟩,
    ⟨(some 9), (.mv (.t 35)), none, 0, false, []⟩] false
def a108_3 : AC := .seq a108_2 .ret
def a108_4 : AC := .cond (.t 23) a108_3 .skip
def a108_5 : AC := .seq a108_1 a108_4
def a108_6 : AC := .reg [⟨(some 36), (.fad 0 (.t 4)), none, 0, false, []⟩,
    ⟨(some 37), (.load false 1 (.t 36)), none, 0, false, []⟩,
    ⟨(some 38), (.fad 1 (.t 4)), none, 0, false, []⟩,
    ⟨(some 39), (.load false 1 (.t 38)), none, 0, false, []⟩,
    ⟨(some 40), (.fad 2 (.t 4)), none, 0, false, []⟩,
    ⟨(some 41), (.load false 1 (.t 40)), none, 0, false, []⟩,
    ⟨(some 42), (.fad 3 (.t 4)), none, 0, false, []⟩,
    ⟨(some 43), (.load false 1 (.t 42)), none, 0, false, []⟩,
    ⟨(some 44), (.build [(.int .i64 0), (.int .i64 0), (.int .i64 0), (.int .i64 0), .nils] [(0, (1, (.t 37))), (1, (1, (.t 39))), (2, (1, (.t 41))), (3, (1, (.t 43)))]), none, 0, false, []⟩,
    ⟨(some 10), (.new [(.int .i64 0), (.int .i64 0), (.int .i64 0), (.int .i64 0), .nils]), none, 0, false, []⟩,
    ⟨none, (.store 5 (.t 10) (.t 44)), none, 0, false, []⟩] false
def a108_7 : AC := .reg [⟨(some 11), (.mv (.c .nils)), none, 0, false, []⟩] false
def a108_8 : AC := .reg [⟨(some 12), (.mv (.c (.int .i64 0))), none, 0, false, []⟩] false
def a108_9 : AC := .reg [⟨(some 45), (.mv (.t 12)), none, 0, false, []⟩,
    ⟨(some 46), (.fad 4 (.t 4)), none, 0, false, []⟩,
    ⟨(some 47), (.load false 1 (.t 46)), none, 0, false, []⟩,
    ⟨(some 48), (.len false (.t 47)), none, 0, false, []⟩,
    ⟨(some 49), (.bin 0 .lss (.t 45) (.t 48)), none, 0, false, []⟩] false
def a108_10 : AC := .cond (.t 49) .skip (.exit 0)
def a108_11 : AC := .seq a108_9 a108_10
def a108_12 : AC := .reg [⟨(some 53), (.fad 4 (.t 4)), none, 0, false, []⟩,
    ⟨(some 54), (.load false 1 (.t 53)), none, 1, true, []⟩,
    ⟨(some 55), (.mv (.t 12)), none, 2, false, []⟩,
    ⟨(some 56), (.iad 5 (.t 54) (.t 55)), none, 3, true, []⟩,
    ⟨(some 57), (.load true 5 (.t 56)), none, 4, true, []⟩,
    ⟨(some 58), (.mv (.t 1)), none, 5, false, []⟩,
    ⟨(some 59), (.mv (.t 2)), none, 6, false, []⟩,
    ⟨(some 60), (.fad 0 (.t 4)), none, 7, false, []⟩,
    ⟨(some 61), (.load false 1 (.t 60)), none, 8, true, []⟩,
    ⟨(some 62), (.mv (.t 12)), none, 9, false, []⟩,
    ⟨(some 63), (.call 125 [(.t 61), (.t 62)]), none, 10, true, [1, 3, 4]⟩,
    ⟨(some 64), (.bin 0 .add (.t 59) (.t 63)), none, 11, false, []⟩,
    ⟨(some 65), (.mv (.t 3)), none, 12, false, []⟩,
    ⟨(some 66), (.mv (.t 65)), none, 13, false, []⟩,
    ⟨(some 67), (.load true 5 (.t 4)), (some (66, false)), 14, true, []⟩,
    ⟨(some 68), (.mv (.t 12)), (some (66, false)), 15, false, []⟩,
    ⟨(some 69), (.call 127 [(.t 67), (.t 68)]), (some (66, false)), 16, true, [1, 3, 4]⟩,
    ⟨(some 70), (.pick (.t 66) (.c (.bool true)) (.t 69)), none, 17, false, []⟩,
    ⟨(some 71), (.call 108 [(.t 57), (.t 58), (.t 64), (.t 70)]), none, 18, true, []⟩,
    ⟨(some 52), (.mv (.t 71)), none, 19, false, []⟩,
    ⟨(some 72), (.ext (.t 52) 0), none, 20, false, []⟩,
    ⟨(some 73), (.ext (.t 52) 1), none, 21, false, []⟩,
    ⟨(some 13), (.new [(.int .i64 0), (.int .i64 0), (.int .i64 0), (.int .i64 0), .nils]), none, 22, false, [1, 3, 4, 8, 10, 14, 16, 18]⟩,
    ⟨none, (.store 5 (.t 13) (.t 72)), none, 23, false, []⟩,
    ⟨(some 14), (.mv (.t 73)), none, 24, false, []⟩] true
def a108_13 : AC := .reg [⟨(some 74), (.mv (.t 14)), none, 0, false, []⟩,
    ⟨(some 75), (.un .not (.t 74)), none, 0, false, []⟩] false
def a108_14 : AC := .reg [⟨(some 76), (.build [(.int .i64 0), (.int .i64 0), (.int .i64 0), (.int .i64 0), .nils] []), none, 0, false, []⟩,
    ⟨none, (.store 5 (.t 8) (.t 76)), none, 0, false, []⟩,
    ⟨(some 9), (.mv (.c (.bool false))), none, 0, false, []⟩] false
def a108_15 : AC := .seq a108_14 .ret
def a108_16 : AC := .cond (.t 75) a108_15 .skip
def a108_17 : AC := .seq a108_13 a108_16
def a108_18 : AC := .reg [⟨(some 77), (.mv (.t 11)), none, 0, false, []⟩,
    ⟨(some 78), (.load true 5 (.t 13)), none, 0, false, []⟩,
    ⟨(some 79), (.bslice 5 [(.t 78)]), none, 0, false, []⟩,
    ⟨(some 80), (.app 5 56 (.t 77) (.t 79)), none, 0, false, []⟩,
    ⟨(some 11), (.mv (.t 80)), none, 0, false, []⟩] false
def a108_19 : AC := .seq a108_17 a108_18
def a108_20 : AC := .seq a108_12 a108_19
def a108_21 : AC := .blk 1 a108_20
def a108_22 : AC := .reg [⟨(some 50), (.mv (.t 12)), none, 0, false, []⟩,
    ⟨(some 51), (.bin 0 .add (.t 50) (.c (.int .i64 1))), none, 0, false, []⟩,
    ⟨(some 12), (.mv (.t 51)), none, 0, false, []⟩] false
def a108_23 : AC := .seq a108_21 a108_22
def a108_24 : AC := .seq a108_11 a108_23
def a108_25 : AC := .loop a108_24
def a108_26 : AC := .blk 0 a108_25
def a108_27 : AC := .seq a108_8 a108_26
def a108_28 : AC := .reg [⟨(some 81), (.mv (.t 11)), none, 0, false, []⟩,
    ⟨(some 82), (.fad 4 (.t 10)), none, 0, false, []⟩,
    ⟨none, (.store 1 (.t 82) (.t 81)), none, 0, false, []⟩] false
def a108_29 : AC := .reg [⟨(some 83), (.load true 5 (.t 10)), none, 0, false, []⟩,
    ⟨none, (.store 5 (.t 8) (.t 83)), none, 0, false, []⟩,
    ⟨(some 9), (.mv (.c (.bool true))), none, 0, false, []⟩] false
def a108_30 : AC := .seq a108_29 .ret
def a108_31 : AC := .seq a108_28 a108_30
def a108_32 : AC := .seq a108_27 a108_31
def a108_33 : AC := .seq a108_7 a108_32
def a108_34 : AC := .seq a108_6 a108_33
def a108_35 : AC := .seq a108_5 a108_34
def a108_36 : AC := .seq a108_0 a108_35
def af108 : AF := { ntmps := 84, res := [(.cell 8 true 5), (.t 9)], body := a108_36 }
theorem tr108 : trF Tryz.prog Tryz.f108 = some af108 := by kernel_rfl
attribute [go_sem] af108 a108_0 a108_1 a108_2 a108_3 a108_4 a108_5 a108_6 a108_7 a108_8 a108_9 a108_10 a108_11 a108_12 a108_13 a108_14 a108_15 a108_16 a108_17 a108_18 a108_19 a108_20 a108_21 a108_22 a108_23 a108_24 a108_25 a108_26 a108_27 a108_28 a108_29 a108_30 a108_31 a108_32 a108_33 a108_34 a108_35 a108_36
def a76_0 : AC := .reg [⟨(some 2), (.box (.t 0)), none, 0, false, []⟩,
    ⟨(some 4), (.new [(.int .i64 0), (.int .i64 0), (.int .i64 0), (.int .i64 0), .nils]), none, 0, false, []⟩,
    ⟨(some 5), (.mv (.c (.bool false))), none, 0, false, []⟩] false
def a76_1 : AC := .reg [⟨(some 9), (.load true 5 (.t 2)), none, 0, false, []⟩,
    ⟨(some 10), (.call 105 [(.t 9)]), none, 0, false, []⟩,
    ⟨(some 11), (.un .not (.t 10)), none, 0, false, []⟩,
    ⟨(some 12), (.mv (.t 11)), none, 0, false, []⟩,
    ⟨(some 13), (.load true 5 (.t 2)), (some (12, false)), 0, false, []⟩,
    ⟨(some 14), (.call 106 [(.t 13)]), (some (12, false)), 0, false, []⟩,
    ⟨(some 15), (.mv (.t 1)), (some (12, false)), 0, false, []⟩,
    ⟨(some 16), (.len false (.t 15)), (some (12, false)), 0, false, []⟩,
    ⟨(some 17), (.bin 0 .gtr (.t 14) (.t 16)), (some (12, false)), 0, false, []⟩,
    ⟨(some 18), (.pick (.t 12) (.c (.bool true)) (.t 17)), none, 0, false, []⟩] false
def a76_2 : AC := .reg [⟨(some 19), (.build [(.int .i64 0), (.int .i64 0), (.int .i64 0), (.int .i64 0), .nils] []), none, 0, false, []⟩,
    ⟨none, (.store 5 (.t 4) (.t 19)), none, 0, false, []⟩,
    ⟨(some 5), (.mv (.c (.bool false))), none, 0, false, []⟩] false
def a76_3 : AC := .seq a76_2 .ret
def a76_4 : AC := .cond (.t 18) a76_3 .skip
def a76_5 : AC := .seq a76_1 a76_4
def a76_6 : AC := .reg [⟨(some 6), (.mv (.c (.int .i64 0))), none, 0, false, []⟩] false
def a76_7 : AC := .reg [⟨(some 20), (.mv (.t 6)), none, 0, false, []⟩,
    ⟨(some 21), (.mv (.t 1)), none, 0, false, []⟩,
    ⟨(some 22), (.len false (.t 21)), none, 0, false, []⟩,
    ⟨(some 23), (.bin 0 .lss (.t 20) (.t 22)), none, 0, false, []⟩] false
def a76_8 : AC := .cond (.t 23) .skip (.exit 0)
def a76_9 : AC := .seq a76_7 a76_8
def a76_10 : AC := .reg [⟨(some 26), (.load true 5 (.t 2)), none, 0, false, []⟩,
    ⟨(some 27), (.mv (.t 1)), none, 1, false, []⟩,
    ⟨(some 28), (.mv (.t 6)), none, 2, false, []⟩,
    ⟨(some 29), (.iad 5 (.t 27) (.t 28)), none, 3, false, []⟩,
    ⟨(some 30), (.load true 5 (.t 29)), none, 4, false, []⟩,
    ⟨(some 31), (.call 107 [(.t 26), (.t 30)]), none, 5, false, []⟩,
    ⟨(some 32), (.un .not (.t 31)), none, 6, false, []⟩] true
def a76_11 : AC := .reg [⟨(some 33), (.build [(.int .i64 0), (.int .i64 0), (.int .i64 0), (.int .i64 0), .nils] []), none, 0, false, []⟩,
    ⟨none, (.store 5 (.t 4) (.t 33)), none, 0, false, []⟩,
    ⟨(some 5), (.mv (.c (.bool false))), none, 0, false, []⟩] false
def a76_12 : AC := .seq a76_11 .ret
def a76_13 : AC := .cond (.t 32) a76_12 .skip
def a76_14 : AC := .seq a76_10 a76_13
def a76_15 : AC := .blk 1 a76_14
def a76_16 : AC := .reg [⟨(some 24), (.mv (.t 6)), none, 0, false, []⟩,
    ⟨(some 25), (.bin 0 .add (.t 24) (.c (.int .i64 1))), none, 0, false, []⟩,
    ⟨(some 6), (.mv (.t 25)), none, 0, false, []⟩] false
def a76_17 : AC := .seq a76_15 a76_16
def a76_18 : AC := .seq a76_9 a76_17
def a76_19 : AC := .loop a76_18
def a76_20 : AC := .blk 0 a76_19
def a76_21 : AC := .seq a76_6 a76_20
def a76_22 : AC := .reg [⟨(some 35), (.load true 5 (.t 2)), none, 0, false, []⟩,
    ⟨(some 36), (.mv (.t 1)), none, 0, false, []⟩,
    ⟨(some 37), (.call 108 [(.t 35), (.t 36), (.c (.int .i64 0)), (.c (.bool false))]), none, 0, false, []⟩,
    ⟨(some 34), (.mv (.t 37)), none, 0, false, []⟩,
    ⟨(some 38), (.ext (.t 34) 0), none, 0, false, []⟩,
    ⟨(some 39), (.ext (.t 34) 1), none, 0, false, []⟩,
    ⟨(some 7), (.new [(.int .i64 0), (.int .i64 0), (.int .i64 0), (.int .i64 0), .nils]), none, 0, false, []⟩,
    ⟨none, (.store 5 (.t 7) (.t 38)), none, 0, false, []⟩,
    ⟨(some 8), (.mv (.t 39)), none, 0, false, []⟩] false
def a76_23 : AC := .reg [⟨(some 40), (.mv (.t 8)), none, 0, false, []⟩,
    ⟨(some 41), (.un .not (.t 40)), none, 0, false, []⟩] false
def a76_24 : AC := .reg [⟨(some 42), (.build [(.int .i64 0), (.int .i64 0), (.int .i64 0), (.int .i64 0), .nils] []), none, 0, false, []⟩,
    ⟨none, (.store 5 (.t 4) (.t 42)), none, 0, false, []⟩,
    ⟨(some 5), (.mv (.c (.bool false))), none, 0, false, []⟩] false
def a76_25 : AC := .seq a76_24 .ret
def a76_26 : AC := .cond (.t 41) a76_25 .skip
def a76_27 : AC := .seq a76_23 a76_26
def a76_28 : AC := .reg [⟨(some 43), (.load true 5 (.t 7)), none, 0, false, []⟩,
    ⟨none, (.store 5 (.t 4) (.t 43)), none, 0, false, []⟩,
    ⟨(some 5), (.mv (.c (.bool true))), none, 0, false, []⟩] false
def a76_29 : AC := .seq a76_28 .ret
def a76_30 : AC := .seq a76_27 a76_29
def a76_31 : AC := .seq a76_22 a76_30
def a76_32 : AC := .seq a76_21 a76_31
def a76_33 : AC := .seq a76_5 a76_32
def a76_34 : AC := .seq a76_0 a76_33
def af76 : AF := { ntmps := 44, res := [(.cell 4 true 5), (.t 5)], body := a76_34 }
theorem tr76 : trF Tryz.prog Tryz.f76 = some af76 := by kernel_rfl
attribute [go_sem] af76 a76_0 a76_1 a76_2 a76_3 a76_4 a76_5 a76_6 a76_7 a76_8 a76_9 a76_10 a76_11 a76_12 a76_13 a76_14 a76_15 a76_16 a76_17 a76_18 a76_19 a76_20 a76_21 a76_22 a76_23 a76_24 a76_25 a76_26 a76_27 a76_28 a76_29 a76_30 a76_31 a76_32 a76_33 a76_34
def a29_0 : AC := .reg [⟨(some 4), (.mv (.c (.bool false))), none, 0, false, []⟩] false
def a29_1 : AC := .reg [⟨(some 6), (.mv (.t 0)), none, 0, false, []⟩,
    ⟨(some 7), (.len false (.t 6)), none, 0, false, []⟩,
    ⟨(some 8), (.mv (.t 1)), none, 0, false, []⟩,
    ⟨(some 9), (.len false (.t 8)), none, 0, false, []⟩,
    ⟨(some 10), (.bin 0 .neq (.t 7) (.t 9)), none, 0, false, []⟩] false
def a29_2 : AC := .reg [⟨(some 4), (.mv (.c (.bool false))), none, 0, false, []⟩] false
def a29_3 : AC := .seq a29_2 .ret
def a29_4 : AC := .cond (.t 10) a29_3 .skip
def a29_5 : AC := .seq a29_1 a29_4
def a29_6 : AC := .reg [⟨(some 11), (.mv (.t 0)), none, 0, false, []⟩,
    ⟨(some 12), (.len false (.t 11)), none, 0, false, []⟩,
    ⟨(some 13), (.mv (.c (.int .i64 0))), none, 0, false, []⟩] false
def a29_7 : AC := .reg [⟨(some 14), (.bin 0 .lss (.t 13) (.t 12)), none, 0, false, []⟩] false
def a29_8 : AC := .cond (.t 14) .skip (.exit 0)
def a29_9 : AC := .reg [⟨(some 15), (.mv (.t 13)), none, 0, false, []⟩,
    ⟨(some 5), (.mv (.t 15)), none, 0, false, []⟩] false
def a29_10 : AC := .reg [⟨(some 16), (.mv (.t 0)), none, 0, false, []⟩,
    ⟨(some 17), (.mv (.t 5)), none, 1, false, []⟩,
    ⟨(some 18), (.iad 6 (.t 16) (.t 17)), none, 2, false, []⟩,
    ⟨(some 19), (.fad 5 (.t 18)), none, 3, false, []⟩,
    ⟨(some 20), (.load false 1 (.t 19)), none, 4, false, []⟩,
    ⟨(some 21), (.mv (.t 1)), none, 5, false, []⟩,
    ⟨(some 22), (.mv (.t 5)), none, 6, false, []⟩,
    ⟨(some 23), (.iad 6 (.t 21) (.t 22)), none, 7, false, []⟩,
    ⟨(some 24), (.fad 5 (.t 23)), none, 8, false, []⟩,
    ⟨(some 25), (.load false 1 (.t 24)), none, 9, false, []⟩,
    ⟨(some 26), (.bin 0 .neq (.t 20) (.t 25)), none, 10, false, []⟩,
    ⟨(some 27), (.mv (.t 26)), none, 11, false, []⟩,
    ⟨(some 28), (.mv (.t 0)), (some (27, false)), 12, false, []⟩,
    ⟨(some 29), (.mv (.t 5)), (some (27, false)), 13, false, []⟩,
    ⟨(some 30), (.iad 6 (.t 28) (.t 29)), (some (27, false)), 14, false, []⟩,
    ⟨(some 31), (.fad 0 (.t 30)), (some (27, false)), 15, false, []⟩,
    ⟨(some 32), (.load true 5 (.t 31)), (some (27, false)), 16, false, []⟩,
    ⟨(some 33), (.mv (.t 1)), (some (27, false)), 17, false, []⟩,
    ⟨(some 34), (.mv (.t 5)), (some (27, false)), 18, false, []⟩,
    ⟨(some 35), (.iad 6 (.t 33) (.t 34)), (some (27, false)), 19, false, []⟩,
    ⟨(some 36), (.fad 0 (.t 35)), (some (27, false)), 20, false, []⟩,
    ⟨(some 37), (.load true 5 (.t 36)), (some (27, false)), 21, false, []⟩,
    ⟨(some 38), (.call 68 [(.t 32), (.t 37)]), (some (27, false)), 22, false, []⟩,
    ⟨(some 39), (.un .not (.t 38)), (some (27, false)), 23, false, []⟩,
    ⟨(some 40), (.pick (.t 27) (.c (.bool true)) (.t 39)), none, 24, false, []⟩] true
def a29_11 : AC := .reg [⟨(some 4), (.mv (.c (.bool false))), none, 0, false, []⟩] false
def a29_12 : AC := .seq a29_11 .ret
def a29_13 : AC := .cond (.t 40) a29_12 .skip
def a29_14 : AC := .seq a29_10 a29_13
def a29_15 : AC := .seq a29_9 a29_14
def a29_16 : AC := .blk 1 a29_15
def a29_17 : AC := .reg [⟨(some 41), (.bin 0 .add (.t 13) (.c (.int .i64 1))), none, 0, false, []⟩,
    ⟨(some 13), (.mv (.t 41)), none, 0, false, []⟩] false
def a29_18 : AC := .seq a29_16 a29_17
def a29_19 : AC := .seq a29_8 a29_18
def a29_20 : AC := .seq a29_7 a29_19
def a29_21 : AC := .loop a29_20
def a29_22 : AC := .blk 0 a29_21
def a29_23 : AC := .seq a29_6 a29_22
def a29_24 : AC := .reg [⟨(some 4), (.mv (.c (.bool true))), none, 0, false, []⟩] false
def a29_25 : AC := .seq a29_24 .ret
def a29_26 : AC := .seq a29_23 a29_25
def a29_27 : AC := .seq a29_5 a29_26
def a29_28 : AC := .seq a29_0 a29_27
def af29 : AF := { ntmps := 42, res := [(.t 4)], body := a29_28 }
theorem tr29 : trF Tryz.prog Tryz.f29 = some af29 := by kernel_rfl
attribute [go_sem] af29 a29_0 a29_1 a29_2 a29_3 a29_4 a29_5 a29_6 a29_7 a29_8 a29_9 a29_10 a29_11 a29_12 a29_13 a29_14 a29_15 a29_16 a29_17 a29_18 a29_19 a29_20 a29_21 a29_22 a29_23 a29_24 a29_25 a29_26 a29_27 a29_28
def a30_0 : AC := .reg [⟨(some 2), (.mv (.c .nils)), none, 0, false, []⟩] false
def a30_1 : AC := .reg [⟨(some 6), (.mv (.t 0)), none, 0, false, []⟩,
    ⟨(some 7), (.call 66 [(.t 6)]), none, 0, false, []⟩,
    ⟨(some 8), (.un .not (.t 7)), none, 0, false, []⟩] false
def a30_2 : AC := .reg [⟨(some 2), (.mv (.c .nils)), none, 0, false, []⟩] false
def a30_3 : AC := .seq a30_2 .ret
def a30_4 : AC := .cond (.t 8) a30_3 .skip
def a30_5 : AC := .seq a30_1 a30_4
def a30_6 : AC := .reg [⟨(some 9), (.mv (.t 0)), none, 0, false, []⟩,
    ⟨(some 10), (.len false (.t 9)), none, 0, false, []⟩,
    ⟨(some 11), (.mk 6 64 [(.int .i64 0), (.int .i64 0), (.int .i64 0), (.int .i64 0), .nils, (.int .i64 0)] (.c (.int .i64 0)) (.t 10)), none, 0, false, []⟩,
    ⟨(some 3), (.mv (.t 11)), none, 0, false, []⟩] false
def a30_7 : AC := .reg [⟨(some 12), (.mv (.t 0)), none, 0, false, []⟩,
    ⟨(some 13), (.len false (.t 12)), none, 0, false, []⟩,
    ⟨(some 14), (.mv (.c (.int .i64 0))), none, 0, false, []⟩] false
def a30_8 : AC := .reg [⟨(some 15), (.bin 0 .lss (.t 14) (.t 13)), none, 0, false, []⟩] false
def a30_9 : AC := .cond (.t 15) .skip (.exit 0)
def a30_10 : AC := .reg [⟨(some 16), (.iad 6 (.t 12) (.t 14)), none, 0, false, []⟩,
    ⟨(some 17), (.load true 6 (.t 16)), none, 0, false, []⟩,
    ⟨(some 5), (.new [(.int .i64 0), (.int .i64 0), (.int .i64 0), (.int .i64 0), .nils, (.int .i64 0)]), none, 0, false, []⟩,
    ⟨none, (.store 6 (.t 5) (.t 17)), none, 0, false, []⟩] false
def a30_11 : AC := .reg [⟨(some 18), (.mv (.t 3)), none, 0, false, []⟩,
    ⟨(some 19), (.fad 0 (.t 5)), none, 1, false, []⟩,
    ⟨(some 20), (.load true 5 (.t 19)), none, 2, false, []⟩,
    ⟨(some 21), (.call 69 [(.t 20)]), none, 3, true, []⟩,
    ⟨(some 22), (.fad 5 (.t 5)), none, 4, false, []⟩,
    ⟨(some 23), (.load false 1 (.t 22)), none, 5, false, [3]⟩,
    ⟨(some 24), (.build [(.int .i64 0), (.int .i64 0), (.int .i64 0), (.int .i64 0), .nils, (.int .i64 0)] [(0, (5, (.t 21))), (5, (1, (.t 23)))]), none, 6, false, []⟩,
    ⟨(some 25), (.bslice 6 [(.t 24)]), none, 7, false, []⟩,
    ⟨(some 26), (.app 6 64 (.t 18) (.t 25)), none, 8, false, []⟩,
    ⟨(some 3), (.mv (.t 26)), none, 9, false, []⟩] true
def a30_12 : AC := .seq a30_10 a30_11
def a30_13 : AC := .blk 1 a30_12
def a30_14 : AC := .reg [⟨(some 27), (.bin 0 .add (.t 14) (.c (.int .i64 1))), none, 0, false, []⟩,
    ⟨(some 14), (.mv (.t 27)), none, 0, false, []⟩] false
def a30_15 : AC := .seq a30_13 a30_14
def a30_16 : AC := .seq a30_9 a30_15
def a30_17 : AC := .seq a30_8 a30_16
def a30_18 : AC := .loop a30_17
def a30_19 : AC := .blk 0 a30_18
def a30_20 : AC := .seq a30_7 a30_19
def a30_21 : AC := .reg [⟨(some 28), (.mv (.t 3)), none, 0, false, []⟩,
    ⟨(some 2), (.mv (.t 28)), none, 0, false, []⟩] false
def a30_22 : AC := .seq a30_21 .ret
def a30_23 : AC := .seq a30_20 a30_22
def a30_24 : AC := .seq a30_6 a30_23
def a30_25 : AC := .seq a30_5 a30_24
def a30_26 : AC := .seq a30_0 a30_25
def af30 : AF := { ntmps := 29, res := [(.t 2)], body := a30_26 }
theorem tr30 : trF Tryz.prog Tryz.f30 = some af30 := by kernel_rfl
attribute [go_sem] af30 a30_0 a30_1 a30_2 a30_3 a30_4 a30_5 a30_6 a30_7 a30_8 a30_9 a30_10 a30_11 a30_12 a30_13 a30_14 a30_15 a30_16 a30_17 a30_18 a30_19 a30_20 a30_21 a30_22 a30_23 a30_24 a30_25 a30_26
def a38_0 : AC := .reg [⟨(some 4), (.mv (.c (.bool false))), none, 0, false, []⟩] false
def a38_1 : AC := .reg [⟨(some 6), (.mv (.t 0)), none, 0, false, []⟩,
    ⟨(some 7), (.len false (.t 6)), none, 0, false, []⟩,
    ⟨(some 8), (.mv (.t 1)), none, 0, false, []⟩,
    ⟨(some 9), (.len false (.t 8)), none, 0, false, []⟩,
    ⟨(some 10), (.bin 0 .neq (.t 7) (.t 9)), none, 0, false, []⟩] false
def a38_2 : AC := .reg [⟨(some 4), (.mv (.c (.bool false))), none, 0, false, []⟩] false
def a38_3 : AC := .seq a38_2 .ret
def a38_4 : AC := .cond (.t 10) a38_3 .skip
def a38_5 : AC := .seq a38_1 a38_4
def a38_6 : AC := .reg [⟨(some 5), (.mv (.c (.int .i64 0))), none, 0, false, []⟩] false
def a38_7 : AC := .reg [⟨(some 11), (.mv (.t 5)), none, 0, false, []⟩,
    ⟨(some 12), (.mv (.t 0)), none, 0, false, []⟩,
    ⟨(some 13), (.len false (.t 12)), none, 0, false, []⟩,
    ⟨(some 14), (.bin 0 .lss (.t 11) (.t 13)), none, 0, false, []⟩] false
def a38_8 : AC := .cond (.t 14) .skip (.exit 0)
def a38_9 : AC := .seq a38_7 a38_8
def a38_10 : AC := .reg [⟨(some 17), (.mv (.t 0)), none, 0, false, []⟩,
    ⟨(some 18), (.mv (.t 5)), none, 1, false, []⟩,
    ⟨(some 19), (.iad 6 (.t 17) (.t 18)), none, 2, false, []⟩,
    ⟨(some 20), (.fad 5 (.t 19)), none, 3, false, []⟩,
    ⟨(some 21), (.load false 1 (.t 20)), none, 4, false, []⟩,
    ⟨(some 22), (.mv (.t 1)), none, 5, false, []⟩,
    ⟨(some 23), (.mv (.t 5)), none, 6, false, []⟩,
    ⟨(some 24), (.iad 6 (.t 22) (.t 23)), none, 7, false, []⟩,
    ⟨(some 25), (.fad 5 (.t 24)), none, 8, false, []⟩,
    ⟨(some 26), (.load false 1 (.t 25)), none, 9, false, []⟩,
    ⟨(some 27), (.bin 0 .neq (.t 21) (.t 26)), none, 10, false, []⟩,
    ⟨(some 28), (.mv (.t 27)), none, 11, false, []⟩,
    ⟨(some 29), (.mv (.t 0)), (some (28, false)), 12, false, []⟩,
    ⟨(some 30), (.mv (.t 5)), (some (28, false)), 13, false, []⟩,
    ⟨(some 31), (.iad 6 (.t 29) (.t 30)), (some (28, false)), 14, false, []⟩,
    ⟨(some 32), (.fad 0 (.t 31)), (some (28, false)), 15, false, []⟩,
    ⟨(some 33), (.load true 5 (.t 32)), (some (28, false)), 16, false, []⟩,
    ⟨(some 34), (.mv (.t 1)), (some (28, false)), 17, false, []⟩,
    ⟨(some 35), (.mv (.t 5)), (some (28, false)), 18, false, []⟩,
    ⟨(some 36), (.iad 6 (.t 34) (.t 35)), (some (28, false)), 19, false, []⟩,
    ⟨(some 37), (.fad 0 (.t 36)), (some (28, false)), 20, false, []⟩,
    ⟨(some 38), (.load true 5 (.t 37)), (some (28, false)), 21, false, []⟩,
    ⟨(some 39), (.call 16 [(.t 33), (.t 38)]), (some (28, false)), 22, false, []⟩,
    ⟨(some 40), (.un .not (.t 39)), (some (28, false)), 23, false, []⟩,
    ⟨(some 41), (.pick (.t 28) (.c (.bool true)) (.t 40)), none, 24, false, []⟩] true
def a38_11 : AC := .reg [⟨(some 4), (.mv (.c (.bool false))), none, 0, false, []⟩] false
def a38_12 : AC := .seq a38_11 .ret
def a38_13 : AC := .cond (.t 41) a38_12 .skip
def a38_14 : AC := .seq a38_10 a38_13
def a38_15 : AC := .blk 1 a38_14
def a38_16 : AC := .reg [⟨(some 15), (.mv (.t 5)), none, 0, false, []⟩,
    ⟨(some 16), (.bin 0 .add (.t 15) (.c (.int .i64 1))), none, 0, false, []⟩,
    ⟨(some 5), (.mv (.t 16)), none, 0, false, []⟩] false
def a38_17 : AC := .seq a38_15 a38_16
def a38_18 : AC := .seq a38_9 a38_17
def a38_19 : AC := .loop a38_18
def a38_20 : AC := .blk 0 a38_19
def a38_21 : AC := .seq a38_6 a38_20
def a38_22 : AC := .reg [⟨(some 4), (.mv (.c (.bool true))), none, 0, false, []⟩] false
def a38_23 : AC := .seq a38_22 .ret
def a38_24 : AC := .seq a38_21 a38_23
def a38_25 : AC := .seq a38_5 a38_24
def a38_26 : AC := .seq a38_0 a38_25
def af38 : AF := { ntmps := 42, res := [(.t 4)], body := a38_26 }
theorem tr38 : trF Tryz.prog Tryz.f38 = some af38 := by kernel_rfl
attribute [go_sem] af38 a38_0 a38_1 a38_2 a38_3 a38_4 a38_5 a38_6 a38_7 a38_8 a38_9 a38_10 a38_11 a38_12 a38_13 a38_14 a38_15 a38_16 a38_17 a38_18 a38_19 a38_20 a38_21 a38_22 a38_23 a38_24 a38_25 a38_26
def a39_0 : AC := .reg [⟨(some 2), (.mv (.c .nils)), none, 0, false, []⟩] false
def a39_1 : AC := .reg [⟨(some 3), (.mv (.c .nils)), none, 0, false, []⟩] false
def a39_2 : AC := .reg [⟨(some 4), (.mv (.c (.int .i64 0))), none, 0, false, []⟩] false
def a39_3 : AC := .reg [⟨(some 5), (.mv (.t 4)), none, 0, false, []⟩,
    ⟨(some 6), (.mv (.t 0)), none, 0, false, []⟩,
    ⟨(some 7), (.len false (.t 6)), none, 0, false, []⟩,
    ⟨(some 8), (.bin 0 .lss (.t 5) (.t 7)), none, 0, false, []⟩,
    ⟨(some 9), (.mv (.t 8)), none, 0, false, []⟩,
    ⟨(some 10), (.mv (.t 0)), (some (9, true)), 0, false, []⟩,
    ⟨(some 11), (.call 73 [(.t 10)]), (some (9, true)), 0, false, []⟩,
    ⟨(some 12), (.pick (.t 9) (.t 11) (.c (.bool false))), none, 0, false, []⟩] false
def a39_4 : AC := .cond (.t 12) .skip (.exit 0)
def a39_5 : AC := .seq a39_3 a39_4
def a39_6 : AC := .reg [⟨(some 15), (.mv (.t 3)), none, 0, false, []⟩,
    ⟨(some 16), (.mv (.t 0)), none, 1, false, []⟩,
    ⟨(some 17), (.mv (.t 4)), none, 2, false, []⟩,
    ⟨(some 18), (.iad 6 (.t 16) (.t 17)), none, 3, false, []⟩,
    ⟨(some 19), (.fad 0 (.t 18)), none, 4, false, []⟩,
    ⟨(some 20), (.load true 5 (.t 19)), none, 5, false, []⟩,
    ⟨(some 21), (.call 75 [(.t 20)]), none, 6, true, []⟩,
    ⟨(some 22), (.mv (.t 0)), none, 7, false, []⟩,
    ⟨(some 23), (.mv (.t 4)), none, 8, false, []⟩,
    ⟨(some 24), (.iad 6 (.t 22) (.t 23)), none, 9, false, [6]⟩,
    ⟨(some 25), (.fad 5 (.t 24)), none, 10, false, []⟩,
    ⟨(some 26), (.load false 1 (.t 25)), none, 11, false, [6]⟩,
    ⟨(some 27), (.build [(.int .i64 0), (.int .i64 0), (.int .i64 0), (.int .i64 0), .nils, (.int .i64 0)] [(0, (5, (.t 21))), (5, (1, (.t 26)))]), none, 12, false, []⟩,
    ⟨(some 28), (.bslice 6 [(.t 27)]), none, 13, false, []⟩,
    ⟨(some 29), (.app 6 64 (.t 15) (.t 28)), none, 14, false, []⟩,
    ⟨(some 3), (.mv (.t 29)), none, 15, false, []⟩] true
def a39_7 : AC := .blk 1 a39_6
def a39_8 : AC := .reg [⟨(some 13), (.mv (.t 4)), none, 0, false, []⟩,
    ⟨(some 14), (.bin 0 .add (.t 13) (.c (.int .i64 1))), none, 0, false, []⟩,
    ⟨(some 4), (.mv (.t 14)), none, 0, false, []⟩] false
def a39_9 : AC := .seq a39_7 a39_8
def a39_10 : AC := .seq a39_5 a39_9
def a39_11 : AC := .loop a39_10
def a39_12 : AC := .blk 0 a39_11
def a39_13 : AC := .seq a39_2 a39_12
def a39_14 : AC := .reg [⟨(some 30), (.mv (.t 3)), none, 0, false, []⟩,
    ⟨(some 2), (.mv (.t 30)), none, 0, false, []⟩] false
def a39_15 : AC := .seq a39_14 .ret
def a39_16 : AC := .seq a39_13 a39_15
def a39_17 : AC := .seq a39_1 a39_16
def a39_18 : AC := .seq a39_0 a39_17
def af39 : AF := { ntmps := 31, res := [(.t 2)], body := a39_18 }
theorem tr39 : trF Tryz.prog Tryz.f39 = some af39 := by kernel_rfl
attribute [go_sem] af39 a39_0 a39_1 a39_2 a39_3 a39_4 a39_5 a39_6 a39_7 a39_8 a39_9 a39_10 a39_11 a39_12 a39_13 a39_14 a39_15 a39_16 a39_17 a39_18
def a69_0 : AC := .reg [⟨(some 1), (.box (.t 0)), none, 0, false, []⟩,
    ⟨(some 2), (.new [(.int .i64 0), (.int .i64 0), (.int .i64 0), (.int .i64 0), .nils]), none, 0, false, []⟩] false
def a69_1 : AC := .reg [⟨(some 3), (.load true 5 (.t 1)), none, 0, false, []⟩,
    ⟨(some 4), (.call 54 [(.t 3)]), none, 0, false, []⟩,
    ⟨(some 5), (.un .not (.t 4)), none, 0, false, []⟩] false
def a69_2 : AC := .reg [⟨(some 6), (.build [(.int .i64 0), (.int .i64 0), (.int .i64 0), (.int .i64 0), .nils] []), none, 0, false, []⟩,
    ⟨none, (.store 5 (.t 2) (.t 6)), none, 0, false, []⟩] false
def a69_3 : AC := .seq a69_2 .ret
def a69_4 : AC := .cond (.t 5) a69_3 .skip
def a69_5 : AC := .seq a69_1 a69_4
def a69_6 : AC := .reg [⟨(some 7), (.load true 5 (.t 1)), none, 0, false, []⟩,
    ⟨(some 8), (.call 64 [(.t 7)]), none, 0, false, []⟩,
    ⟨none, (.store 5 (.t 2) (.t 8)), none, 0, false, []⟩] false
def a69_7 : AC := .seq a69_6 .ret
def a69_8 : AC := .seq a69_5 a69_7
def a69_9 : AC := .seq a69_0 a69_8
def af69 : AF := { ntmps := 9, res := [(.cell 2 true 5)], body := a69_9 }
theorem tr69 : trF Tryz.prog Tryz.f69 = some af69 := by kernel_rfl
attribute [go_sem] af69 a69_0 a69_1 a69_2 a69_3 a69_4 a69_5 a69_6 a69_7 a69_8 a69_9
def a75_0 : AC := .reg [⟨(some 1), (.box (.t 0)), none, 0, false, []⟩,
    ⟨(some 2), (.new [(.int .i64 0), (.int .i64 0), (.int .i64 0), (.int .i64 0), .nils]), none, 0, false, []⟩] false
def a75_1 : AC := .reg [⟨(some 3), (.load true 5 (.t 1)), none, 0, false, []⟩,
    ⟨(some 4), (.call 21 [(.t 3)]), none, 0, false, []⟩,
    ⟨(some 5), (.un .not (.t 4)), none, 0, false, []⟩] false
def a75_2 : AC := .reg [⟨(some 6), (.build [(.int .i64 0), (.int .i64 0), (.int .i64 0), (.int .i64 0), .nils] []), none, 0, false, []⟩,
    ⟨none, (.store 5 (.t 2) (.t 6)), none, 0, false, []⟩] false
def a75_3 : AC := .seq a75_2 .ret
def a75_4 : AC := .cond (.t 5) a75_3 .skip
def a75_5 : AC := .seq a75_1 a75_4
def a75_6 : AC := .reg [⟨(some 7), (.load true 5 (.t 1)), none, 0, false, []⟩,
    ⟨(some 8), (.call 62 [(.t 7)]), none, 0, false, []⟩,
    ⟨none, (.store 5 (.t 2) (.t 8)), none, 0, false, []⟩] false
def a75_7 : AC := .seq a75_6 .ret
def a75_8 : AC := .seq a75_5 a75_7
def a75_9 : AC := .seq a75_0 a75_8
def af75 : AF := { ntmps := 9, res := [(.cell 2 true 5)], body := a75_9 }
theorem tr75 : trF Tryz.prog Tryz.f75 = some af75 := by kernel_rfl
attribute [go_sem] af75 a75_0 a75_1 a75_2 a75_3 a75_4 a75_5 a75_6 a75_7 a75_8 a75_9
def a62_0 : AC := .reg [⟨(some 1), (.box (.t 0)), none, 0, false, []⟩,
    ⟨(some 2), (.new [(.int .i64 0), (.int .i64 0), (.int .i64 0), (.int .i64 0), .nils]), none, 0, false, []⟩] false
def a62_1 : AC := .reg [⟨(some 6), (.fad 0 (.t 1)), none, 0, false, []⟩,
    ⟨(some 7), (.load false 1 (.t 6)), none, 0, false, []⟩,
    ⟨(some 8), (.bin 0 .eql (.t 7) (.c (.int .i64 12))), none, 0, false, []⟩] false
def a62_2 : AC := .reg [⟨(some 9), (.fad 4 (.t 1)), none, 0, false, []⟩,
    ⟨(some 10), (.load false 1 (.t 9)), none, 0, false, []⟩,
    ⟨(some 11), (.iad 5 (.t 10) (.c (.int .i64 3))), none, 0, false, []⟩,
    ⟨(some 12), (.load true 5 (.t 11)), none, 0, false, []⟩,
    ⟨(some 13), (.call 62 [(.t 12)]), none, 0, false, []⟩,
    ⟨none, (.store 5 (.t 2) (.t 13)), none, 0, false, []⟩] false
def a62_3 : AC := .seq a62_2 .ret
def a62_4 : AC := .cond (.t 8) a62_3 .skip
def a62_5 : AC := .seq a62_1 a62_4
def a62_6 : AC := .reg [⟨(some 14), (.fad 0 (.t 1)), none, 0, false, []⟩,
    ⟨(some 15), (.load false 1 (.t 14)), none, 0, false, []⟩,
    ⟨(some 16), (.fad 1 (.t 1)), none, 0, false, []⟩,
    ⟨(some 17), (.load false 1 (.t 16)), none, 0, false, []⟩,
    ⟨(some 18), (.fad 2 (.t 1)), none, 0, false, []⟩,
    ⟨(some 19), (.load false 1 (.t 18)), none, 0, false, []⟩,
    ⟨(some 20), (.fad 3 (.t 1)), none, 0, false, []⟩,
    ⟨(some 21), (.load false 1 (.t 20)), none, 0, false, []⟩,
    ⟨(some 22), (.build [(.int .i64 0), (.int .i64 0), (.int .i64 0), (.int .i64 0), .nils] [(0, (1, (.t 15))), (1, (1, (.t 17))), (2, (1, (.t 19))), (3, (1, (.t 21)))]), none, 0, false, []⟩,
    ⟨(some 3), (.new [(.int .i64 0), (.int .i64 0), (.int .i64 0), (.int .i64 0), .nils]), none, 0, false, []⟩,
    ⟨none, (.store 5 (.t 3) (.t 22)), none, 0, false, []⟩] false
def a62_7 : AC := .reg [⟨(some 4), (.mv (.c .nils)), none, 0, false, []⟩] false
def a62_8 : AC := .reg [⟨(some 5), (.mv (.c (.int .i64 0))), none, 0, false, []⟩] false
def a62_9 : AC := .reg [⟨(some 23), (.mv (.t 5)), none, 0, false, []⟩,
    ⟨(some 24), (.fad 4 (.t 1)), none, 0, false, []⟩,
    ⟨(some 25), (.load false 1 (.t 24)), none, 0, false, []⟩,
    ⟨(some 26), (.len false (.t 25)), none, 0, false, []⟩,
    ⟨(some 27), (.bin 0 .lss (.t 23) (.t 26)), none, 0, false, []⟩] false
def a62_10 : AC := .cond (.t 27) .skip (.exit 0)
def a62_11 : AC := .seq a62_9 a62_10
def a62_12 : AC := .reg [⟨(some 30), (.mv (.t 4)), none, 0, false, []⟩,
    ⟨(some 31), (.fad 4 (.t 1)), none, 0, false, []⟩,
    ⟨(some 32), (.load false 1 (.t 31)), none, 0, false, []⟩,
    ⟨(some 33), (.mv (.t 5)), none, 0, false, []⟩,
    ⟨(some 34), (.iad 5 (.t 32) (.t 33)), none, 0, false, []⟩,
    ⟨(some 35), (.load true 5 (.t 34)), none, 0, false, []⟩,
    ⟨(some 36), (.call 62 [(.t 35)]), none, 0, false, []⟩,
    ⟨(some 37), (.bslice 5 [(.t 36)]), none, 0, false, []⟩,
    ⟨(some 38), (.app 5 56 (.t 30) (.t 37)), none, 0, false, []⟩,
    ⟨(some 4), (.mv (.t 38)), none, 0, false, []⟩] false
def a62_13 : AC := .blk 1 a62_12
def a62_14 : AC := .reg [⟨(some 28), (.mv (.t 5)), none, 0, false, []⟩,
    ⟨(some 29), (.bin 0 .add (.t 28) (.c (.int .i64 1))), none, 0, false, []⟩,
    ⟨(some 5), (.mv (.t 29)), none, 0, false, []⟩] false
def a62_15 : AC := .seq a62_13 a62_14
def a62_16 : AC := .seq a62_11 a62_15
def a62_17 : AC := .loop a62_16
def a62_18 : AC := .blk 0 a62_17
def a62_19 : AC := .seq a62_8 a62_18
def a62_20 : AC := .reg [⟨(some 39), (.mv (.t 4)), none, 0, false, []⟩,
    ⟨(some 40), (.fad 4 (.t 3)), none, 0, false, []⟩,
    ⟨none, (.store 1 (.t 40) (.t 39)), none, 0, false, []⟩] false
def a62_21 : AC := .reg [⟨(some 41), (.load true 5 (.t 3)), none, 0, false, []⟩,
    ⟨none, (.store 5 (.t 2) (.t 41)), none, 0, false, []⟩] false
def a62_22 : AC := .seq a62_21 .ret
def a62_23 : AC := .seq a62_20 a62_22
def a62_24 : AC := .seq a62_19 a62_23
def a62_25 : AC := .seq a62_7 a62_24
def a62_26 : AC := .seq a62_6 a62_25
def a62_27 : AC := .seq a62_5 a62_26
def a62_28 : AC := .seq a62_0 a62_27
def af62 : AF := { ntmps := 42, res := [(.cell 2 true 5)], body := a62_28 }
theorem tr62 : trF Tryz.prog Tryz.f62 = some af62 := by kernel_rfl
attribute [go_sem] af62 a62_0 a62_1 a62_2 a62_3 a62_4 a62_5 a62_6 a62_7 a62_8 a62_9 a62_10 a62_11 a62_12 a62_13 a62_14 a62_15 a62_16 a62_17 a62_18 a62_19 a62_20 a62_21 a62_22 a62_23 a62_24 a62_25 a62_26 a62_27 a62_28
def a45_0 : AC := .reg [⟨(some 2), (.new [(.int .i64 0), (.int .i64 0), (.int .i64 0), (.int .i64 0), .nils]), none, 0, false, []⟩] false
def a45_1 : AC := .reg [⟨(some 3), (.mv (.t 0)), none, 0, false, []⟩,
    ⟨(some 4), (.build [(.int .i64 0), (.int .i64 0), (.int .i64 0), (.int .i64 0), .nils] [(0, (1, (.c (.int .i64 1)))), (1, (1, (.t 3)))]), none, 0, false, []⟩,
    ⟨none, (.store 5 (.t 2) (.t 4)), none, 0, false, []⟩] false
def a45_2 : AC := .seq a45_1 .ret
def a45_3 : AC := .seq a45_0 a45_2
def af45 : AF := { ntmps := 5, res := [(.cell 2 true 5)], body := a45_3 }
theorem tr45 : trF Tryz.prog Tryz.f45 = some af45 := by kernel_rfl
attribute [go_sem] af45 a45_0 a45_1 a45_2 a45_3
end Go.Proofs.YtkldipbhenabfaaGreat.Abs

