/- The abstract code of functions, printed by program; that it is the translation of the model's code is decided by the kernel. -/
import Derived.Test.YtkldipbhenabfaaGreatREv
import Derived.Test.YtkldipbhenabfaaGreatProg
import Derived.KernelRfl
namespace Go.Proofs.YtkldipbhenabfaaGreat.Abs
open Go Go.Proofs Go.Proofs.YtkldipbhenabfaaGreat
def a5_0 : AC := .reg [⟨(some 7), (.box (.t 2)), none, 0, false, []⟩,
    ⟨(some 8), (.box (.t 3)), none, 0, false, []⟩,
    ⟨(some 9), (.box (.t 4)), none, 0, false, []⟩,
    ⟨(some 10), (.mv (.c (.bool false))), none, 0, false, []⟩] false
def a5_1 : AC := .reg [⟨(some 15), (.mv (.t 0)), none, 0, false, []⟩,
    ⟨(some 16), (.load true 5 (.t 7)), none, 0, false, []⟩,
    ⟨(some 17), (.load true 5 (.t 8)), none, 0, false, []⟩,
    ⟨(some 18), (.load true 5 (.t 9)), none, 0, false, []⟩,
    ⟨(some 19), (.bslice 5 [(.t 16), (.t 17), (.t 18)]), none, 0, false, []⟩,
    ⟨(some 20), (.call 13 [(.t 15), (.t 19)]), none, 0, false, []⟩] false
def a5_2 : AC := .reg [⟨(some 10), (.mv (.c (.bool true))), none, 0, false, []⟩] false
def a5_3 : AC := .seq a5_2 .ret
def a5_4 : AC := .cond (.t 20) a5_3 .skip
def a5_5 : AC := .seq a5_1 a5_4
def a5_6 : AC := .reg [⟨(some 22), (.mv (.t 0)), none, 0, false, []⟩,
    ⟨(some 23), (.mv (.t 1)), none, 0, false, []⟩,
    ⟨(some 24), (.load true 5 (.t 7)), none, 0, false, []⟩,
    ⟨(some 25), (.load true 5 (.t 8)), none, 0, false, []⟩,
    ⟨(some 26), (.load true 5 (.t 9)), none, 0, false, []⟩,
    ⟨(some 27), (.call 20 [(.t 22), (.t 23), (.t 24), (.t 25), (.t 26)]), none, 0, false, []⟩,
    ⟨(some 21), (.mv (.t 27)), none, 0, false, []⟩,
    ⟨(some 28), (.ext (.t 21) 0), none, 0, false, []⟩,
    ⟨(some 29), (.ext (.t 21) 1), none, 0, false, []⟩,
    ⟨(some 11), (.new [(.int .i64 0), (.int .i64 0), (.int .i64 0), (.int .i64 0), .nils]), none, 0, false, []⟩,
    ⟨none, (.store 5 (.t 11) (.t 28)), none, 0, false, []⟩,
    ⟨(some 12), (.mv (.t 29)), none, 0, false, []⟩] false
def a5_7 : AC := .reg [⟨(some 30), (.load true 5 (.t 7)), none, 0, false, []⟩,
    ⟨(some 31), (.call 21 [(.t 30)]), none, 0, false, []⟩,
    ⟨(some 32), (.un .not (.t 31)), none, 0, false, []⟩,
    ⟨(some 33), (.mv (.t 32)), none, 0, false, []⟩,
    ⟨(some 34), (.load true 5 (.t 8)), (some (33, false)), 0, false, []⟩,
    ⟨(some 35), (.load true 5 (.t 9)), (some (33, false)), 0, false, []⟩,
    ⟨(some 36), (.call 22 [(.t 34), (.t 35)]), (some (33, false)), 0, false, []⟩,
    ⟨(some 37), (.un .not (.t 36)), (some (33, false)), 0, false, []⟩,
    ⟨(some 38), (.pick (.t 33) (.c (.bool true)) (.t 37)), none, 0, false, []⟩] false
def a5_8 : AC := .reg [⟨(some 39), (.mv (.t 12)), none, 0, false, []⟩,
    ⟨(some 40), (.un .not (.t 39)), none, 0, false, []⟩,
    ⟨(some 41), (.mv (.t 40)), none, 0, false, []⟩,
    ⟨(some 42), (.fad 0 (.t 11)), (some (41, true)), 0, false, []⟩,
    ⟨(some 43), (.load false 1 (.t 42)), (some (41, true)), 0, false, []⟩,
    ⟨(some 44), (.bin 0 .eql (.t 43) (.c (.int .i64 0))), (some (41, true)), 0, false, []⟩,
    ⟨(some 45), (.pick (.t 41) (.t 44) (.c (.bool false))), none, 0, false, []⟩,
    ⟨(some 46), (.mv (.t 45)), none, 0, false, []⟩,
    ⟨(some 47), (.call 19 []), (some (46, true)), 0, false, []⟩,
    ⟨(some 48), (.pick (.t 46) (.t 47) (.c (.bool false))), none, 0, false, []⟩,
    ⟨(some 10), (.mv (.t 48)), none, 0, false, []⟩] false
def a5_9 : AC := .seq a5_8 .ret
def a5_10 : AC := .cond (.t 38) a5_9 .skip
def a5_11 : AC := .seq a5_7 a5_10
def a5_12 : AC := .reg [⟨(some 49), (.load true 5 (.t 8)), none, 0, false, []⟩,
    ⟨(some 50), (.load true 5 (.t 9)), none, 0, false, []⟩,
    ⟨(some 51), (.call 16 [(.t 49), (.t 50)]), none, 0, false, []⟩] false
def a5_13 : AC := .reg [⟨(some 52), (.mv (.t 12)), none, 0, false, []⟩,
    ⟨(some 53), (.mv (.t 52)), none, 0, false, []⟩,
    ⟨(some 54), (.load true 5 (.t 11)), (some (53, true)), 0, false, []⟩,
    ⟨(some 55), (.load true 5 (.t 7)), (some (53, true)), 0, false, []⟩,
    ⟨(some 56), (.call 16 [(.t 54), (.t 55)]), (some (53, true)), 0, false, []⟩,
    ⟨(some 57), (.pick (.t 53) (.t 56) (.c (.bool false))), none, 0, false, []⟩,
    ⟨(some 58), (.mv (.t 57)), none, 0, false, []⟩,
    ⟨(some 59), (.call 19 []), (some (58, true)), 0, false, []⟩,
    ⟨(some 60), (.pick (.t 58) (.t 59) (.c (.bool false))), none, 0, false, []⟩,
    ⟨(some 10), (.mv (.t 60)), none, 0, false, []⟩] false
def a5_14 : AC := .seq a5_13 .ret
def a5_15 : AC := .cond (.t 51) a5_14 .skip
def a5_16 : AC := .seq a5_12 a5_15
def a5_17 : AC := .reg [⟨(some 62), (.mv (.t 0)), none, 0, false, []⟩,
    ⟨(some 63), (.mv (.t 1)), none, 0, false, []⟩,
    ⟨(some 64), (.load true 5 (.t 8)), none, 0, false, []⟩,
    ⟨(some 65), (.load true 5 (.t 9)), none, 0, false, []⟩,
    ⟨(some 66), (.call 23 [(.t 62), (.t 63), (.t 64), (.t 65)]), none, 0, false, []⟩,
    ⟨(some 61), (.mv (.t 66)), none, 0, false, []⟩,
    ⟨(some 67), (.ext (.t 61) 0), none, 0, false, []⟩,
    ⟨(some 68), (.ext (.t 61) 1), none, 0, false, []⟩,
    ⟨(some 13), (.new [(.int .i64 0), (.int .i64 0), (.int .i64 0), (.int .i64 0), .nils]), none, 0, false, []⟩,
    ⟨none, (.store 5 (.t 13) (.t 67)), none, 0, false, []⟩,
    ⟨(some 14), (.mv (.t 68)), none, 0, false, []⟩] false
def a5_18 : AC := .reg [⟨(some 69), (.mv (.t 12)), none, 0, false, []⟩,
    ⟨(some 70), (.mv (.t 14)), none, 0, false, []⟩,
    ⟨(some 71), (.bin 1 .neq (.t 69) (.t 70)), none, 0, false, []⟩] false
def a5_19 : AC := .reg [⟨(some 10), (.mv (.c (.bool false))), none, 0, false, []⟩] false
def a5_20 : AC := .seq a5_19 .ret
def a5_21 : AC := .cond (.t 71) a5_20 .skip
def a5_22 : AC := .seq a5_18 a5_21
def a5_23 : AC := .reg [⟨(some 72), (.mv (.t 12)), none, 0, false, []⟩,
    ⟨(some 73), (.un .not (.t 72)), none, 0, false, []⟩,
    ⟨(some 74), (.mv (.t 73)), none, 0, false, []⟩,
    ⟨(some 75), (.fad 0 (.t 11)), (some (74, false)), 0, false, []⟩,
    ⟨(some 76), (.load false 1 (.t 75)), (some (74, false)), 0, false, []⟩,
    ⟨(some 77), (.bin 0 .eql (.t 76) (.c (.int .i64 12))), (some (74, false)), 0, false, []⟩,
    ⟨(some 78), (.mv (.t 77)), (some (74, false)), 0, false, []⟩,
    ⟨(some 79), (.fad 1 (.t 11)), (some (78, true)), 0, false, []⟩,
    ⟨(some 80), (.load false 1 (.t 79)), (some (78, true)), 0, false, []⟩,
    ⟨(some 81), (.mv (.t 1)), (some (78, true)), 0, false, []⟩,
    ⟨(some 82), (.bin 0 .eql (.t 80) (.t 81)), (some (78, true)), 0, false, []⟩,
    ⟨(some 83), (.pick (.t 78) (.t 82) (.c (.bool false))), (some (74, false)), 0, false, []⟩,
    ⟨(some 84), (.mv (.t 83)), (some (74, false)), 0, false, []⟩,
    ⟨(some 85), (.fad 4 (.t 11)), (some (84, true)), 0, false, []⟩,
    ⟨(some 86), (.load false 1 (.t 85)), (some (84, true)), 0, false, []⟩,
    ⟨(some 87), (.len false (.t 86)), (some (84, true)), 0, false, []⟩,
    ⟨(some 88), (.bin 0 .eql (.t 87) (.c (.int .i64 4))), (some (84, true)), 0, false, []⟩,
    ⟨(some 89), (.pick (.t 84) (.t 88) (.c (.bool false))), (some (74, false)), 0, false, []⟩,
    ⟨(some 90), (.mv (.t 89)), (some (74, false)), 0, false, []⟩,
    ⟨(some 91), (.fad 4 (.t 11)), (some (90, true)), 0, false, []⟩,
    ⟨(some 92), (.load false 1 (.t 91)), (some (90, true)), 0, false, []⟩,
    ⟨(some 93), (.load true 5 (.t 8)), (some (90, true)), 0, false, []⟩,
    ⟨(some 94), (.load true 5 (.t 9)), (some (90, true)), 0, false, []⟩,
    ⟨(some 95), (.load true 5 (.t 13)), (some (90, true)), 0, false, []⟩,
    ⟨(some 96), (.load true 5 (.t 7)), (some (90, true)), 0, false, []⟩,
    ⟨(some 97), (.bslice 5 [(.t 93), (.t 94), (.t 95), (.t 96)]), (some (90, true)), 0, false, []⟩,
    ⟨(some 98), (.call 10 [(.t 92), (.t 97)]), (some (90, true)), 0, false, []⟩,
    ⟨(some 99), (.pick (.t 90) (.t 98) (.c (.bool false))), (some (74, false)), 0, false, []⟩,
    ⟨(some 100), (.pick (.t 74) (.c (.bool true)) (.t 99)), none, 0, false, []⟩,
    ⟨(some 101), (.mv (.t 100)), none, 0, false, []⟩,
    ⟨(some 102), (.call 19 []), (some (101, true)), 0, false, []⟩,
    ⟨(some 103), (.pick (.t 101) (.t 102) (.c (.bool false))), none, 0, false, []⟩,
    ⟨(some 10), (.mv (.t 103)), none, 0, false, []⟩] false
def a5_24 : AC := .seq a5_23 .ret
def a5_25 : AC := .seq a5_22 a5_24
def a5_26 : AC := .seq a5_17 a5_25
def a5_27 : AC := .seq a5_16 a5_26
def a5_28 : AC := .seq a5_11 a5_27
def a5_29 : AC := .seq a5_6 a5_28
def a5_30 : AC := .seq a5_5 a5_29
def a5_31 : AC := .seq a5_0 a5_30
def af5 : AF := { ntmps := 104, res := [(.t 10)], body := a5_31 }
theorem tr5 : trF Tryz.prog Tryz.f5 = some af5 := by kernel_rfl
attribute [go_sem] af5 a5_0 a5_1 a5_2 a5_3 a5_4 a5_5 a5_6 a5_7 a5_8 a5_9 a5_10 a5_11 a5_12 a5_13 a5_14 a5_15 a5_16 a5_17 a5_18 a5_19 a5_20 a5_21 a5_22 a5_23 a5_24 a5_25 a5_26 a5_27 a5_28 a5_29 a5_30 a5_31
def a23_0 : AC := .reg [⟨(some 6), (.box (.t 2)), none, 0, false, []⟩,
    ⟨(some 7), (.box (.t 3)), none, 0, false, []⟩,
    ⟨(some 8), (.new [(.int .i64 0), (.int .i64 0), (.int .i64 0), (.int .i64 0), .nils]), none, 0, false, []⟩,
    ⟨(some 9), (.mv (.c (.bool false))), none, 0, false, []⟩] false
def a23_1 : AC := .reg [⟨(some 12), (.mv (.t 1)), none, 0, false, []⟩,
    ⟨(some 13), (.bin 0 .lss (.t 12) (.c (.int .i64 0))), none, 0, false, []⟩,
    ⟨(some 14), (.mv (.t 13)), none, 0, false, []⟩,
    ⟨(some 15), (.mv (.t 1)), (some (14, false)), 0, false, []⟩,
    ⟨(some 16), (.bin 0 .gtr (.t 15) (.c (.int .i64 995))), (some (14, false)), 0, false, []⟩,
    ⟨(some 17), (.pick (.t 14) (.c (.bool true)) (.t 16)), none, 0, false, []⟩] false
def a23_2 : AC := .reg [⟨(some 18), (.build [(.int .i64 0), (.int .i64 0), (.int .i64 0), (.int .i64 0), .nils] []), none, 0, false, []⟩,
    ⟨none, (.store 5 (.t 8) (.t 18)), none, 0, false, []⟩,
    ⟨(some 9), (.mv (.c (.bool false))), none, 0, false, []⟩] false
def a23_3 : AC := .seq a23_2 .ret
def a23_4 : AC := .cond (.t 17) a23_3 .skip
def a23_5 : AC := .seq a23_1 a23_4
def a23_6 : AC := .reg [⟨(some 20), (.mv (.t 0)), none, 0, false, []⟩,
    ⟨(some 21), (.call 14 [(.t 20)]), none, 1, true, []⟩,
    ⟨(some 22), (.load true 5 (.t 6)), none, 2, true, [1]⟩,
    ⟨(some 23), (.load true 5 (.t 7)), none, 3, true, [1]⟩,
    ⟨(some 24), (.call 44 [(.t 21), (.t 22), (.t 23)]), none, 4, true, []⟩,
    ⟨(some 19), (.mv (.t 24)), none, 5, false, []⟩,
    ⟨(some 25), (.ext (.t 19) 0), none, 6, false, []⟩,
    ⟨(some 26), (.ext (.t 19) 1), none, 7, false, []⟩,
    ⟨(some 10), (.new [(.int .i64 0), (.int .i64 0), (.int .i64 0), (.int .i64 0), (.int .i64 0), .nils, (.int .i64 0), (.int .i64 0), (.int .i64 0), (.int .i64 0), .nils, (.int .i64 0), (.int .i64 0), (.int .i64 0), (.int .i64 0), .nils, (.int .i64 0), (.int .i64 0), (.int .i64 0), (.int .i64 0), .nils, (.int .i64 0), (.int .i64 0), (.int .i64 0), (.int .i64 0), .nils]), none, 8, false, [1, 2, 3, 4]⟩,
    ⟨none, (.store 26 (.t 10) (.t 25)), none, 9, false, []⟩,
    ⟨(some 11), (.mv (.t 26)), none, 10, false, []⟩] true
def a23_7 : AC := .reg [⟨(some 27), (.mv (.t 11)), none, 0, false, []⟩,
    ⟨(some 28), (.un .not (.t 27)), none, 0, false, []⟩] false
def a23_8 : AC := .reg [⟨(some 29), (.build [(.int .i64 0), (.int .i64 0), (.int .i64 0), (.int .i64 0), .nils] []), none, 0, false, []⟩,
    ⟨none, (.store 5 (.t 8) (.t 29)), none, 0, false, []⟩,
    ⟨(some 9), (.mv (.c (.bool false))), none, 0, false, []⟩] false
def a23_9 : AC := .seq a23_8 .ret
def a23_10 : AC := .cond (.t 28) a23_9 .skip
def a23_11 : AC := .seq a23_7 a23_10
def a23_12 : AC := .reg [⟨(some 30), (.mv (.t 1)), none, 0, false, []⟩,
    ⟨(some 31), (.load true 26 (.t 10)), none, 0, false, []⟩,
    ⟨(some 32), (.call 63 [(.t 30), (.t 31)]), none, 0, false, []⟩,
    ⟨(some 33), (.call 34 [(.t 32)]), none, 0, false, []⟩,
    ⟨none, (.store 5 (.t 8) (.t 33)), none, 0, false, []⟩,
    ⟨(some 9), (.mv (.c (.bool true))), none, 0, false, []⟩] false
def a23_13 : AC := .seq a23_12 .ret
def a23_14 : AC := .seq a23_11 a23_13
def a23_15 : AC := .seq a23_6 a23_14
def a23_16 : AC := .seq a23_5 a23_15
def a23_17 : AC := .seq a23_0 a23_16
def af23 : AF := { ntmps := 34, res := [(.cell 8 true 5), (.t 9)], body := a23_17 }
theorem tr23 : trF Tryz.prog Tryz.f23 = some af23 := by kernel_rfl
attribute [go_sem] af23 a23_0 a23_1 a23_2 a23_3 a23_4 a23_5 a23_6 a23_7 a23_8 a23_9 a23_10 a23_11 a23_12 a23_13 a23_14 a23_15 a23_16 a23_17
def a116_0 : AC := .reg [⟨(some 4), (.box (.t 1)), none, 0, false, []⟩,
    ⟨(some 5), (.box (.t 2)), none, 0, false, []⟩,
    ⟨(some 6), (.new [(.int .i64 0), (.int .i64 0), (.int .i64 0), (.int .i64 0), (.int .i64 0), .nils, (.int .i64 0), (.int .i64 0), (.int .i64 0), (.int .i64 0), .nils, (.int .i64 0), (.int .i64 0), (.int .i64 0), (.int .i64 0), .nils, (.int .i64 0), (.int .i64 0), (.int .i64 0), (.int .i64 0), .nils, (.int .i64 0), (.int .i64 0), (.int .i64 0), (.int .i64 0), .nils]), none, 0, false, []⟩] false
def a116_1 : AC := .reg [⟨(some 12), (.fad 1 (.t 4)), none, 0, false, []⟩,
    ⟨(some 13), (.load false 1 (.t 12)), none, 1, true, []⟩,
    ⟨(some 14), (.fad 2 (.t 4)), none, 2, false, []⟩,
    ⟨(some 15), (.load false 1 (.t 14)), none, 3, true, []⟩,
    ⟨(some 16), (.mv (.t 0)), none, 4, false, []⟩,
    ⟨(some 17), (.fad 4 (.t 4)), none, 5, false, []⟩,
    ⟨(some 18), (.load false 1 (.t 17)), none, 6, true, []⟩,
    ⟨(some 19), (.iad 5 (.t 18) (.c (.int .i64 0))), none, 7, true, []⟩,
    ⟨(some 20), (.load true 5 (.t 19)), none, 8, true, []⟩,
    ⟨(some 21), (.call 31 [(.t 16), (.t 20)]), none, 9, true, [1, 3]⟩,
    ⟨(some 22), (.mv (.t 0)), none, 10, false, []⟩,
    ⟨(some 23), (.fad 4 (.t 5)), none, 11, false, []⟩,
    ⟨(some 24), (.load false 1 (.t 23)), none, 12, true, [9]⟩,
    ⟨(some 25), (.iad 5 (.t 24) (.c (.int .i64 0))), none, 13, true, [9]⟩,
    ⟨(some 26), (.load true 5 (.t 25)), none, 14, true, [9]⟩,
    ⟨(some 27), (.call 32 [(.t 22), (.t 26)]), none, 15, true, [1, 3]⟩,
    ⟨(some 28), (.build [(.int .i64 0), (.int .i64 0), (.int .i64 0), (.int .i64 0), (.int .i64 0), (.int .i64 0), .nils, (.int .i64 0), (.int .i64 0), (.int .i64 0), (.int .i64 0), .nils, (.int .i64 0), (.int .i64 0), (.int .i64 0), (.int .i64 0), .nils, (.int .i64 0), (.int .i64 0), (.int .i64 0), (.int .i64 0), .nils, (.int .i64 0), (.int .i64 0), (.int .i64 0), (.int .i64 0), .nils, (.int .i64 0), (.int .i64 0), (.int .i64 0), (.int .i64 0), .nils] [(0, (1, (.t 13))), (1, (1, (.t 15))), (2, (5, (.t 21))), (7, (5, (.t 27)))]), none, 16, false, []⟩,
    ⟨(some 7), (.new [(.int .i64 0), (.int .i64 0), (.int .i64 0), (.int .i64 0), (.int .i64 0), (.int .i64 0), .nils, (.int .i64 0), (.int .i64 0), (.int .i64 0), (.int .i64 0), .nils, (.int .i64 0), (.int .i64 0), (.int .i64 0), (.int .i64 0), .nils, (.int .i64 0), (.int .i64 0), (.int .i64 0), (.int .i64 0), .nils, (.int .i64 0), (.int .i64 0), (.int .i64 0), (.int .i64 0), .nils, (.int .i64 0), (.int .i64 0), (.int .i64 0), (.int .i64 0), .nils]), none, 17, false, [1, 3, 6, 7, 8, 9, 12, 13, 14, 15]⟩,
    ⟨none, (.store 32 (.t 7) (.t 28)), none, 18, false, []⟩] true
def a116_2 : AC := .reg [⟨(some 29), (.mv (.t 0)), none, 0, false, []⟩,
    ⟨(some 30), (.fad 4 (.t 4)), none, 1, false, []⟩,
    ⟨(some 31), (.load false 1 (.t 30)), none, 2, false, []⟩,
    ⟨(some 32), (.iad 5 (.t 31) (.c (.int .i64 0))), none, 3, false, []⟩,
    ⟨(some 33), (.load true 5 (.t 32)), none, 4, false, []⟩,
    ⟨(some 34), (.fad 4 (.t 5)), none, 5, false, []⟩,
    ⟨(some 35), (.load false 1 (.t 34)), none, 6, false, []⟩,
    ⟨(some 36), (.iad 5 (.t 35) (.c (.int .i64 0))), none, 7, false, []⟩,
    ⟨(some 37), (.load true 5 (.t 36)), none, 8, false, []⟩,
    ⟨(some 38), (.call 81 [(.t 29), (.t 33), (.t 37)]), none, 9, false, []⟩,
    ⟨(some 39), (.call 129 [(.t 38)]), none, 10, false, []⟩,
    ⟨(some 40), (.fad 22 (.t 7)), none, 11, false, []⟩,
    ⟨none, (.store 5 (.t 40) (.t 39)), none, 12, false, []⟩] true
def a116_3 : AC := .reg [⟨(some 41), (.mv (.t 0)), none, 0, false, []⟩,
    ⟨(some 42), (.call 133 [(.t 41)]), none, 1, true, []⟩,
    ⟨(some 43), (.mv (.t 0)), none, 2, false, []⟩,
    ⟨(some 44), (.fad 1 (.t 4)), none, 3, false, []⟩,
    ⟨(some 45), (.load false 1 (.t 44)), none, 4, false, [1]⟩,
    ⟨(some 46), (.fad 2 (.t 7)), none, 5, false, []⟩,
    ⟨(some 47), (.load true 5 (.t 46)), none, 6, false, [1]⟩,
    ⟨(some 48), (.fad 7 (.t 7)), none, 7, false, []⟩,
    ⟨(some 49), (.load true 5 (.t 48)), none, 8, false, [1]⟩,
    ⟨(some 50), (.call 36 [(.t 43), (.t 45), (.t 47), (.t 49)]), none, 9, false, []⟩,
    ⟨(some 8), (.mv (.t 42)), none, 10, false, []⟩,
    ⟨(some 9), (.mv (.t 50)), none, 11, false, []⟩] true
def a116_4 : AC := .reg [⟨(some 51), (.mv (.t 8)), none, 0, false, []⟩,
    ⟨(some 52), (.fad 4 (.t 4)), none, 1, false, []⟩,
    ⟨(some 53), (.load false 1 (.t 52)), none, 2, false, []⟩,
    ⟨(some 54), (.iad 5 (.t 53) (.c (.int .i64 1))), none, 3, false, []⟩,
    ⟨(some 55), (.load true 5 (.t 54)), none, 4, false, []⟩,
    ⟨(some 56), (.call 31 [(.t 51), (.t 55)]), none, 5, true, []⟩,
    ⟨(some 57), (.mv (.t 8)), none, 6, false, []⟩,
    ⟨(some 58), (.fad 4 (.t 5)), none, 7, false, []⟩,
    ⟨(some 59), (.load false 1 (.t 58)), none, 8, false, [5]⟩,
    ⟨(some 60), (.iad 5 (.t 59) (.c (.int .i64 1))), none, 9, false, [5]⟩,
    ⟨(some 61), (.load true 5 (.t 60)), none, 10, false, [5]⟩,
    ⟨(some 62), (.call 32 [(.t 57), (.t 61)]), none, 11, false, []⟩,
    ⟨(some 63), (.fad 12 (.t 7)), none, 12, false, []⟩,
    ⟨none, (.store 5 (.t 63) (.t 56)), none, 13, false, []⟩,
    ⟨(some 64), (.fad 17 (.t 7)), none, 14, false, []⟩,
    ⟨none, (.store 5 (.t 64) (.t 62)), none, 15, false, []⟩] true
def a116_5 : AC := .reg [⟨(some 65), (.fad 1 (.t 4)), none, 0, false, []⟩,
    ⟨(some 66), (.load false 1 (.t 65)), none, 1, true, []⟩,
    ⟨(some 67), (.fad 2 (.t 7)), none, 2, false, []⟩,
    ⟨(some 68), (.load true 5 (.t 67)), none, 3, true, []⟩,
    ⟨(some 69), (.fad 7 (.t 7)), none, 4, false, []⟩,
    ⟨(some 70), (.load true 5 (.t 69)), none, 5, true, []⟩,
    ⟨(some 71), (.mv (.t 9)), none, 6, false, []⟩,
    ⟨(some 72), (.fad 4 (.t 4)), none, 7, false, []⟩,
    ⟨(some 73), (.load false 1 (.t 72)), none, 8, false, []⟩,
    ⟨(some 74), (.iad 5 (.t 73) (.c (.int .i64 1))), none, 9, false, []⟩,
    ⟨(some 75), (.load true 5 (.t 74)), none, 10, false, []⟩,
    ⟨(some 76), (.fad 4 (.t 5)), none, 11, false, []⟩,
    ⟨(some 77), (.load false 1 (.t 76)), none, 12, false, []⟩,
    ⟨(some 78), (.iad 5 (.t 77) (.c (.int .i64 1))), none, 13, false, []⟩,
    ⟨(some 79), (.load true 5 (.t 78)), none, 14, false, []⟩,
    ⟨(some 80), (.call 81 [(.t 71), (.t 75), (.t 79)]), none, 15, false, [1, 3, 5]⟩,
    ⟨(some 81), (.call 129 [(.t 80)]), none, 16, false, [1, 3, 5]⟩,
    ⟨(some 82), (.call 134 [(.t 66), (.t 68), (.t 70), (.t 81)]), none, 17, false, []⟩,
    ⟨(some 83), (.fad 27 (.t 7)), none, 18, false, []⟩,
    ⟨none, (.store 5 (.t 83) (.t 82)), none, 19, false, []⟩] true
def a116_6 : AC := .reg [⟨(some 84), (.fad 0 (.t 4)), none, 0, false, []⟩,
    ⟨(some 85), (.load false 1 (.t 84)), none, 0, false, []⟩] false
def a116_7 : AC := .reg [⟨(some 87), (.bin 0 .eql (.t 85) (.c (.int .i64 3))), none, 0, false, []⟩,
    ⟨(some 86), (.mv (.t 87)), none, 0, false, []⟩] false
def a116_8 : AC := .reg [⟨(some 88), (.mv (.t 0)), none, 0, false, []⟩,
    ⟨(some 89), (.fad 1 (.t 4)), none, 1, false, []⟩,
    ⟨(some 90), (.load false 1 (.t 89)), none, 2, true, []⟩,
    ⟨(some 91), (.fad 2 (.t 4)), none, 3, false, []⟩,
    ⟨(some 92), (.load false 1 (.t 91)), none, 4, true, []⟩,
    ⟨(some 93), (.mnx true (.t 90) (.t 92)), none, 5, false, []⟩,
    ⟨(some 94), (.load true 5 (.t 4)), none, 6, true, []⟩,
    ⟨(some 95), (.load true 5 (.t 5)), none, 7, true, []⟩,
    ⟨(some 96), (.load true 32 (.t 7)), none, 8, false, []⟩,
    ⟨(some 97), (.call 135 [(.t 96)]), none, 9, false, [2, 4, 6, 7]⟩,
    ⟨(some 98), (.call 131 [(.t 88), (.t 93), (.t 94), (.t 95), (.t 97)]), none, 10, false, []⟩,
    ⟨none, (.store 26 (.t 6) (.t 98)), none, 11, false, []⟩] true
def a116_9 : AC := .seq a116_8 .ret
def a116_10 : AC := .reg [⟨(some 100), (.bin 0 .eql (.t 85) (.c (.int .i64 6))), none, 0, false, []⟩,
    ⟨(some 99), (.mv (.t 100)), none, 0, false, []⟩] false
def a116_11 : AC := .reg [⟨(some 101), (.mv (.t 0)), none, 0, false, []⟩,
    ⟨(some 102), (.fad 1 (.t 4)), none, 1, false, []⟩,
    ⟨(some 103), (.load false 1 (.t 102)), none, 2, true, []⟩,
    ⟨(some 104), (.fad 2 (.t 4)), none, 3, false, []⟩,
    ⟨(some 105), (.load false 1 (.t 104)), none, 4, true, []⟩,
    ⟨(some 106), (.mnx true (.t 103) (.t 105)), none, 5, false, []⟩,
    ⟨(some 107), (.load true 5 (.t 4)), none, 6, true, []⟩,
    ⟨(some 108), (.load true 5 (.t 5)), none, 7, true, []⟩,
    ⟨(some 109), (.load true 32 (.t 7)), none, 8, false, []⟩,
    ⟨(some 110), (.call 136 [(.t 109)]), none, 9, false, [2, 4, 6, 7]⟩,
    ⟨(some 111), (.call 131 [(.t 101), (.t 106), (.t 107), (.t 108), (.t 110)]), none, 10, false, []⟩,
    ⟨none, (.store 26 (.t 6) (.t 111)), none, 11, false, []⟩] true
def a116_12 : AC := .seq a116_11 .ret
def a116_13 : AC := .reg [⟨(some 113), (.bin 0 .eql (.t 85) (.c (.int .i64 4))), none, 0, false, []⟩,
    ⟨(some 112), (.mv (.t 113)), none, 0, false, []⟩] false
def a116_14 : AC := .reg [⟨(some 114), (.fad 1 (.t 4)), none, 0, false, []⟩,
    ⟨(some 115), (.load false 1 (.t 114)), none, 1, true, []⟩,
    ⟨(some 116), (.fad 2 (.t 7)), none, 2, false, []⟩,
    ⟨(some 117), (.load true 5 (.t 116)), none, 3, true, []⟩,
    ⟨(some 118), (.fad 7 (.t 7)), none, 4, false, []⟩,
    ⟨(some 119), (.load true 5 (.t 118)), none, 5, true, []⟩,
    ⟨(some 120), (.mv (.t 9)), none, 6, false, []⟩,
    ⟨(some 121), (.fad 4 (.t 4)), none, 7, false, []⟩,
    ⟨(some 122), (.load false 1 (.t 121)), none, 8, true, []⟩,
    ⟨(some 123), (.iad 5 (.t 122) (.c (.int .i64 2))), none, 9, true, []⟩,
    ⟨(some 124), (.load true 5 (.t 123)), none, 10, true, []⟩,
    ⟨(some 125), (.fad 4 (.t 5)), none, 11, false, []⟩,
    ⟨(some 126), (.load false 1 (.t 125)), none, 12, true, []⟩,
    ⟨(some 127), (.iad 5 (.t 126) (.c (.int .i64 2))), none, 13, true, []⟩,
    ⟨(some 128), (.load true 5 (.t 127)), none, 14, true, []⟩,
    ⟨(some 129), (.call 81 [(.t 120), (.t 124), (.t 128)]), none, 15, true, [1, 3, 5]⟩,
    ⟨(some 130), (.fld true 21 5 (.t 129)), none, 16, false, []⟩,
    ⟨(some 131), (.call 134 [(.t 115), (.t 117), (.t 119), (.t 130)]), none, 17, true, []⟩,
    ⟨(some 10), (.new [(.int .i64 0), (.int .i64 0), (.int .i64 0), (.int .i64 0), .nils]), none, 18, false, [1, 3, 5, 8, 9, 10, 12, 13, 14, 15, 17]⟩,
    ⟨none, (.store 5 (.t 10) (.t 131)), none, 19, false, []⟩] true
def a116_15 : AC := .reg [⟨(some 132), (.load true 32 (.t 7)), none, 0, true, []⟩,
    ⟨(some 133), (.mv (.t 8)), none, 1, false, []⟩,
    ⟨(some 134), (.fad 4 (.t 4)), none, 2, false, []⟩,
    ⟨(some 135), (.load false 1 (.t 134)), none, 3, false, []⟩,
    ⟨(some 136), (.iad 5 (.t 135) (.c (.int .i64 2))), none, 4, false, []⟩,
    ⟨(some 137), (.load true 5 (.t 136)), none, 5, false, []⟩,
    ⟨(some 138), (.call 31 [(.t 133), (.t 137)]), none, 6, true, [0]⟩,
    ⟨(some 139), (.mv (.t 8)), none, 7, false, []⟩,
    ⟨(some 140), (.fad 4 (.t 5)), none, 8, false, []⟩,
    ⟨(some 141), (.load false 1 (.t 140)), none, 9, false, [6]⟩,
    ⟨(some 142), (.iad 5 (.t 141) (.c (.int .i64 2))), none, 10, false, [6]⟩,
    ⟨(some 143), (.load true 5 (.t 142)), none, 11, false, [6]⟩,
    ⟨(some 144), (.call 32 [(.t 139), (.t 143)]), none, 12, true, [0]⟩,
    ⟨(some 145), (.load true 5 (.t 10)), none, 13, false, [6, 12]⟩,
    ⟨(some 146), (.call 137 [(.t 132), (.t 138), (.t 144), (.t 145)]), none, 14, false, []⟩,
    ⟨none, (.store 26 (.t 6) (.t 146)), none, 15, false, []⟩] true
def a116_16 : AC := .seq a116_15 .ret
def a116_17 : AC := .seq a116_14 a116_16
def a116_18 : AC := .cond (.t 112) a116_17 .skip
def a116_19 : AC := .seq a116_13 a116_18
def a116_20 : AC := .cond (.t 99) a116_12 a116_19
def a116_21 : AC := .seq a116_10 a116_20
def a116_22 : AC := .cond (.t 86) a116_9 a116_21
def a116_23 : AC := .seq a116_7 a116_22
def a116_24 : AC := .blk 0 a116_23
def a116_25 : AC := .seq a116_6 a116_24
def a116_26 : AC := .reg [⟨(some 147), (.mv (.t 0)), none, 0, false, []⟩,
    ⟨(some 148), (.fad 4 (.t 4)), none, 1, false, []⟩,
    ⟨(some 149), (.load false 1 (.t 148)), none, 2, true, []⟩,
    ⟨(some 150), (.iad 5 (.t 149) (.c (.int .i64 2))), none, 3, true, []⟩,
    ⟨(some 151), (.load true 5 (.t 150)), none, 4, true, []⟩,
    ⟨(some 152), (.fad 4 (.t 5)), none, 5, false, []⟩,
    ⟨(some 153), (.load false 1 (.t 152)), none, 6, true, []⟩,
    ⟨(some 154), (.iad 5 (.t 153) (.c (.int .i64 2))), none, 7, true, []⟩,
    ⟨(some 155), (.load true 5 (.t 154)), none, 8, true, []⟩,
    ⟨(some 156), (.call 81 [(.t 147), (.t 151), (.t 155)]), none, 9, true, []⟩,
    ⟨(some 11), (.new [(.int .i64 0), (.int .i64 0), (.int .i64 0), (.int .i64 0), (.int .i64 0), .nils, (.int .i64 0), (.int .i64 0), (.int .i64 0), (.int .i64 0), .nils, (.int .i64 0), (.int .i64 0), (.int .i64 0), (.int .i64 0), .nils, (.int .i64 0), (.int .i64 0), (.int .i64 0), (.int .i64 0), .nils, (.int .i64 0), (.int .i64 0), (.int .i64 0), (.int .i64 0), .nils]), none, 10, false, [2, 3, 4, 6, 7, 8, 9]⟩,
    ⟨none, (.store 26 (.t 11) (.t 156)), none, 11, false, []⟩] true
def a116_27 : AC := .reg [⟨(some 157), (.fad 0 (.t 4)), none, 0, false, []⟩,
    ⟨(some 158), (.load false 1 (.t 157)), none, 0, false, []⟩] false
def a116_28 : AC := .reg [⟨(some 160), (.bin 0 .eql (.t 158) (.c (.int .i64 8))), none, 0, false, []⟩,
    ⟨(some 159), (.mv (.t 160)), none, 0, false, []⟩] false
def a116_29 : AC := .reg [⟨(some 161), (.load true 32 (.t 7)), none, 0, false, []⟩,
    ⟨(some 162), (.load true 26 (.t 11)), none, 0, false, []⟩,
    ⟨(some 163), (.call 138 [(.t 161), (.t 162)]), none, 0, false, []⟩,
    ⟨none, (.store 26 (.t 6) (.t 163)), none, 0, false, []⟩] false
def a116_30 : AC := .seq a116_29 .ret
def a116_31 : AC := .reg [⟨(some 165), (.bin 0 .eql (.t 158) (.c (.int .i64 9))), none, 0, false, []⟩,
    ⟨(some 164), (.mv (.t 165)), none, 0, false, []⟩] false
def a116_32 : AC := .reg [⟨(some 166), (.load true 32 (.t 7)), none, 0, false, []⟩,
    ⟨(some 167), (.load true 26 (.t 11)), none, 0, false, []⟩,
    ⟨(some 168), (.call 139 [(.t 166), (.t 167)]), none, 0, false, []⟩,
    ⟨none, (.store 26 (.t 6) (.t 168)), none, 0, false, []⟩] false
def a116_33 : AC := .seq a116_32 .ret
def a116_34 : AC := .reg [⟨(some 170), (.bin 0 .eql (.t 158) (.c (.int .i64 5))), none, 0, false, []⟩,
    ⟨(some 169), (.mv (.t 170)), none, 0, false, []⟩] false
def a116_35 : AC := .reg [⟨(some 171), (.load true 32 (.t 7)), none, 0, true, []⟩,
    ⟨(some 172), (.load true 26 (.t 11)), none, 1, true, []⟩,
    ⟨(some 173), (.mv (.t 0)), none, 2, false, []⟩,
    ⟨(some 174), (.fad 4 (.t 4)), none, 3, false, []⟩,
    ⟨(some 175), (.load false 1 (.t 174)), none, 4, false, []⟩,
    ⟨(some 176), (.iad 5 (.t 175) (.c (.int .i64 3))), none, 5, false, []⟩,
    ⟨(some 177), (.load true 5 (.t 176)), none, 6, false, []⟩,
    ⟨(some 178), (.fad 4 (.t 5)), none, 7, false, []⟩,
    ⟨(some 179), (.load false 1 (.t 178)), none, 8, false, []⟩,
    ⟨(some 180), (.iad 5 (.t 179) (.c (.int .i64 3))), none, 9, false, []⟩,
    ⟨(some 181), (.load true 5 (.t 180)), none, 10, false, []⟩,
    ⟨(some 182), (.call 81 [(.t 173), (.t 177), (.t 181)]), none, 11, false, [0, 1]⟩,
    ⟨(some 183), (.call 140 [(.t 171), (.t 172), (.t 182)]), none, 12, false, []⟩,
    ⟨none, (.store 26 (.t 6) (.t 183)), none, 13, false, []⟩] true
def a116_36 : AC := .seq a116_35 .ret
def a116_37 : AC := .cond (.t 169) a116_36 .skip
def a116_38 : AC := .seq a116_34 a116_37
def a116_39 : AC := .cond (.t 164) a116_33 a116_38
def a116_40 : AC := .seq a116_31 a116_39
def a116_41 : AC := .cond (.t 159) a116_30 a116_40
def a116_42 : AC := .seq a116_28 a116_41
def a116_43 : AC := .blk 1 a116_42
def a116_44 : AC := .seq a116_27 a116_43
def a116_45 : AC := .reg [⟨(some 184), (.load true 32 (.t 7)), none, 0, true, []⟩,
    ⟨(some 185), (.load true 26 (.t 11)), none, 1, true, []⟩,
    ⟨(some 186), (.mv (.t 0)), none, 2, false, []⟩,
    ⟨(some 187), (.fad 4 (.t 4)), none, 3, false, []⟩,
    ⟨(some 188), (.load false 1 (.t 187)), none, 4, false, []⟩,
    ⟨(some 189), (.iad 5 (.t 188) (.c (.int .i64 3))), none, 5, false, []⟩,
    ⟨(some 190), (.load true 5 (.t 189)), none, 6, false, []⟩,
    ⟨(some 191), (.fad 4 (.t 5)), none, 7, false, []⟩,
    ⟨(some 192), (.load false 1 (.t 191)), none, 8, false, []⟩,
    ⟨(some 193), (.iad 5 (.t 192) (.c (.int .i64 3))), none, 9, false, []⟩,
    ⟨(some 194), (.load true 5 (.t 193)), none, 10, false, []⟩,
    ⟨(some 195), (.call 81 [(.t 186), (.t 190), (.t 194)]), none, 11, false, [0, 1]⟩,
    ⟨(some 196), (.call 141 [(.t 184), (.t 185), (.t 195)]), none, 12, false, []⟩,
    ⟨none, (.store 26 (.t 6) (.t 196)), none, 13, false, []⟩] true
def a116_46 : AC := .seq a116_45 .ret
def a116_47 : AC := .seq a116_44 a116_46
def a116_48 : AC := .seq a116_26 a116_47
def a116_49 : AC := .seq a116_25 a116_48
def a116_50 : AC := .seq a116_5 a116_49
def a116_51 : AC := .seq a116_4 a116_50
def a116_52 : AC := .seq a116_3 a116_51
def a116_53 : AC := .seq a116_2 a116_52
def a116_54 : AC := .seq a116_1 a116_53
def a116_55 : AC := .seq a116_0 a116_54
def af116 : AF := { ntmps := 197, res := [(.cell 6 true 26)], body := a116_55 }
theorem tr116 : trF Tryz.prog Tryz.f116 = some af116 := by kernel_rfl
attribute [go_sem] af116 a116_0 a116_1 a116_2 a116_3 a116_4 a116_5 a116_6 a116_7 a116_8 a116_9 a116_10 a116_11 a116_12 a116_13 a116_14 a116_15 a116_16 a116_17 a116_18 a116_19 a116_20 a116_21 a116_22 a116_23 a116_24 a116_25 a116_26 a116_27 a116_28 a116_29 a116_30 a116_31 a116_32 a116_33 a116_34 a116_35 a116_36 a116_37 a116_38 a116_39 a116_40 a116_41 a116_42 a116_43 a116_44 a116_45 a116_46 a116_47 a116_48 a116_49 a116_50 a116_51 a116_52 a116_53 a116_54 a116_55
def a115_0 : AC := .reg [⟨(some 4), (.box (.t 1)), none, 0, false, []⟩,
    ⟨(some 5), (.box (.t 2)), none, 0, false, []⟩,
    ⟨(some 6), (.new [(.int .i64 0), (.int .i64 0), (.int .i64 0), (.int .i64 0), (.int .i64 0), .nils, (.int .i64 0), (.int .i64 0), (.int .i64 0), (.int .i64 0), .nils, (.int .i64 0), (.int .i64 0), (.int .i64 0), (.int .i64 0), .nils, (.int .i64 0), (.int .i64 0), (.int .i64 0), (.int .i64 0), .nils, (.int .i64 0), (.int .i64 0), (.int .i64 0), (.int .i64 0), .nils]), none, 0, false, []⟩] false
def a115_1 : AC := .reg [⟨(some 13), (.fad 1 (.t 4)), none, 0, false, []⟩,
    ⟨(some 14), (.load false 1 (.t 13)), none, 1, true, []⟩,
    ⟨(some 15), (.mv (.t 0)), none, 2, false, []⟩,
    ⟨(some 16), (.fad 4 (.t 4)), none, 3, false, []⟩,
    ⟨(some 17), (.load false 1 (.t 16)), none, 4, true, []⟩,
    ⟨(some 18), (.iad 5 (.t 17) (.c (.int .i64 0))), none, 5, true, []⟩,
    ⟨(some 19), (.load true 5 (.t 18)), none, 6, true, []⟩,
    ⟨(some 20), (.call 31 [(.t 15), (.t 19)]), none, 7, true, [1]⟩,
    ⟨(some 21), (.mv (.t 0)), none, 8, false, []⟩,
    ⟨(some 22), (.fad 4 (.t 5)), none, 9, false, []⟩,
    ⟨(some 23), (.load false 1 (.t 22)), none, 10, true, [7]⟩,
    ⟨(some 24), (.iad 5 (.t 23) (.c (.int .i64 0))), none, 11, true, [7]⟩,
    ⟨(some 25), (.load true 5 (.t 24)), none, 12, true, [7]⟩,
    ⟨(some 26), (.call 32 [(.t 21), (.t 25)]), none, 13, true, [1]⟩,
    ⟨(some 8), (.new [(.int .i64 0), (.int .i64 0), (.int .i64 0), (.int .i64 0), .nils]), none, 14, true, [1, 4, 5, 6, 7, 10, 11, 12, 13]⟩,
    ⟨(some 9), (.new [(.int .i64 0), (.int .i64 0), (.int .i64 0), (.int .i64 0), .nils]), none, 15, false, [1, 4, 5, 6, 7, 10, 11, 12, 13, 14]⟩,
    ⟨(some 7), (.mv (.t 14)), none, 16, false, []⟩,
    ⟨none, (.store 5 (.t 8) (.t 20)), none, 17, false, []⟩,
    ⟨none, (.store 5 (.t 9) (.t 26)), none, 18, false, []⟩] true
def a115_2 : AC := .reg [⟨(some 27), (.mv (.t 0)), none, 0, false, []⟩,
    ⟨(some 28), (.fad 4 (.t 4)), none, 1, false, []⟩,
    ⟨(some 29), (.load false 1 (.t 28)), none, 2, true, []⟩,
    ⟨(some 30), (.iad 5 (.t 29) (.c (.int .i64 0))), none, 3, true, []⟩,
    ⟨(some 31), (.load true 5 (.t 30)), none, 4, true, []⟩,
    ⟨(some 32), (.fad 4 (.t 5)), none, 5, false, []⟩,
    ⟨(some 33), (.load false 1 (.t 32)), none, 6, true, []⟩,
    ⟨(some 34), (.iad 5 (.t 33) (.c (.int .i64 0))), none, 7, true, []⟩,
    ⟨(some 35), (.load true 5 (.t 34)), none, 8, true, []⟩,
    ⟨(some 36), (.call 81 [(.t 27), (.t 31), (.t 35)]), none, 9, true, []⟩,
    ⟨(some 37), (.call 129 [(.t 36)]), none, 10, true, []⟩,
    ⟨(some 10), (.new [(.int .i64 0), (.int .i64 0), (.int .i64 0), (.int .i64 0), .nils]), none, 11, false, [2, 3, 4, 6, 7, 8, 9, 10]⟩,
    ⟨none, (.store 5 (.t 10) (.t 37)), none, 12, false, []⟩] true
def a115_3 : AC := .reg [⟨(some 38), (.mv (.t 0)), none, 0, false, []⟩,
    ⟨(some 39), (.fad 4 (.t 4)), none, 1, false, []⟩,
    ⟨(some 40), (.load false 1 (.t 39)), none, 2, true, []⟩,
    ⟨(some 41), (.iad 5 (.t 40) (.c (.int .i64 1))), none, 3, true, []⟩,
    ⟨(some 42), (.load true 5 (.t 41)), none, 4, true, []⟩,
    ⟨(some 43), (.fad 4 (.t 5)), none, 5, false, []⟩,
    ⟨(some 44), (.load false 1 (.t 43)), none, 6, true, []⟩,
    ⟨(some 45), (.iad 5 (.t 44) (.c (.int .i64 1))), none, 7, true, []⟩,
    ⟨(some 46), (.load true 5 (.t 45)), none, 8, true, []⟩,
    ⟨(some 47), (.call 81 [(.t 38), (.t 42), (.t 46)]), none, 9, true, []⟩,
    ⟨(some 11), (.new [(.int .i64 0), (.int .i64 0), (.int .i64 0), (.int .i64 0), (.int .i64 0), .nils, (.int .i64 0), (.int .i64 0), (.int .i64 0), (.int .i64 0), .nils, (.int .i64 0), (.int .i64 0), (.int .i64 0), (.int .i64 0), .nils, (.int .i64 0), (.int .i64 0), (.int .i64 0), (.int .i64 0), .nils, (.int .i64 0), (.int .i64 0), (.int .i64 0), (.int .i64 0), .nils]), none, 10, false, [2, 3, 4, 6, 7, 8, 9]⟩,
    ⟨none, (.store 26 (.t 11) (.t 47)), none, 11, false, []⟩] true
def a115_4 : AC := .reg [⟨(some 48), (.fad 0 (.t 4)), none, 0, false, []⟩,
    ⟨(some 49), (.load false 1 (.t 48)), none, 0, false, []⟩,
    ⟨(some 50), (.bin 0 .eql (.t 49) (.c (.int .i64 11))), none, 0, false, []⟩] false
def a115_5 : AC := .reg [⟨(some 51), (.mv (.t 7)), none, 0, false, []⟩,
    ⟨(some 52), (.load true 5 (.t 8)), none, 0, false, []⟩,
    ⟨(some 53), (.load true 5 (.t 9)), none, 0, false, []⟩,
    ⟨(some 54), (.load true 5 (.t 10)), none, 0, false, []⟩,
    ⟨(some 55), (.load true 26 (.t 11)), none, 0, false, []⟩,
    ⟨(some 56), (.call 130 [(.t 51), (.t 52), (.t 53), (.t 54), (.t 55)]), none, 0, false, []⟩,
    ⟨none, (.store 26 (.t 6) (.t 56)), none, 0, false, []⟩] false
def a115_6 : AC := .seq a115_5 .ret
def a115_7 : AC := .cond (.t 50) a115_6 .skip
def a115_8 : AC := .seq a115_4 a115_7
def a115_9 : AC := .reg [⟨(some 57), (.mv (.t 0)), none, 0, false, []⟩,
    ⟨(some 58), (.fad 4 (.t 4)), none, 1, false, []⟩,
    ⟨(some 59), (.load false 1 (.t 58)), none, 2, true, []⟩,
    ⟨(some 60), (.iad 5 (.t 59) (.c (.int .i64 2))), none, 3, true, []⟩,
    ⟨(some 61), (.load true 5 (.t 60)), none, 4, true, []⟩,
    ⟨(some 62), (.fad 4 (.t 5)), none, 5, false, []⟩,
    ⟨(some 63), (.load false 1 (.t 62)), none, 6, true, []⟩,
    ⟨(some 64), (.iad 5 (.t 63) (.c (.int .i64 2))), none, 7, true, []⟩,
    ⟨(some 65), (.load true 5 (.t 64)), none, 8, true, []⟩,
    ⟨(some 66), (.call 81 [(.t 57), (.t 61), (.t 65)]), none, 9, true, []⟩,
    ⟨(some 12), (.new [(.int .i64 0), (.int .i64 0), (.int .i64 0), (.int .i64 0), (.int .i64 0), .nils, (.int .i64 0), (.int .i64 0), (.int .i64 0), (.int .i64 0), .nils, (.int .i64 0), (.int .i64 0), (.int .i64 0), (.int .i64 0), .nils, (.int .i64 0), (.int .i64 0), (.int .i64 0), (.int .i64 0), .nils, (.int .i64 0), (.int .i64 0), (.int .i64 0), (.int .i64 0), .nils]), none, 10, false, [2, 3, 4, 6, 7, 8, 9]⟩,
    ⟨none, (.store 26 (.t 12) (.t 66)), none, 11, false, []⟩] true
def a115_10 : AC := .reg [⟨(some 67), (.mv (.t 0)), none, 0, false, []⟩,
    ⟨(some 68), (.mv (.t 7)), none, 1, false, []⟩,
    ⟨(some 69), (.load true 5 (.t 4)), none, 2, true, []⟩,
    ⟨(some 70), (.load true 5 (.t 5)), none, 3, true, []⟩,
    ⟨(some 71), (.mv (.t 7)), none, 4, false, []⟩,
    ⟨(some 72), (.load true 5 (.t 8)), none, 5, false, []⟩,
    ⟨(some 73), (.load true 5 (.t 9)), none, 6, false, []⟩,
    ⟨(some 74), (.load true 5 (.t 10)), none, 7, false, []⟩,
    ⟨(some 75), (.load true 26 (.t 11)), none, 8, false, []⟩,
    ⟨(some 76), (.load true 26 (.t 12)), none, 9, false, []⟩,
    ⟨(some 77), (.call 132 [(.t 71), (.t 72), (.t 73), (.t 74), (.t 75), (.t 76)]), none, 10, false, [2, 3]⟩,
    ⟨(some 78), (.call 131 [(.t 67), (.t 68), (.t 69), (.t 70), (.t 77)]), none, 11, false, []⟩,
    ⟨none, (.store 26 (.t 6) (.t 78)), none, 12, false, []⟩] true
def a115_11 : AC := .seq a115_10 .ret
def a115_12 : AC := .seq a115_9 a115_11
def a115_13 : AC := .seq a115_8 a115_12
def a115_14 : AC := .seq a115_3 a115_13
def a115_15 : AC := .seq a115_2 a115_14
def a115_16 : AC := .seq a115_1 a115_15
def a115_17 : AC := .seq a115_0 a115_16
def af115 : AF := { ntmps := 79, res := [(.cell 6 true 26)], body := a115_17 }
theorem tr115 : trF Tryz.prog Tryz.f115 = some af115 := by kernel_rfl
attribute [go_sem] af115 a115_0 a115_1 a115_2 a115_3 a115_4 a115_5 a115_6 a115_7 a115_8 a115_9 a115_10 a115_11 a115_12 a115_13 a115_14 a115_15 a115_16 a115_17
def a131_0 : AC := .reg [⟨(some 7), (.box (.t 2)), none, 0, false, []⟩,
    ⟨(some 8), (.box (.t 3)), none, 0, false, []⟩,
    ⟨(some 9), (.box (.t 4)), none, 0, false, []⟩,
    ⟨(some 10), (.new [(.int .i64 0), (.int .i64 0), (.int .i64 0), (.int .i64 0), (.int .i64 0), .nils, (.int .i64 0), (.int .i64 0), (.int .i64 0), (.int .i64 0), .nils, (.int .i64 0), (.int .i64 0), (.int .i64 0), (.int .i64 0), .nils, (.int .i64 0), (.int .i64 0), (.int .i64 0), (.int .i64 0), .nils, (.int .i64 0), (.int .i64 0), (.int .i64 0), (.int .i64 0), .nils]), none, 0, false, []⟩] false
def a131_1 : AC := .reg [⟨(some 11), (.mv (.t 1)), none, 0, false, []⟩,
    ⟨(some 12), (.bin 0 .add (.t 11) (.c (.int .i64 1))), none, 1, false, []⟩,
    ⟨(some 13), (.mv (.t 1)), none, 2, false, []⟩,
    ⟨(some 14), (.call 99 [(.t 13)]), none, 3, true, []⟩,
    ⟨(some 15), (.mv (.t 0)), none, 4, false, []⟩,
    ⟨(some 16), (.load true 5 (.t 7)), none, 5, false, [3]⟩,
    ⟨(some 17), (.call 31 [(.t 15), (.t 16)]), none, 6, true, []⟩,
    ⟨(some 18), (.mv (.t 0)), none, 7, false, []⟩,
    ⟨(some 19), (.load true 5 (.t 8)), none, 8, false, [3, 6]⟩,
    ⟨(some 20), (.call 32 [(.t 18), (.t 19)]), none, 9, true, []⟩,
    ⟨(some 21), (.load true 5 (.t 9)), none, 10, false, [3, 6, 9]⟩,
    ⟨(some 22), (.call 152 [(.t 12), (.t 14), (.t 17), (.t 20), (.t 21)]), none, 11, false, []⟩,
    ⟨none, (.store 26 (.t 10) (.t 22)), none, 12, false, []⟩] true
def a131_2 : AC := .seq a131_1 .ret
def a131_3 : AC := .seq a131_0 a131_2
def af131 : AF := { ntmps := 23, res := [(.cell 10 true 26)], body := a131_3 }
theorem tr131 : trF Tryz.prog Tryz.f131 = some af131 := by kernel_rfl
attribute [go_sem] af131 a131_0 a131_1 a131_2 a131_3
def a133_0 : AC := .reg [⟨(some 2), (.mv (.c .nils)), none, 0, false, []⟩] false
def a133_1 : AC := .reg [⟨(some 6), (.mv (.t 0)), none, 0, false, []⟩,
    ⟨(some 7), (.len false (.t 6)), none, 0, false, []⟩,
    ⟨(some 8), (.bin 0 .add (.t 7) (.c (.int .i64 1))), none, 0, false, []⟩,
    ⟨(some 9), (.mk 26 288 [(.int .i64 0), (.int .i64 0), (.int .i64 0), (.int .i64 0), (.int .i64 0), .nils, (.int .i64 0), (.int .i64 0), (.int .i64 0), (.int .i64 0), .nils, (.int .i64 0), (.int .i64 0), (.int .i64 0), (.int .i64 0), .nils, (.int .i64 0), (.int .i64 0), (.int .i64 0), (.int .i64 0), .nils, (.int .i64 0), (.int .i64 0), (.int .i64 0), (.int .i64 0), .nils] (.c (.int .i64 0)) (.t 8)), none, 0, false, []⟩,
    ⟨(some 3), (.mv (.t 9)), none, 0, false, []⟩] false
def a133_2 : AC := .reg [⟨(some 10), (.mv (.t 0)), none, 0, false, []⟩,
    ⟨(some 11), (.len false (.t 10)), none, 0, false, []⟩,
    ⟨(some 12), (.mv (.c (.int .i64 0))), none, 0, false, []⟩] false
def a133_3 : AC := .reg [⟨(some 13), (.bin 0 .lss (.t 12) (.t 11)), none, 0, false, []⟩] false
def a133_4 : AC := .cond (.t 13) .skip (.exit 0)
def a133_5 : AC := .reg [⟨(some 14), (.iad 26 (.t 10) (.t 12)), none, 0, false, []⟩,
    ⟨(some 15), (.load true 26 (.t 14)), none, 0, false, []⟩,
    ⟨(some 5), (.new [(.int .i64 0), (.int .i64 0), (.int .i64 0), (.int .i64 0), (.int .i64 0), .nils, (.int .i64 0), (.int .i64 0), (.int .i64 0), (.int .i64 0), .nils, (.int .i64 0), (.int .i64 0), (.int .i64 0), (.int .i64 0), .nils, (.int .i64 0), (.int .i64 0), (.int .i64 0), (.int .i64 0), .nils, (.int .i64 0), (.int .i64 0), (.int .i64 0), (.int .i64 0), .nils]), none, 0, false, []⟩,
    ⟨none, (.store 26 (.t 5) (.t 15)), none, 0, false, []⟩] false
def a133_6 : AC := .reg [⟨(some 16), (.mv (.t 3)), none, 0, false, []⟩,
    ⟨(some 17), (.load true 26 (.t 5)), none, 0, false, []⟩,
    ⟨(some 18), (.call 72 [(.t 17), (.c (.int .i64 1))]), none, 0, false, []⟩,
    ⟨(some 19), (.bslice 26 [(.t 18)]), none, 0, false, []⟩,
    ⟨(some 20), (.app 26 288 (.t 16) (.t 19)), none, 0, false, []⟩,
    ⟨(some 3), (.mv (.t 20)), none, 0, false, []⟩] false
def a133_7 : AC := .seq a133_5 a133_6
def a133_8 : AC := .blk 1 a133_7
def a133_9 : AC := .reg [⟨(some 21), (.bin 0 .add (.t 12) (.c (.int .i64 1))), none, 0, false, []⟩,
    ⟨(some 12), (.mv (.t 21)), none, 0, false, []⟩] false
def a133_10 : AC := .seq a133_8 a133_9
def a133_11 : AC := .seq a133_4 a133_10
def a133_12 : AC := .seq a133_3 a133_11
def a133_13 : AC := .loop a133_12
def a133_14 : AC := .blk 0 a133_13
def a133_15 : AC := .seq a133_2 a133_14
def a133_16 : AC := .reg [⟨(some 22), (.mv (.t 3)), none, 0, false, []⟩,
    ⟨(some 23), (.call 50 [(.c (.int .i64 0))]), none, 0, false, []⟩,
    ⟨(some 24), (.call 50 [(.c (.int .i64 0))]), none, 0, false, []⟩,
    ⟨(some 25), (.build [(.int .i64 0), (.int .i64 0), (.int .i64 0), (.int .i64 0), (.int .i64 0), .nils, (.int .i64 0), (.int .i64 0), (.int .i64 0), (.int .i64 0), .nils, (.int .i64 0), (.int .i64 0), (.int .i64 0), (.int .i64 0), .nils, (.int .i64 0), (.int .i64 0), (.int .i64 0), (.int .i64 0), .nils, (.int .i64 0), (.int .i64 0), (.int .i64 0), (.int .i64 0), .nils] [(11, (5, (.t 23))), (16, (5, (.t 24)))]), none, 0, false, []⟩,
    ⟨(some 26), (.bslice 26 [(.t 25)]), none, 0, false, []⟩,
    ⟨(some 27), (.app 26 288 (.t 22) (.t 26)), none, 0, false, []⟩,
    ⟨(some 2), (.mv (.t 27)), none, 0, false, []⟩] false
def a133_17 : AC := .seq a133_16 .ret
def a133_18 : AC := .seq a133_15 a133_17
def a133_19 : AC := .seq a133_1 a133_18
def a133_20 : AC := .seq a133_0 a133_19
def af133 : AF := { ntmps := 28, res := [(.t 2)], body := a133_20 }
theorem tr133 : trF Tryz.prog Tryz.f133 = some af133 := by kernel_rfl
attribute [go_sem] af133 a133_0 a133_1 a133_2 a133_3 a133_4 a133_5 a133_6 a133_7 a133_8 a133_9 a133_10 a133_11 a133_12 a133_13 a133_14 a133_15 a133_16 a133_17 a133_18 a133_19 a133_20
def a113_0 : AC := .reg [⟨(some 2), (.box (.t 0)), none, 0, false, []⟩,
    ⟨(some 3), (.box (.t 1)), none, 0, false, []⟩,
    ⟨(some 4), (.new [(.int .i64 0), (.int .i64 0), (.int .i64 0), (.int .i64 0), (.int .i64 0), .nils, (.int .i64 0), (.int .i64 0), (.int .i64 0), (.int .i64 0), .nils, (.int .i64 0), (.int .i64 0), (.int .i64 0), (.int .i64 0), .nils, (.int .i64 0), (.int .i64 0), (.int .i64 0), (.int .i64 0), .nils, (.int .i64 0), (.int .i64 0), (.int .i64 0), (.int .i64 0), .nils]), none, 0, false, []⟩] false
def a113_1 : AC := .reg [⟨(some 7), (.fad 0 (.t 2)), none, 0, false, []⟩,
    ⟨(some 8), (.load false 1 (.t 7)), none, 0, false, []⟩,
    ⟨(some 5), (.mv (.t 8)), none, 0, false, []⟩] false
def a113_2 : AC := .reg [⟨(some 9), (.mv (.t 5)), none, 0, false, []⟩,
    ⟨(some 10), (.fad 1 (.t 2)), none, 0, false, []⟩,
    ⟨(some 11), (.load true 5 (.t 10)), none, 0, false, []⟩,
    ⟨(some 12), (.fad 6 (.t 3)), none, 0, false, []⟩,
    ⟨(some 13), (.load true 5 (.t 12)), none, 0, false, []⟩,
    ⟨(some 14), (.fad 11 (.t 2)), none, 0, false, []⟩,
    ⟨(some 15), (.load true 5 (.t 14)), none, 0, false, []⟩,
    ⟨(some 16), (.fad 16 (.t 3)), none, 0, false, []⟩,
    ⟨(some 17), (.load true 5 (.t 16)), none, 0, false, []⟩,
    ⟨(some 18), (.build [(.int .i64 0), (.int .i64 0), (.int .i64 0), (.int .i64 0), (.int .i64 0), .nils, (.int .i64 0), (.int .i64 0), (.int .i64 0), (.int .i64 0), .nils, (.int .i64 0), (.int .i64 0), (.int .i64 0), (.int .i64 0), .nils, (.int .i64 0), (.int .i64 0), (.int .i64 0), (.int .i64 0), .nils, (.int .i64 0), (.int .i64 0), (.int .i64 0), (.int .i64 0), .nils] [(0, (1, (.t 9))), (1, (5, (.t 11))), (6, (5, (.t 13))), (11, (5, (.t 15))), (16, (5, (.t 17)))]), none, 0, false, []⟩,
    ⟨(some 6), (.new [(.int .i64 0), (.int .i64 0), (.int .i64 0), (.int .i64 0), (.int .i64 0), .nils, (.int .i64 0), (.int .i64 0), (.int .i64 0), (.int .i64 0), .nils, (.int .i64 0), (.int .i64 0), (.int .i64 0), (.int .i64 0), .nils, (.int .i64 0), (.int .i64 0), (.int .i64 0), (.int .i64 0), .nils, (.int .i64 0), (.int .i64 0), (.int .i64 0), (.int .i64 0), .nils]), none, 0, false, []⟩,
    ⟨none, (.store 26 (.t 6) (.t 18)), none, 0, false, []⟩] false
def a113_3 : AC := .reg [⟨(some 19), (.mv (.t 5)), none, 0, false, []⟩,
    ⟨(some 20), (.bin 0 .add (.t 19) (.c (.int .i64 1))), none, 1, false, []⟩,
    ⟨(some 21), (.mv (.t 5)), none, 2, false, []⟩,
    ⟨(some 22), (.call 86 [(.t 21)]), none, 3, true, []⟩,
    ⟨(some 23), (.mv (.t 5)), none, 4, false, []⟩,
    ⟨(some 24), (.fad 1 (.t 2)), none, 5, false, []⟩,
    ⟨(some 25), (.load true 5 (.t 24)), none, 6, false, [3]⟩,
    ⟨(some 26), (.fad 11 (.t 2)), none, 7, false, []⟩,
    ⟨(some 27), (.load true 5 (.t 26)), none, 8, false, [3]⟩,
    ⟨(some 28), (.call 128 [(.t 23), (.t 25), (.t 27)]), none, 9, true, []⟩,
    ⟨(some 29), (.mv (.t 5)), none, 10, false, []⟩,
    ⟨(some 30), (.fad 6 (.t 2)), none, 11, false, []⟩,
    ⟨(some 31), (.load true 5 (.t 30)), none, 12, false, [3, 9]⟩,
    ⟨(some 32), (.fad 16 (.t 2)), none, 13, false, []⟩,
    ⟨(some 33), (.load true 5 (.t 32)), none, 14, false, [3, 9]⟩,
    ⟨(some 34), (.call 128 [(.t 29), (.t 31), (.t 33)]), none, 15, true, []⟩,
    ⟨(some 35), (.mv (.t 5)), none, 16, false, []⟩,
    ⟨(some 36), (.fad 6 (.t 3)), none, 17, false, []⟩,
    ⟨(some 37), (.load true 5 (.t 36)), none, 18, false, [3, 9, 15]⟩,
    ⟨(some 38), (.fad 16 (.t 3)), none, 19, false, []⟩,
    ⟨(some 39), (.load true 5 (.t 38)), none, 20, false, [3, 9, 15]⟩,
    ⟨(some 40), (.call 128 [(.t 35), (.t 37), (.t 39)]), none, 21, true, []⟩,
    ⟨(some 41), (.fad 21 (.t 2)), none, 22, false, []⟩,
    ⟨(some 42), (.load true 5 (.t 41)), none, 23, false, [3, 9, 15, 21]⟩,
    ⟨(some 43), (.fad 21 (.t 3)), none, 24, false, []⟩,
    ⟨(some 44), (.load true 5 (.t 43)), none, 25, false, [3, 9, 15, 21]⟩,
    ⟨(some 45), (.bslice 5 [(.t 22), (.t 28), (.t 34), (.t 40), (.t 42), (.t 44)]), none, 26, false, []⟩,
    ⟨(some 46), (.call 58 [(.c (.int .i64 23)), (.t 20), (.c (.int .i64 0)), (.c (.int .i64 4)), (.t 45)]), none, 27, false, []⟩,
    ⟨(some 47), (.fad 21 (.t 6)), none, 28, false, []⟩,
    ⟨none, (.store 5 (.t 47) (.t 46)), none, 29, false, []⟩] true
def a113_4 : AC := .reg [⟨(some 48), (.load true 26 (.t 6)), none, 0, false, []⟩,
    ⟨none, (.store 26 (.t 4) (.t 48)), none, 0, false, []⟩] false
def a113_5 : AC := .seq a113_4 .ret
def a113_6 : AC := .seq a113_3 a113_5
def a113_7 : AC := .seq a113_2 a113_6
def a113_8 : AC := .seq a113_1 a113_7
def a113_9 : AC := .seq a113_0 a113_8
def af113 : AF := { ntmps := 49, res := [(.cell 4 true 26)], body := a113_9 }
theorem tr113 : trF Tryz.prog Tryz.f113 = some af113 := by kernel_rfl
attribute [go_sem] af113 a113_0 a113_1 a113_2 a113_3 a113_4 a113_5 a113_6 a113_7 a113_8 a113_9
def a63_0 : AC := .reg [⟨(some 3), (.box (.t 1)), none, 0, false, []⟩,
    ⟨(some 4), (.new [(.int .i64 0), (.int .i64 0), (.int .i64 0), (.int .i64 0), .nils]), none, 0, false, []⟩] false
def a63_1 : AC := .reg [⟨(some 5), (.mv (.t 0)), none, 0, false, []⟩,
    ⟨(some 6), (.bin 0 .add (.t 5) (.c (.int .i64 1))), none, 1, false, []⟩,
    ⟨(some 7), (.mv (.t 0)), none, 2, false, []⟩,
    ⟨(some 8), (.call 99 [(.t 7)]), none, 3, true, []⟩,
    ⟨(some 9), (.fad 11 (.t 3)), none, 4, false, []⟩,
    ⟨(some 10), (.load true 5 (.t 9)), none, 5, false, [3]⟩,
    ⟨(some 11), (.fad 16 (.t 3)), none, 6, false, []⟩,
    ⟨(some 12), (.load true 5 (.t 11)), none, 7, false, [3]⟩,
    ⟨(some 13), (.fad 21 (.t 3)), none, 8, false, []⟩,
    ⟨(some 14), (.load true 5 (.t 13)), none, 9, false, [3]⟩,
    ⟨(some 15), (.bslice 5 [(.t 8), (.t 10), (.t 12), (.t 14)]), none, 10, false, []⟩,
    ⟨(some 16), (.call 58 [(.c (.int .i64 23)), (.t 6), (.c (.int .i64 0)), (.c (.int .i64 10)), (.t 15)]), none, 11, false, []⟩,
    ⟨none, (.store 5 (.t 4) (.t 16)), none, 12, false, []⟩] true
def a63_2 : AC := .seq a63_1 .ret
def a63_3 : AC := .seq a63_0 a63_2
def af63 : AF := { ntmps := 17, res := [(.cell 4 true 5)], body := a63_3 }
theorem tr63 : trF Tryz.prog Tryz.f63 = some af63 := by kernel_rfl
attribute [go_sem] af63 a63_0 a63_1 a63_2 a63_3
def a134_0 : AC := .reg [⟨(some 5), (.box (.t 1)), none, 0, false, []⟩,
    ⟨(some 6), (.box (.t 2)), none, 0, false, []⟩,
    ⟨(some 7), (.box (.t 3)), none, 0, false, []⟩,
    ⟨(some 8), (.new [(.int .i64 0), (.int .i64 0), (.int .i64 0), (.int .i64 0), .nils]), none, 0, false, []⟩] false
def a134_1 : AC := .reg [⟨(some 12), (.load true 5 (.t 6)), none, 0, false, []⟩,
    ⟨(some 13), (.call 33 [(.t 12), (.c (.int .i64 1)), (.c (.int .i64 0))]), none, 0, false, []⟩,
    ⟨(some 11), (.mv (.t 13)), none, 0, false, []⟩,
    ⟨(some 14), (.ext (.t 11) 0), none, 0, false, []⟩,
    ⟨(some 15), (.ext (.t 11) 1), none, 0, false, []⟩,
    ⟨(some 9), (.new [(.int .i64 0), (.int .i64 0), (.int .i64 0), (.int .i64 0), .nils]), none, 0, false, []⟩,
    ⟨none, (.store 5 (.t 9) (.t 14)), none, 0, false, []⟩,
    ⟨(some 10), (.mv (.t 15)), none, 0, false, []⟩] false
def a134_2 : AC := .reg [⟨(some 16), (.mv (.t 0)), none, 0, false, []⟩,
    ⟨(some 17), (.load true 5 (.t 5)), none, 1, false, []⟩,
    ⟨(some 18), (.load true 5 (.t 6)), none, 2, false, []⟩,
    ⟨(some 19), (.call 35 [(.t 16), (.t 17), (.t 18)]), none, 3, true, []⟩,
    ⟨(some 20), (.load true 5 (.t 7)), none, 4, false, [3]⟩,
    ⟨(some 21), (.bslice 5 [(.t 19), (.t 20)]), none, 5, false, []⟩,
    ⟨(some 22), (.call 58 [(.c (.int .i64 14)), (.c (.int .i64 0)), (.c (.int .i64 0)), (.c (.int .i64 0)), (.t 21)]), none, 6, false, []⟩,
    ⟨none, (.store 5 (.t 7) (.t 22)), none, 7, false, []⟩] true
def a134_3 : AC := .reg [⟨(some 23), (.load true 5 (.t 5)), none, 0, true, []⟩,
    ⟨(some 24), (.load true 5 (.t 9)), none, 1, false, []⟩,
    ⟨(some 25), (.load true 5 (.t 7)), none, 2, false, []⟩,
    ⟨(some 26), (.bslice 5 [(.t 24), (.t 25)]), none, 3, false, [0]⟩,
    ⟨(some 27), (.call 58 [(.c (.int .i64 14)), (.c (.int .i64 0)), (.c (.int .i64 0)), (.c (.int .i64 0)), (.t 26)]), none, 4, false, [0]⟩,
    ⟨(some 28), (.bslice 5 [(.t 23), (.t 27)]), none, 5, false, []⟩,
    ⟨(some 29), (.call 58 [(.c (.int .i64 14)), (.c (.int .i64 0)), (.c (.int .i64 0)), (.c (.int .i64 0)), (.t 28)]), none, 6, false, []⟩,
    ⟨none, (.store 5 (.t 8) (.t 29)), none, 7, false, []⟩] true
def a134_4 : AC := .seq a134_3 .ret
def a134_5 : AC := .seq a134_2 a134_4
def a134_6 : AC := .seq a134_1 a134_5
def a134_7 : AC := .seq a134_0 a134_6
def af134 : AF := { ntmps := 30, res := [(.cell 8 true 5)], body := a134_7 }
theorem tr134 : trF Tryz.prog Tryz.f134 = some af134 := by kernel_rfl
attribute [go_sem] af134 a134_0 a134_1 a134_2 a134_3 a134_4 a134_5 a134_6 a134_7
end Go.Proofs.YtkldipbhenabfaaGreat.Abs

