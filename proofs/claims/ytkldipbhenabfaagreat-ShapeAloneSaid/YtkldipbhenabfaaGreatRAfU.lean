/- The abstract code of functions, printed by program; that it is the translation of the model's code is decided by the kernel. -/
import Derived.Test.YtkldipbhenabfaaGreatREv
import Derived.Test.YtkldipbhenabfaaGreatProg
import Derived.KernelRfl
namespace Go.Proofs.YtkldipbhenabfaaGreat.Abs
open Go Go.Proofs Go.Proofs.YtkldipbhenabfaaGreat
def a81_0 : AC := .reg [⟨(some 4), (.box (.t 1)), none, 0, false, []⟩,
    ⟨(some 5), (.box (.t 2)), none, 0, false, []⟩,
    ⟨(some 6), (.new [(.int .i64 0), (.int .i64 0), (.int .i64 0), (.int .i64 0), (.int .i64 0), .nils, (.int .i64 0), (.int .i64 0), (.int .i64 0), (.int .i64 0), .nils, (.int .i64 0), (.int .i64 0), (.int .i64 0), (.int .i64 0), .nils, (.int .i64 0), (.int .i64 0), (.int .i64 0), (.int .i64 0), .nils, (.int .i64 0), (.int .i64 0), (.int .i64 0), (.int .i64 0), .nils]), none, 0, false, []⟩] false
def a81_1 : AC := .reg [⟨(some 11), (.fad 0 (.t 4)), none, 0, false, []⟩,
    ⟨(some 12), (.load false 1 (.t 11)), none, 0, false, []⟩,
    ⟨(some 13), (.bin 0 .eql (.t 12) (.c (.int .i64 12))), none, 0, false, []⟩] false
def a81_2 : AC := .reg [⟨(some 14), (.fad 4 (.t 4)), none, 0, false, []⟩,
    ⟨(some 15), (.load false 1 (.t 14)), none, 0, false, []⟩,
    ⟨(some 7), (.mv (.t 15)), none, 0, false, []⟩] false
def a81_3 : AC := .reg [⟨(some 16), (.fad 1 (.t 4)), none, 0, false, []⟩,
    ⟨(some 17), (.load false 1 (.t 16)), none, 1, true, []⟩,
    ⟨(some 18), (.mv (.t 0)), none, 2, false, []⟩,
    ⟨(some 19), (.mv (.t 7)), none, 3, false, []⟩,
    ⟨(some 20), (.iad 5 (.t 19) (.c (.int .i64 0))), none, 4, true, []⟩,
    ⟨(some 21), (.load true 5 (.t 20)), none, 5, true, []⟩,
    ⟨(some 22), (.call 31 [(.t 18), (.t 21)]), none, 6, true, [1]⟩,
    ⟨(some 23), (.mv (.t 0)), none, 7, false, []⟩,
    ⟨(some 24), (.mv (.t 7)), none, 8, false, []⟩,
    ⟨(some 25), (.iad 5 (.t 24) (.c (.int .i64 1))), none, 9, true, [6]⟩,
    ⟨(some 26), (.load true 5 (.t 25)), none, 10, true, [6]⟩,
    ⟨(some 27), (.call 31 [(.t 23), (.t 26)]), none, 11, true, [1]⟩,
    ⟨(some 28), (.mv (.t 0)), none, 12, false, []⟩,
    ⟨(some 29), (.mv (.t 7)), none, 13, false, []⟩,
    ⟨(some 30), (.iad 5 (.t 29) (.c (.int .i64 2))), none, 14, true, [6, 11]⟩,
    ⟨(some 31), (.load true 5 (.t 30)), none, 15, true, [6, 11]⟩,
    ⟨(some 32), (.call 70 [(.t 28), (.t 31), (.c (.bool false))]), none, 16, true, [1]⟩,
    ⟨(some 33), (.mv (.t 0)), none, 17, false, []⟩,
    ⟨(some 34), (.mv (.t 7)), none, 18, false, []⟩,
    ⟨(some 35), (.iad 5 (.t 34) (.c (.int .i64 3))), none, 19, true, [6, 11, 16]⟩,
    ⟨(some 36), (.load true 5 (.t 35)), none, 20, true, [6, 11, 16]⟩,
    ⟨(some 37), (.call 31 [(.t 33), (.t 36)]), none, 21, true, [1]⟩,
    ⟨(some 38), (.call 112 [(.t 17), (.t 22), (.t 27), (.t 32), (.t 37)]), none, 22, true, []⟩,
    ⟨(some 8), (.new [(.int .i64 0), (.int .i64 0), (.int .i64 0), (.int .i64 0), (.int .i64 0), .nils, (.int .i64 0), (.int .i64 0), (.int .i64 0), (.int .i64 0), .nils, (.int .i64 0), (.int .i64 0), (.int .i64 0), (.int .i64 0), .nils, (.int .i64 0), (.int .i64 0), (.int .i64 0), (.int .i64 0), .nils, (.int .i64 0), (.int .i64 0), (.int .i64 0), (.int .i64 0), .nils]), none, 23, false, [1, 4, 5, 6, 9, 10, 11, 14, 15, 16, 19, 20, 21, 22]⟩,
    ⟨none, (.store 26 (.t 8) (.t 38)), none, 24, false, []⟩] true
def a81_4 : AC := .reg [⟨(some 39), (.load true 26 (.t 8)), none, 0, false, []⟩,
    ⟨(some 40), (.call 114 [(.t 39)]), none, 1, true, []⟩,
    ⟨(some 41), (.mv (.t 0)), none, 2, false, []⟩,
    ⟨(some 42), (.mv (.t 7)), none, 3, false, []⟩,
    ⟨(some 43), (.iad 5 (.t 42) (.c (.int .i64 3))), none, 4, false, [1]⟩,
    ⟨(some 44), (.load true 5 (.t 43)), none, 5, false, [1]⟩,
    ⟨(some 45), (.load true 5 (.t 5)), none, 6, false, [1]⟩,
    ⟨(some 46), (.call 81 [(.t 41), (.t 44), (.t 45)]), none, 7, false, []⟩,
    ⟨(some 47), (.call 113 [(.t 40), (.t 46)]), none, 8, false, []⟩,
    ⟨none, (.store 26 (.t 6) (.t 47)), none, 9, false, []⟩] true
def a81_5 : AC := .seq a81_4 .ret
def a81_6 : AC := .seq a81_3 a81_5
def a81_7 : AC := .seq a81_2 a81_6
def a81_8 : AC := .cond (.t 13) a81_7 .skip
def a81_9 : AC := .seq a81_1 a81_8
def a81_10 : AC := .reg [⟨(some 48), (.fad 0 (.t 5)), none, 0, false, []⟩,
    ⟨(some 49), (.load false 1 (.t 48)), none, 0, false, []⟩,
    ⟨(some 50), (.bin 0 .eql (.t 49) (.c (.int .i64 12))), none, 0, false, []⟩] false
def a81_11 : AC := .reg [⟨(some 51), (.fad 4 (.t 5)), none, 0, false, []⟩,
    ⟨(some 52), (.load false 1 (.t 51)), none, 0, false, []⟩,
    ⟨(some 9), (.mv (.t 52)), none, 0, false, []⟩] false
def a81_12 : AC := .reg [⟨(some 53), (.fad 1 (.t 5)), none, 0, false, []⟩,
    ⟨(some 54), (.load false 1 (.t 53)), none, 1, true, []⟩,
    ⟨(some 55), (.mv (.t 0)), none, 2, false, []⟩,
    ⟨(some 56), (.mv (.t 9)), none, 3, false, []⟩,
    ⟨(some 57), (.iad 5 (.t 56) (.c (.int .i64 0))), none, 4, true, []⟩,
    ⟨(some 58), (.load true 5 (.t 57)), none, 5, true, []⟩,
    ⟨(some 59), (.call 32 [(.t 55), (.t 58)]), none, 6, true, [1]⟩,
    ⟨(some 60), (.mv (.t 0)), none, 7, false, []⟩,
    ⟨(some 61), (.mv (.t 9)), none, 8, false, []⟩,
    ⟨(some 62), (.iad 5 (.t 61) (.c (.int .i64 1))), none, 9, true, [6]⟩,
    ⟨(some 63), (.load true 5 (.t 62)), none, 10, true, [6]⟩,
    ⟨(some 64), (.call 32 [(.t 60), (.t 63)]), none, 11, true, [1]⟩,
    ⟨(some 65), (.mv (.t 0)), none, 12, false, []⟩,
    ⟨(some 66), (.mv (.t 9)), none, 13, false, []⟩,
    ⟨(some 67), (.iad 5 (.t 66) (.c (.int .i64 2))), none, 14, true, [6, 11]⟩,
    ⟨(some 68), (.load true 5 (.t 67)), none, 15, true, [6, 11]⟩,
    ⟨(some 69), (.call 70 [(.t 65), (.t 68), (.c (.bool true))]), none, 16, true, [1]⟩,
    ⟨(some 70), (.mv (.t 0)), none, 17, false, []⟩,
    ⟨(some 71), (.mv (.t 9)), none, 18, false, []⟩,
    ⟨(some 72), (.iad 5 (.t 71) (.c (.int .i64 3))), none, 19, true, [6, 11, 16]⟩,
    ⟨(some 73), (.load true 5 (.t 72)), none, 20, true, [6, 11, 16]⟩,
    ⟨(some 74), (.call 32 [(.t 70), (.t 73)]), none, 21, true, [1]⟩,
    ⟨(some 75), (.call 112 [(.t 54), (.t 59), (.t 64), (.t 69), (.t 74)]), none, 22, true, []⟩,
    ⟨(some 10), (.new [(.int .i64 0), (.int .i64 0), (.int .i64 0), (.int .i64 0), (.int .i64 0), .nils, (.int .i64 0), (.int .i64 0), (.int .i64 0), (.int .i64 0), .nils, (.int .i64 0), (.int .i64 0), (.int .i64 0), (.int .i64 0), .nils, (.int .i64 0), (.int .i64 0), (.int .i64 0), (.int .i64 0), .nils, (.int .i64 0), (.int .i64 0), (.int .i64 0), (.int .i64 0), .nils]), none, 23, false, [1, 4, 5, 6, 9, 10, 11, 14, 15, 16, 19, 20, 21, 22]⟩,
    ⟨none, (.store 26 (.t 10) (.t 75)), none, 24, false, []⟩] true
def a81_13 : AC := .reg [⟨(some 76), (.mv (.t 0)), none, 0, false, []⟩,
    ⟨(some 77), (.load true 5 (.t 4)), none, 1, false, []⟩,
    ⟨(some 78), (.mv (.t 9)), none, 2, false, []⟩,
    ⟨(some 79), (.iad 5 (.t 78) (.c (.int .i64 3))), none, 3, false, []⟩,
    ⟨(some 80), (.load true 5 (.t 79)), none, 4, false, []⟩,
    ⟨(some 81), (.call 81 [(.t 76), (.t 77), (.t 80)]), none, 5, true, []⟩,
    ⟨(some 82), (.load true 26 (.t 10)), none, 6, false, [5]⟩,
    ⟨(some 83), (.call 113 [(.t 81), (.t 82)]), none, 7, false, []⟩,
    ⟨none, (.store 26 (.t 6) (.t 83)), none, 8, false, []⟩] true
def a81_14 : AC := .seq a81_13 .ret
def a81_15 : AC := .seq a81_12 a81_14
def a81_16 : AC := .seq a81_11 a81_15
def a81_17 : AC := .cond (.t 50) a81_16 .skip
def a81_18 : AC := .seq a81_10 a81_17
def a81_19 : AC := .reg [⟨(some 84), (.fad 0 (.t 4)), none, 0, false, []⟩,
    ⟨(some 85), (.load false 1 (.t 84)), none, 0, false, []⟩] false
def a81_20 : AC := .reg [⟨(some 87), (.bin 0 .eql (.t 85) (.c (.int .i64 1))), none, 0, false, []⟩,
    ⟨(some 86), (.mv (.t 87)), none, 0, false, []⟩] false
def a81_21 : AC := .reg [⟨(some 88), (.fad 1 (.t 4)), none, 0, false, []⟩,
    ⟨(some 89), (.load false 1 (.t 88)), none, 1, true, []⟩,
    ⟨(some 90), (.bin 0 .add (.t 89) (.c (.int .i64 2))), none, 2, false, []⟩,
    ⟨(some 91), (.fad 1 (.t 4)), none, 3, false, []⟩,
    ⟨(some 92), (.load false 1 (.t 91)), none, 4, false, []⟩,
    ⟨(some 93), (.bin 0 .add (.t 92) (.c (.int .i64 1))), none, 5, false, []⟩,
    ⟨(some 94), (.call 99 [(.t 93)]), none, 6, true, [1]⟩,
    ⟨(some 95), (.fad 1 (.t 4)), none, 7, false, []⟩,
    ⟨(some 96), (.load false 1 (.t 95)), none, 8, false, [6]⟩,
    ⟨(some 97), (.call 99 [(.t 96)]), none, 9, false, [1]⟩,
    ⟨(some 98), (.call 48 [(.t 90), (.t 94), (.t 97)]), none, 10, false, []⟩,
    ⟨none, (.store 26 (.t 6) (.t 98)), none, 11, false, []⟩] true
def a81_22 : AC := .seq a81_21 .ret
def a81_23 : AC := .reg [⟨(some 100), (.bin 0 .eql (.t 85) (.c (.int .i64 2))), none, 0, false, []⟩,
    ⟨(some 99), (.mv (.t 100)), none, 0, false, []⟩] false
def a81_24 : AC := .reg [⟨(some 101), (.mv (.t 0)), none, 0, false, []⟩,
    ⟨(some 102), (.mv (.t 0)), none, 0, false, []⟩,
    ⟨(some 103), (.len false (.t 102)), none, 0, false, []⟩,
    ⟨(some 104), (.bin 0 .sub (.t 103) (.c (.int .i64 1))), none, 0, false, []⟩,
    ⟨(some 105), (.fad 1 (.t 4)), none, 0, false, []⟩,
    ⟨(some 106), (.load false 1 (.t 105)), none, 0, false, []⟩,
    ⟨(some 107), (.bin 0 .sub (.t 104) (.t 106)), none, 0, false, []⟩,
    ⟨(some 108), (.iad 26 (.t 101) (.t 107)), none, 0, false, []⟩,
    ⟨(some 109), (.load true 26 (.t 108)), none, 0, false, []⟩,
    ⟨none, (.store 26 (.t 6) (.t 109)), none, 0, false, []⟩] false
def a81_25 : AC := .seq a81_24 .ret
def a81_26 : AC := .reg [⟨(some 111), (.bin 0 .eql (.t 85) (.c (.int .i64 10))), none, 0, false, []⟩,
    ⟨(some 110), (.mv (.t 111)), none, 0, false, []⟩] false
def a81_27 : AC := .reg [⟨(some 112), (.bin 0 .eql (.t 85) (.c (.int .i64 11))), none, 0, false, []⟩,
    ⟨(some 110), (.mv (.t 112)), none, 0, false, []⟩] false
def a81_28 : AC := .cond (.t 110) .skip a81_27
def a81_29 : AC := .seq a81_26 a81_28
def a81_30 : AC := .reg [⟨(some 113), (.mv (.t 0)), none, 0, false, []⟩,
    ⟨(some 114), (.load true 5 (.t 4)), none, 0, false, []⟩,
    ⟨(some 115), (.load true 5 (.t 5)), none, 0, false, []⟩,
    ⟨(some 116), (.call 115 [(.t 113), (.t 114), (.t 115)]), none, 0, false, []⟩,
    ⟨none, (.store 26 (.t 6) (.t 116)), none, 0, false, []⟩] false
def a81_31 : AC := .seq a81_30 .ret
def a81_32 : AC := .cond (.t 110) a81_31 .skip
def a81_33 : AC := .seq a81_29 a81_32
def a81_34 : AC := .cond (.t 99) a81_25 a81_33
def a81_35 : AC := .seq a81_23 a81_34
def a81_36 : AC := .cond (.t 86) a81_22 a81_35
def a81_37 : AC := .seq a81_20 a81_36
def a81_38 : AC := .blk 0 a81_37
def a81_39 : AC := .seq a81_19 a81_38
def a81_40 : AC := .reg [⟨(some 117), (.mv (.t 0)), none, 0, false, []⟩,
    ⟨(some 118), (.load true 5 (.t 4)), none, 0, false, []⟩,
    ⟨(some 119), (.load true 5 (.t 5)), none, 0, false, []⟩,
    ⟨(some 120), (.call 116 [(.t 117), (.t 118), (.t 119)]), none, 0, false, []⟩,
    ⟨none, (.store 26 (.t 6) (.t 120)), none, 0, false, []⟩] false
def a81_41 : AC := .seq a81_40 .ret
def a81_42 : AC := .seq a81_39 a81_41
def a81_43 : AC := .seq a81_18 a81_42
def a81_44 : AC := .seq a81_9 a81_43
def a81_45 : AC := .seq a81_0 a81_44
def af81 : AF := { ntmps := 121, res := [(.cell 6 true 26)], body := a81_45 }
theorem tr81 : trF Tryz.prog Tryz.f81 = some af81 := by kernel_rfl
attribute [go_sem] af81 a81_0 a81_1 a81_2 a81_3 a81_4 a81_5 a81_6 a81_7 a81_8 a81_9 a81_10 a81_11 a81_12 a81_13 a81_14 a81_15 a81_16 a81_17 a81_18 a81_19 a81_20 a81_21 a81_22 a81_23 a81_24 a81_25 a81_26 a81_27 a81_28 a81_29 a81_30 a81_31 a81_32 a81_33 a81_34 a81_35 a81_36 a81_37 a81_38 a81_39 a81_40 a81_41 a81_42 a81_43 a81_44 a81_45
def a44_0 : AC := .reg [⟨(some 4), (.box (.t 1)), none, 0, false, []⟩,
    ⟨(some 5), (.box (.t 2)), none, 0, false, []⟩,
    ⟨(some 6), (.new [(.int .i64 0), (.int .i64 0), (.int .i64 0), (.int .i64 0), (.int .i64 0), .nils, (.int .i64 0), (.int .i64 0), (.int .i64 0), (.int .i64 0), .nils, (.int .i64 0), (.int .i64 0), (.int .i64 0), (.int .i64 0), .nils, (.int .i64 0), (.int .i64 0), (.int .i64 0), (.int .i64 0), .nils, (.int .i64 0), (.int .i64 0), (.int .i64 0), (.int .i64 0), .nils]), none, 0, false, []⟩,
    ⟨(some 7), (.mv (.c (.bool false))), none, 0, false, []⟩] false
def a44_1 : AC := .reg [⟨(some 11), (.mv (.t 0)), none, 0, false, []⟩,
    ⟨(some 12), (.len false (.t 11)), none, 0, false, []⟩,
    ⟨(some 13), (.mv (.c (.int .i64 0))), none, 0, false, []⟩] false
def a44_2 : AC := .reg [⟨(some 14), (.bin 0 .lss (.t 13) (.t 12)), none, 0, false, []⟩] false
def a44_3 : AC := .cond (.t 14) .skip (.exit 0)
def a44_4 : AC := .reg [⟨(some 15), (.iad 26 (.t 11) (.t 13)), none, 0, false, []⟩,
    ⟨(some 16), (.load true 26 (.t 15)), none, 0, false, []⟩,
    ⟨(some 9), (.new [(.int .i64 0), (.int .i64 0), (.int .i64 0), (.int .i64 0), (.int .i64 0), .nils, (.int .i64 0), (.int .i64 0), (.int .i64 0), (.int .i64 0), .nils, (.int .i64 0), (.int .i64 0), (.int .i64 0), (.int .i64 0), .nils, (.int .i64 0), (.int .i64 0), (.int .i64 0), (.int .i64 0), .nils, (.int .i64 0), (.int .i64 0), (.int .i64 0), (.int .i64 0), .nils]), none, 0, false, []⟩,
    ⟨none, (.store 26 (.t 9) (.t 16)), none, 0, false, []⟩] false
def a44_5 : AC := .reg [⟨(some 17), (.load true 26 (.t 9)), none, 0, false, []⟩,
    ⟨(some 18), (.call 79 [(.t 17)]), none, 0, false, []⟩,
    ⟨(some 19), (.fld false 0 1 (.t 18)), none, 0, false, []⟩,
    ⟨(some 20), (.bin 0 .eql (.t 19) (.c (.int .i64 0))), none, 0, false, []⟩] false
def a44_6 : AC := .reg [⟨(some 21), (.build [(.int .i64 0), (.int .i64 0), (.int .i64 0), (.int .i64 0), (.int .i64 0), .nils, (.int .i64 0), (.int .i64 0), (.int .i64 0), (.int .i64 0), .nils, (.int .i64 0), (.int .i64 0), (.int .i64 0), (.int .i64 0), .nils, (.int .i64 0), (.int .i64 0), (.int .i64 0), (.int .i64 0), .nils, (.int .i64 0), (.int .i64 0), (.int .i64 0), (.int .i64 0), .nils] []), none, 0, false, []⟩,
    ⟨none, (.store 26 (.t 6) (.t 21)), none, 0, false, []⟩,
    ⟨(some 7), (.mv (.c (.bool false))), none, 0, false, []⟩] false
def a44_7 : AC := .seq a44_6 .ret
def a44_8 : AC := .cond (.t 20) a44_7 .skip
def a44_9 : AC := .seq a44_5 a44_8
def a44_10 : AC := .seq a44_4 a44_9
def a44_11 : AC := .blk 1 a44_10
def a44_12 : AC := .reg [⟨(some 22), (.bin 0 .add (.t 13) (.c (.int .i64 1))), none, 0, false, []⟩,
    ⟨(some 13), (.mv (.t 22)), none, 0, false, []⟩] false
def a44_13 : AC := .seq a44_11 a44_12
def a44_14 : AC := .seq a44_3 a44_13
def a44_15 : AC := .seq a44_2 a44_14
def a44_16 : AC := .loop a44_15
def a44_17 : AC := .blk 0 a44_16
def a44_18 : AC := .seq a44_1 a44_17
def a44_19 : AC := .reg [⟨(some 23), (.load true 5 (.t 4)), none, 0, false, []⟩,
    ⟨(some 24), (.load true 5 (.t 5)), none, 1, false, []⟩,
    ⟨(some 25), (.call 24 [(.t 23), (.t 24)]), none, 2, false, []⟩,
    ⟨(some 26), (.un .not (.t 25)), none, 3, false, []⟩,
    ⟨(some 27), (.mv (.t 26)), none, 4, false, []⟩,
    ⟨(some 28), (.load true 5 (.t 4)), (some (27, false)), 5, false, []⟩,
    ⟨(some 29), (.call 80 [(.t 28)]), (some (27, false)), 6, false, []⟩,
    ⟨(some 30), (.mv (.t 0)), (some (27, false)), 7, false, []⟩,
    ⟨(some 31), (.len false (.t 30)), (some (27, false)), 8, false, []⟩,
    ⟨(some 32), (.bin 0 .gtr (.t 29) (.t 31)), (some (27, false)), 9, false, []⟩,
    ⟨(some 33), (.pick (.t 27) (.c (.bool true)) (.t 32)), none, 10, false, []⟩,
    ⟨(some 34), (.mv (.t 33)), none, 11, false, []⟩,
    ⟨(some 35), (.load true 5 (.t 5)), (some (34, false)), 12, false, []⟩,
    ⟨(some 36), (.call 80 [(.t 35)]), (some (34, false)), 13, false, []⟩,
    ⟨(some 37), (.mv (.t 0)), (some (34, false)), 14, false, []⟩,
    ⟨(some 38), (.len false (.t 37)), (some (34, false)), 15, false, []⟩,
    ⟨(some 39), (.bin 0 .gtr (.t 36) (.t 38)), (some (34, false)), 16, false, []⟩,
    ⟨(some 40), (.pick (.t 34) (.c (.bool true)) (.t 39)), none, 17, false, []⟩,
    ⟨(some 41), (.mv (.t 40)), none, 18, false, []⟩,
    ⟨(some 42), (.load true 5 (.t 4)), (some (41, false)), 19, true, []⟩,
    ⟨(some 43), (.call 28 []), (some (41, false)), 20, false, [19]⟩,
    ⟨(some 44), (.call 67 [(.t 42), (.t 43)]), (some (41, false)), 21, false, []⟩,
    ⟨(some 45), (.un .not (.t 44)), (some (41, false)), 22, false, []⟩,
    ⟨(some 46), (.pick (.t 41) (.c (.bool true)) (.t 45)), none, 23, false, []⟩,
    ⟨(some 47), (.mv (.t 46)), none, 24, false, []⟩,
    ⟨(some 48), (.load true 5 (.t 5)), (some (47, false)), 25, true, []⟩,
    ⟨(some 49), (.call 28 []), (some (47, false)), 26, false, [25]⟩,
    ⟨(some 50), (.call 67 [(.t 48), (.t 49)]), (some (47, false)), 27, false, []⟩,
    ⟨(some 51), (.un .not (.t 50)), (some (47, false)), 28, false, []⟩,
    ⟨(some 52), (.pick (.t 47) (.c (.bool true)) (.t 51)), none, 29, false, []⟩] true
def a44_20 : AC := .reg [⟨(some 53), (.build [(.int .i64 0), (.int .i64 0), (.int .i64 0), (.int .i64 0), (.int .i64 0), .nils, (.int .i64 0), (.int .i64 0), (.int .i64 0), (.int .i64 0), .nils, (.int .i64 0), (.int .i64 0), (.int .i64 0), (.int .i64 0), .nils, (.int .i64 0), (.int .i64 0), (.int .i64 0), (.int .i64 0), .nils, (.int .i64 0), (.int .i64 0), (.int .i64 0), (.int .i64 0), .nils] []), none, 0, false, []⟩,
    ⟨none, (.store 26 (.t 6) (.t 53)), none, 0, false, []⟩,
    ⟨(some 7), (.mv (.c (.bool false))), none, 0, false, []⟩] false
def a44_21 : AC := .seq a44_20 .ret
def a44_22 : AC := .cond (.t 52) a44_21 .skip
def a44_23 : AC := .seq a44_19 a44_22
def a44_24 : AC := .reg [⟨(some 54), (.mv (.t 0)), none, 0, false, []⟩,
    ⟨(some 55), (.load true 5 (.t 4)), none, 0, false, []⟩,
    ⟨(some 56), (.load true 5 (.t 5)), none, 0, false, []⟩,
    ⟨(some 57), (.call 81 [(.t 54), (.t 55), (.t 56)]), none, 0, false, []⟩,
    ⟨(some 10), (.new [(.int .i64 0), (.int .i64 0), (.int .i64 0), (.int .i64 0), (.int .i64 0), .nils, (.int .i64 0), (.int .i64 0), (.int .i64 0), (.int .i64 0), .nils, (.int .i64 0), (.int .i64 0), (.int .i64 0), (.int .i64 0), .nils, (.int .i64 0), (.int .i64 0), (.int .i64 0), (.int .i64 0), .nils, (.int .i64 0), (.int .i64 0), (.int .i64 0), (.int .i64 0), .nils]), none, 0, false, []⟩,
    ⟨none, (.store 26 (.t 10) (.t 57)), none, 0, false, []⟩] false
def a44_25 : AC := .reg [⟨(some 58), (.fad 0 (.t 10)), none, 0, false, []⟩,
    ⟨(some 59), (.load false 1 (.t 58)), none, 1, true, []⟩,
    ⟨(some 60), (.fad 1 (.t 10)), none, 2, false, []⟩,
    ⟨(some 61), (.load true 5 (.t 60)), none, 3, false, []⟩,
    ⟨(some 62), (.call 34 [(.t 61)]), none, 4, true, [1]⟩,
    ⟨(some 63), (.fad 6 (.t 10)), none, 5, false, []⟩,
    ⟨(some 64), (.load true 5 (.t 63)), none, 6, false, [4]⟩,
    ⟨(some 65), (.call 34 [(.t 64)]), none, 7, true, [1]⟩,
    ⟨(some 66), (.fad 11 (.t 10)), none, 8, false, []⟩,
    ⟨(some 67), (.load true 5 (.t 66)), none, 9, false, [4, 7]⟩,
    ⟨(some 68), (.call 34 [(.t 67)]), none, 10, true, [1]⟩,
    ⟨(some 69), (.fad 16 (.t 10)), none, 11, false, []⟩,
    ⟨(some 70), (.load true 5 (.t 69)), none, 12, false, [4, 7, 10]⟩,
    ⟨(some 71), (.call 34 [(.t 70)]), none, 13, true, [1]⟩,
    ⟨(some 72), (.fad 21 (.t 10)), none, 14, false, []⟩,
    ⟨(some 73), (.load true 5 (.t 72)), none, 15, false, [4, 7, 10, 13]⟩,
    ⟨(some 74), (.call 34 [(.t 73)]), none, 16, false, [1]⟩,
    ⟨(some 75), (.build [(.int .i64 0), (.int .i64 0), (.int .i64 0), (.int .i64 0), (.int .i64 0), .nils, (.int .i64 0), (.int .i64 0), (.int .i64 0), (.int .i64 0), .nils, (.int .i64 0), (.int .i64 0), (.int .i64 0), (.int .i64 0), .nils, (.int .i64 0), (.int .i64 0), (.int .i64 0), (.int .i64 0), .nils, (.int .i64 0), (.int .i64 0), (.int .i64 0), (.int .i64 0), .nils] [(0, (1, (.t 59))), (1, (5, (.t 62))), (6, (5, (.t 65))), (11, (5, (.t 68))), (16, (5, (.t 71))), (21, (5, (.t 74)))]), none, 17, false, []⟩,
    ⟨none, (.store 26 (.t 6) (.t 75)), none, 18, false, []⟩,
    ⟨(some 7), (.mv (.c (.bool true))), none, 19, false, []⟩] true
def a44_26 : AC := .seq a44_25 .ret
def a44_27 : AC := .seq a44_24 a44_26
def a44_28 : AC := .seq a44_23 a44_27
def a44_29 : AC := .seq a44_18 a44_28
def a44_30 : AC := .seq a44_0 a44_29
def af44 : AF := { ntmps := 76, res := [(.cell 6 true 26), (.t 7)], body := a44_30 }
theorem tr44 : trF Tryz.prog Tryz.f44 = some af44 := by kernel_rfl
attribute [go_sem] af44 a44_0 a44_1 a44_2 a44_3 a44_4 a44_5 a44_6 a44_7 a44_8 a44_9 a44_10 a44_11 a44_12 a44_13 a44_14 a44_15 a44_16 a44_17 a44_18 a44_19 a44_20 a44_21 a44_22 a44_23 a44_24 a44_25 a44_26 a44_27 a44_28 a44_29 a44_30
end Go.Proofs.YtkldipbhenabfaaGreat.Abs

