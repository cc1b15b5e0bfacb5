/- The abstract code of functions, printed by program; that it is the translation of the model's code is decided by the kernel. -/
import Derived.Test.YtkldipbhenabfaaGreatREv
import Derived.Test.YtkldipbhenabfaaGreatProg
import Derived.KernelRfl
namespace Go.Proofs.YtkldipbhenabfaaGreat.Abs
open Go Go.Proofs Go.Proofs.YtkldipbhenabfaaGreat
def a117_0 : AC := .reg [⟨(some 1), (.box (.t 0)), none, 0, false, []⟩,
    ⟨(some 2), (.mv (.c (.bool false))), none, 0, false, []⟩] false
def a117_1 : AC := .reg [⟨(some 3), (.load true 5 (.t 1)), none, 0, false, []⟩,
    ⟨(some 4), (.call 96 [(.t 3), (.c (.int .i64 2))]), none, 0, false, []⟩,
    ⟨(some 2), (.mv (.t 4)), none, 0, false, []⟩] false
def a117_2 : AC := .seq a117_1 .ret
def a117_3 : AC := .seq a117_0 a117_2
def af117 : AF := { ntmps := 5, res := [(.t 2)], body := a117_3 }
theorem tr117 : trF Tryz.prog Tryz.f117 = some af117 := by kernel_rfl
attribute [go_sem] af117 a117_0 a117_1 a117_2 a117_3
def a88_0 : AC := .reg [⟨(some 1), (.box (.t 0)), none, 0, false, []⟩,
    ⟨(some 2), (.mv (.c (.bool false))), none, 0, false, []⟩] false
def a88_1 : AC := .reg [⟨(some 3), (.load true 5 (.t 1)), none, 0, false, []⟩,
    ⟨(some 4), (.call 96 [(.t 3), (.c (.int .i64 0))]), none, 0, false, []⟩,
    ⟨(some 2), (.mv (.t 4)), none, 0, false, []⟩] false
def a88_2 : AC := .seq a88_1 .ret
def a88_3 : AC := .seq a88_0 a88_2
def af88 : AF := { ntmps := 5, res := [(.t 2)], body := a88_3 }
theorem tr88 : trF Tryz.prog Tryz.f88 = some af88 := by kernel_rfl
attribute [go_sem] af88 a88_0 a88_1 a88_2 a88_3
def a96_0 : AC := .reg [⟨(some 2), (.box (.t 0)), none, 0, false, []⟩,
    ⟨(some 4), (.mv (.c (.bool false))), none, 0, false, []⟩] false
def a96_1 : AC := .reg [⟨(some 9), (.fad 0 (.t 2)), none, 0, false, []⟩,
    ⟨(some 10), (.load false 1 (.t 9)), none, 0, false, []⟩,
    ⟨(some 11), (.call 120 [(.t 10)]), none, 0, false, []⟩,
    ⟨(some 5), (.mv (.t 11)), none, 0, false, []⟩] false
def a96_2 : AC := .reg [⟨(some 12), (.mv (.t 1)), none, 0, false, []⟩,
    ⟨(some 13), (.bin 0 .neq (.t 12) (.c (.int .i64 0))), none, 0, false, []⟩,
    ⟨(some 14), (.mv (.t 13)), none, 0, false, []⟩,
    ⟨(some 15), (.mv (.t 5)), (some (14, true)), 0, false, []⟩,
    ⟨(some 16), (.bin 0 .neq (.t 15) (.c (.int .i64 0))), (some (14, true)), 0, false, []⟩,
    ⟨(some 17), (.pick (.t 14) (.t 16) (.c (.bool false))), none, 0, false, []⟩,
    ⟨(some 18), (.mv (.t 17)), none, 0, false, []⟩,
    ⟨(some 19), (.mv (.t 5)), (some (18, true)), 0, false, []⟩,
    ⟨(some 20), (.mv (.t 1)), (some (18, true)), 0, false, []⟩,
    ⟨(some 21), (.bin 0 .neq (.t 19) (.t 20)), (some (18, true)), 0, false, []⟩,
    ⟨(some 22), (.pick (.t 18) (.t 21) (.c (.bool false))), none, 0, false, []⟩] false
def a96_3 : AC := .reg [⟨(some 4), (.mv (.c (.bool false))), none, 0, false, []⟩] false
def a96_4 : AC := .seq a96_3 .ret
def a96_5 : AC := .cond (.t 22) a96_4 .skip
def a96_6 : AC := .seq a96_2 a96_5
def a96_7 : AC := .reg [⟨(some 23), (.fad 4 (.t 2)), none, 0, false, []⟩,
    ⟨(some 24), (.load false 1 (.t 23)), none, 1, true, []⟩,
    ⟨(some 25), (.len false (.t 24)), none, 2, false, []⟩,
    ⟨(some 26), (.fad 0 (.t 2)), none, 3, false, []⟩,
    ⟨(some 27), (.load false 1 (.t 26)), none, 4, false, []⟩,
    ⟨(some 28), (.fad 3 (.t 2)), none, 5, false, []⟩,
    ⟨(some 29), (.load false 1 (.t 28)), none, 6, false, []⟩,
    ⟨(some 30), (.call 121 [(.t 27), (.t 29)]), none, 7, false, [1]⟩,
    ⟨(some 31), (.bin 0 .neq (.t 25) (.t 30)), none, 8, false, []⟩,
    ⟨(some 32), (.mv (.t 31)), none, 9, false, []⟩,
    ⟨(some 33), (.load true 5 (.t 2)), (some (32, false)), 10, false, []⟩,
    ⟨(some 34), (.call 122 [(.t 33)]), (some (32, false)), 11, false, []⟩,
    ⟨(some 35), (.un .not (.t 34)), (some (32, false)), 12, false, []⟩,
    ⟨(some 36), (.pick (.t 32) (.c (.bool true)) (.t 35)), none, 13, false, []⟩] true
def a96_8 : AC := .reg [⟨(some 4), (.mv (.c (.bool false))), none, 0, false, []⟩] false
def a96_9 : AC := .seq a96_8 .ret
def a96_10 : AC := .cond (.t 36) a96_9 .skip
def a96_11 : AC := .seq a96_7 a96_10
def a96_12 : AC := .reg [⟨(some 37), (.fad 4 (.t 2)), none, 0, false, []⟩,
    ⟨(some 38), (.load false 1 (.t 37)), none, 0, false, []⟩,
    ⟨(some 39), (.len false (.t 38)), none, 0, false, []⟩,
    ⟨(some 40), (.mv (.c (.int .i64 0))), none, 0, false, []⟩] false
def a96_13 : AC := .reg [⟨(some 41), (.bin 0 .lss (.t 40) (.t 39)), none, 0, false, []⟩] false
def a96_14 : AC := .cond (.t 41) .skip (.exit 0)
def a96_15 : AC := .reg [⟨(some 42), (.mv (.t 40)), none, 0, false, []⟩,
    ⟨(some 43), (.iad 5 (.t 38) (.t 40)), none, 0, false, []⟩,
    ⟨(some 44), (.load true 5 (.t 43)), none, 0, false, []⟩,
    ⟨(some 7), (.new [(.int .i64 0), (.int .i64 0), (.int .i64 0), (.int .i64 0), .nils]), none, 0, false, []⟩,
    ⟨(some 6), (.mv (.t 42)), none, 0, false, []⟩,
    ⟨none, (.store 5 (.t 7) (.t 44)), none, 0, false, []⟩] false
def a96_16 : AC := .reg [⟨(some 45), (.mv (.t 5)), none, 0, false, []⟩,
    ⟨(some 8), (.mv (.t 45)), none, 0, false, []⟩] false
def a96_17 : AC := .reg [⟨(some 46), (.fad 0 (.t 2)), none, 0, false, []⟩,
    ⟨(some 47), (.load false 1 (.t 46)), none, 0, false, []⟩,
    ⟨(some 48), (.bin 0 .eql (.t 47) (.c (.int .i64 12))), none, 0, false, []⟩,
    ⟨(some 49), (.mv (.t 48)), none, 0, false, []⟩,
    ⟨(some 50), (.mv (.t 6)), (some (49, true)), 0, false, []⟩,
    ⟨(some 51), (.bin 0 .eql (.t 50) (.c (.int .i64 2))), (some (49, true)), 0, false, []⟩,
    ⟨(some 52), (.pick (.t 49) (.t 51) (.c (.bool false))), none, 0, false, []⟩] false
def a96_18 : AC := .reg [⟨(some 8), (.mv (.c (.int .i64 2))), none, 0, false, []⟩] false
def a96_19 : AC := .cond (.t 52) a96_18 .skip
def a96_20 : AC := .seq a96_17 a96_19
def a96_21 : AC := .reg [⟨(some 53), (.load true 5 (.t 7)), none, 0, false, []⟩,
    ⟨(some 54), (.mv (.t 8)), none, 0, false, []⟩,
    ⟨(some 55), (.call 96 [(.t 53), (.t 54)]), none, 0, false, []⟩,
    ⟨(some 56), (.un .not (.t 55)), none, 0, false, []⟩] false
def a96_22 : AC := .reg [⟨(some 4), (.mv (.c (.bool false))), none, 0, false, []⟩] false
def a96_23 : AC := .seq a96_22 .ret
def a96_24 : AC := .cond (.t 56) a96_23 .skip
def a96_25 : AC := .seq a96_21 a96_24
def a96_26 : AC := .seq a96_20 a96_25
def a96_27 : AC := .seq a96_16 a96_26
def a96_28 : AC := .seq a96_15 a96_27
def a96_29 : AC := .blk 1 a96_28
def a96_30 : AC := .reg [⟨(some 57), (.bin 0 .add (.t 40) (.c (.int .i64 1))), none, 0, false, []⟩,
    ⟨(some 40), (.mv (.t 57)), none, 0, false, []⟩] false
def a96_31 : AC := .seq a96_29 a96_30
def a96_32 : AC := .seq a96_14 a96_31
def a96_33 : AC := .seq a96_13 a96_32
def a96_34 : AC := .loop a96_33
def a96_35 : AC := .blk 0 a96_34
def a96_36 : AC := .seq a96_12 a96_35
def a96_37 : AC := .reg [⟨(some 4), (.mv (.c (.bool true))), none, 0, false, []⟩] false
def a96_38 : AC := .seq a96_37 .ret
def a96_39 : AC := .seq a96_36 a96_38
def a96_40 : AC := .seq a96_11 a96_39
def a96_41 : AC := .seq a96_6 a96_40
def a96_42 : AC := .seq a96_1 a96_41
def a96_43 : AC := .seq a96_0 a96_42
def af96 : AF := { ntmps := 58, res := [(.t 4)], body := a96_43 }
theorem tr96 : trF Tryz.prog Tryz.f96 = some af96 := by kernel_rfl
attribute [go_sem] af96 a96_0 a96_1 a96_2 a96_3 a96_4 a96_5 a96_6 a96_7 a96_8 a96_9 a96_10 a96_11 a96_12 a96_13 a96_14 a96_15 a96_16 a96_17 a96_18 a96_19 a96_20 a96_21 a96_22 a96_23 a96_24 a96_25 a96_26 a96_27 a96_28 a96_29 a96_30 a96_31 a96_32 a96_33 a96_34 a96_35 a96_36 a96_37 a96_38 a96_39 a96_40 a96_41 a96_42 a96_43
def a120_0 : AC := .reg [⟨(some 2), (.mv (.c (.int .i64 0))), none, 0, false, []⟩] false
def a120_1 : AC := .reg [⟨(some 4), (.mv (.t 0)), none, 0, false, []⟩,
    ⟨(some 5), (.bin 0 .eql (.t 4) (.c (.int .i64 1))), none, 0, false, []⟩,
    ⟨(some 6), (.mv (.t 5)), none, 0, false, []⟩,
    ⟨(some 7), (.mv (.t 0)), (some (6, false)), 0, false, []⟩,
    ⟨(some 8), (.bin 0 .eql (.t 7) (.c (.int .i64 2))), (some (6, false)), 0, false, []⟩,
    ⟨(some 9), (.pick (.t 6) (.c (.bool true)) (.t 8)), none, 0, false, []⟩,
    ⟨(some 3), (.mv (.t 9)), none, 0, false, []⟩] false
def a120_2 : AC := .reg [⟨(some 2), (.mv (.c (.int .i64 0))), none, 0, false, []⟩] false
def a120_3 : AC := .seq a120_2 .ret
def a120_4 : AC := .reg [⟨(some 11), (.mv (.t 0)), none, 0, false, []⟩,
    ⟨(some 12), (.bin 0 .leq (.t 11) (.c (.int .i64 12))), none, 0, false, []⟩,
    ⟨(some 10), (.mv (.t 12)), none, 0, false, []⟩] false
def a120_5 : AC := .reg [⟨(some 2), (.mv (.c (.int .i64 1))), none, 0, false, []⟩] false
def a120_6 : AC := .seq a120_5 .ret
def a120_7 : AC := .cond (.t 10) a120_6 .skip
def a120_8 : AC := .seq a120_4 a120_7
def a120_9 : AC := .cond (.t 3) a120_3 a120_8
def a120_10 : AC := .seq a120_1 a120_9
def a120_11 : AC := .blk 0 a120_10
def a120_12 : AC := .reg [⟨(some 2), (.mv (.c (.int .i64 2))), none, 0, false, []⟩] false
def a120_13 : AC := .seq a120_12 .ret
def a120_14 : AC := .seq a120_11 a120_13
def a120_15 : AC := .seq a120_0 a120_14
def af120 : AF := { ntmps := 13, res := [(.t 2)], body := a120_15 }
theorem tr120 : trF Tryz.prog Tryz.f120 = some af120 := by kernel_rfl
attribute [go_sem] af120 a120_0 a120_1 a120_2 a120_3 a120_4 a120_5 a120_6 a120_7 a120_8 a120_9 a120_10 a120_11 a120_12 a120_13 a120_14 a120_15
def a121_0 : AC := .reg [⟨(some 4), (.mv (.c (.int .i64 0))), none, 0, false, []⟩] false
def a121_1 : AC := .reg [⟨(some 5), (.mv (.t 0)), none, 0, false, []⟩] false
def a121_2 : AC := .reg [⟨(some 7), (.bin 0 .eql (.t 5) (.c (.int .i64 1))), none, 0, false, []⟩,
    ⟨(some 6), (.mv (.t 7)), none, 0, false, []⟩] false
def a121_3 : AC := .reg [⟨(some 8), (.bin 0 .eql (.t 5) (.c (.int .i64 2))), none, 0, false, []⟩,
    ⟨(some 6), (.mv (.t 8)), none, 0, false, []⟩] false
def a121_4 : AC := .cond (.t 6) .skip a121_3
def a121_5 : AC := .seq a121_2 a121_4
def a121_6 : AC := .reg [⟨(some 4), (.mv (.c (.int .i64 0))), none, 0, false, []⟩] false
def a121_7 : AC := .seq a121_6 .ret
def a121_8 : AC := .reg [⟨(some 10), (.bin 0 .eql (.t 5) (.c (.int .i64 18))), none, 0, false, []⟩,
    ⟨(some 9), (.mv (.t 10)), none, 0, false, []⟩] false
def a121_9 : AC := .reg [⟨(some 11), (.bin 0 .eql (.t 5) (.c (.int .i64 19))), none, 0, false, []⟩,
    ⟨(some 9), (.mv (.t 11)), none, 0, false, []⟩] false
def a121_10 : AC := .cond (.t 9) .skip a121_9
def a121_11 : AC := .seq a121_8 a121_10
def a121_12 : AC := .reg [⟨(some 4), (.mv (.c (.int .i64 1))), none, 0, false, []⟩] false
def a121_13 : AC := .seq a121_12 .ret
def a121_14 : AC := .reg [⟨(some 13), (.bin 0 .eql (.t 5) (.c (.int .i64 3))), none, 0, false, []⟩,
    ⟨(some 12), (.mv (.t 13)), none, 0, false, []⟩] false
def a121_15 : AC := .reg [⟨(some 14), (.bin 0 .eql (.t 5) (.c (.int .i64 6))), none, 0, false, []⟩,
    ⟨(some 12), (.mv (.t 14)), none, 0, false, []⟩] false
def a121_16 : AC := .reg [⟨(some 15), (.bin 0 .eql (.t 5) (.c (.int .i64 13))), none, 0, false, []⟩,
    ⟨(some 12), (.mv (.t 15)), none, 0, false, []⟩] false
def a121_17 : AC := .reg [⟨(some 16), (.bin 0 .eql (.t 5) (.c (.int .i64 14))), none, 0, false, []⟩,
    ⟨(some 12), (.mv (.t 16)), none, 0, false, []⟩] false
def a121_18 : AC := .reg [⟨(some 17), (.bin 0 .eql (.t 5) (.c (.int .i64 15))), none, 0, false, []⟩,
    ⟨(some 12), (.mv (.t 17)), none, 0, false, []⟩] false
def a121_19 : AC := .reg [⟨(some 18), (.bin 0 .eql (.t 5) (.c (.int .i64 16))), none, 0, false, []⟩,
    ⟨(some 12), (.mv (.t 18)), none, 0, false, []⟩] false
def a121_20 : AC := .reg [⟨(some 19), (.bin 0 .eql (.t 5) (.c (.int .i64 21))), none, 0, false, []⟩,
    ⟨(some 12), (.mv (.t 19)), none, 0, false, []⟩] false
def a121_21 : AC := .reg [⟨(some 20), (.bin 0 .eql (.t 5) (.c (.int .i64 11))), none, 0, false, []⟩,
    ⟨(some 12), (.mv (.t 20)), none, 0, false, []⟩] false
def a121_22 : AC := .cond (.t 12) .skip a121_21
def a121_23 : AC := .seq a121_20 a121_22
def a121_24 : AC := .cond (.t 12) .skip a121_23
def a121_25 : AC := .seq a121_19 a121_24
def a121_26 : AC := .cond (.t 12) .skip a121_25
def a121_27 : AC := .seq a121_18 a121_26
def a121_28 : AC := .cond (.t 12) .skip a121_27
def a121_29 : AC := .seq a121_17 a121_28
def a121_30 : AC := .cond (.t 12) .skip a121_29
def a121_31 : AC := .seq a121_16 a121_30
def a121_32 : AC := .cond (.t 12) .skip a121_31
def a121_33 : AC := .seq a121_15 a121_32
def a121_34 : AC := .cond (.t 12) .skip a121_33
def a121_35 : AC := .seq a121_14 a121_34
def a121_36 : AC := .reg [⟨(some 4), (.mv (.c (.int .i64 2))), none, 0, false, []⟩] false
def a121_37 : AC := .seq a121_36 .ret
def a121_38 : AC := .reg [⟨(some 22), (.bin 0 .eql (.t 5) (.c (.int .i64 4))), none, 0, false, []⟩,
    ⟨(some 21), (.mv (.t 22)), none, 0, false, []⟩] false
def a121_39 : AC := .reg [⟨(some 23), (.bin 0 .eql (.t 5) (.c (.int .i64 8))), none, 0, false, []⟩,
    ⟨(some 21), (.mv (.t 23)), none, 0, false, []⟩] false
def a121_40 : AC := .reg [⟨(some 24), (.bin 0 .eql (.t 5) (.c (.int .i64 9))), none, 0, false, []⟩,
    ⟨(some 21), (.mv (.t 24)), none, 0, false, []⟩] false
def a121_41 : AC := .reg [⟨(some 25), (.bin 0 .eql (.t 5) (.c (.int .i64 10))), none, 0, false, []⟩,
    ⟨(some 21), (.mv (.t 25)), none, 0, false, []⟩] false
def a121_42 : AC := .reg [⟨(some 26), (.bin 0 .eql (.t 5) (.c (.int .i64 20))), none, 0, false, []⟩,
    ⟨(some 21), (.mv (.t 26)), none, 0, false, []⟩] false
def a121_43 : AC := .cond (.t 21) .skip a121_42
def a121_44 : AC := .seq a121_41 a121_43
def a121_45 : AC := .cond (.t 21) .skip a121_44
def a121_46 : AC := .seq a121_40 a121_45
def a121_47 : AC := .cond (.t 21) .skip a121_46
def a121_48 : AC := .seq a121_39 a121_47
def a121_49 : AC := .cond (.t 21) .skip a121_48
def a121_50 : AC := .seq a121_38 a121_49
def a121_51 : AC := .reg [⟨(some 4), (.mv (.c (.int .i64 3))), none, 0, false, []⟩] false
def a121_52 : AC := .seq a121_51 .ret
def a121_53 : AC := .reg [⟨(some 28), (.bin 0 .eql (.t 5) (.c (.int .i64 5))), none, 0, false, []⟩,
    ⟨(some 27), (.mv (.t 28)), none, 0, false, []⟩] false
def a121_54 : AC := .reg [⟨(some 29), (.bin 0 .eql (.t 5) (.c (.int .i64 7))), none, 0, false, []⟩,
    ⟨(some 27), (.mv (.t 29)), none, 0, false, []⟩] false
def a121_55 : AC := .reg [⟨(some 30), (.bin 0 .eql (.t 5) (.c (.int .i64 12))), none, 0, false, []⟩,
    ⟨(some 27), (.mv (.t 30)), none, 0, false, []⟩] false
def a121_56 : AC := .reg [⟨(some 31), (.bin 0 .eql (.t 5) (.c (.int .i64 17))), none, 0, false, []⟩,
    ⟨(some 27), (.mv (.t 31)), none, 0, false, []⟩] false
def a121_57 : AC := .cond (.t 27) .skip a121_56
def a121_58 : AC := .seq a121_55 a121_57
def a121_59 : AC := .cond (.t 27) .skip a121_58
def a121_60 : AC := .seq a121_54 a121_59
def a121_61 : AC := .cond (.t 27) .skip a121_60
def a121_62 : AC := .seq a121_53 a121_61
def a121_63 : AC := .reg [⟨(some 4), (.mv (.c (.int .i64 4))), none, 0, false, []⟩] false
def a121_64 : AC := .seq a121_63 .ret
def a121_65 : AC := .reg [⟨(some 33), (.bin 0 .eql (.t 5) (.c (.int .i64 22))), none, 0, false, []⟩,
    ⟨(some 32), (.mv (.t 33)), none, 0, false, []⟩] false
def a121_66 : AC := .reg [⟨(some 4), (.mv (.c (.int .i64 6))), none, 0, false, []⟩] false
def a121_67 : AC := .seq a121_66 .ret
def a121_68 : AC := .reg [⟨(some 35), (.bin 0 .eql (.t 5) (.c (.int .i64 23))), none, 0, false, []⟩,
    ⟨(some 34), (.mv (.t 35)), none, 0, false, []⟩] false
def a121_69 : AC := .reg [⟨(some 36), (.mv (.t 1)), none, 0, false, []⟩,
    ⟨(some 37), (.call 142 [(.t 36)]), none, 0, false, []⟩,
    ⟨(some 4), (.mv (.t 37)), none, 0, false, []⟩] false
def a121_70 : AC := .seq a121_69 .ret
def a121_71 : AC := .cond (.t 34) a121_70 .skip
def a121_72 : AC := .seq a121_68 a121_71
def a121_73 : AC := .cond (.t 32) a121_67 a121_72
def a121_74 : AC := .seq a121_65 a121_73
def a121_75 : AC := .cond (.t 27) a121_64 a121_74
def a121_76 : AC := .seq a121_62 a121_75
def a121_77 : AC := .cond (.t 21) a121_52 a121_76
def a121_78 : AC := .seq a121_50 a121_77
def a121_79 : AC := .cond (.t 12) a121_37 a121_78
def a121_80 : AC := .seq a121_35 a121_79
def a121_81 : AC := .cond (.t 9) a121_13 a121_80
def a121_82 : AC := .seq a121_11 a121_81
def a121_83 : AC := .cond (.t 6) a121_7 a121_82
def a121_84 : AC := .seq a121_5 a121_83
def a121_85 : AC := .blk 0 a121_84
def a121_86 : AC := .seq a121_1 a121_85
def a121_87 : AC := .reg [⟨(some 4), (.mv (.c (.int .i64 (-1)))), none, 0, false, []⟩] false
def a121_88 : AC := .seq a121_87 .ret
def a121_89 : AC := .seq a121_86 a121_88
def a121_90 : AC := .seq a121_0 a121_89
def af121 : AF := { ntmps := 38, res := [(.t 4)], body := a121_90 }
theorem tr121 : trF Tryz.prog Tryz.f121 = some af121 := by kernel_rfl
attribute [go_sem] af121 a121_0 a121_1 a121_2 a121_3 a121_4 a121_5 a121_6 a121_7 a121_8 a121_9 a121_10 a121_11 a121_12 a121_13 a121_14 a121_15 a121_16 a121_17 a121_18 a121_19 a121_20 a121_21 a121_22 a121_23 a121_24 a121_25 a121_26 a121_27 a121_28 a121_29 a121_30 a121_31 a121_32 a121_33 a121_34 a121_35 a121_36 a121_37 a121_38 a121_39 a121_40 a121_41 a121_42 a121_43 a121_44 a121_45 a121_46 a121_47 a121_48 a121_49 a121_50 a121_51 a121_52 a121_53 a121_54 a121_55 a121_56 a121_57 a121_58 a121_59 a121_60 a121_61 a121_62 a121_63 a121_64 a121_65 a121_66 a121_67 a121_68 a121_69 a121_70 a121_71 a121_72 a121_73 a121_74 a121_75 a121_76 a121_77 a121_78 a121_79 a121_80 a121_81 a121_82 a121_83 a121_84 a121_85 a121_86 a121_87 a121_88 a121_89 a121_90
def a122_0 : AC := .reg [⟨(some 1), (.box (.t 0)), none, 0, false, []⟩,
    ⟨(some 2), (.mv (.c (.bool false))), none, 0, false, []⟩] false
def a122_1 : AC := .reg [⟨(some 3), (.fad 0 (.t 1)), none, 0, false, []⟩,
    ⟨(some 4), (.load false 1 (.t 3)), none, 0, false, []⟩] false
def a122_2 : AC := .reg [⟨(some 6), (.bin 0 .eql (.t 4) (.c (.int .i64 1))), none, 0, false, []⟩,
    ⟨(some 5), (.mv (.t 6)), none, 0, false, []⟩] false
def a122_3 : AC := .reg [⟨(some 7), (.bin 0 .eql (.t 4) (.c (.int .i64 10))), none, 0, false, []⟩,
    ⟨(some 5), (.mv (.t 7)), none, 0, false, []⟩] false
def a122_4 : AC := .reg [⟨(some 8), (.bin 0 .eql (.t 4) (.c (.int .i64 11))), none, 0, false, []⟩,
    ⟨(some 5), (.mv (.t 8)), none, 0, false, []⟩] false
def a122_5 : AC := .reg [⟨(some 9), (.bin 0 .eql (.t 4) (.c (.int .i64 12))), none, 0, false, []⟩,
    ⟨(some 5), (.mv (.t 9)), none, 0, false, []⟩] false
def a122_6 : AC := .cond (.t 5) .skip a122_5
def a122_7 : AC := .seq a122_4 a122_6
def a122_8 : AC := .cond (.t 5) .skip a122_7
def a122_9 : AC := .seq a122_3 a122_8
def a122_10 : AC := .cond (.t 5) .skip a122_9
def a122_11 : AC := .seq a122_2 a122_10
def a122_12 : AC := .reg [⟨(some 10), (.fad 1 (.t 1)), none, 0, false, []⟩,
    ⟨(some 11), (.load false 1 (.t 10)), none, 0, false, []⟩,
    ⟨(some 12), (.call 143 [(.t 11)]), none, 0, false, []⟩,
    ⟨(some 13), (.mv (.t 12)), none, 0, false, []⟩,
    ⟨(some 14), (.fad 2 (.t 1)), (some (13, true)), 0, false, []⟩,
    ⟨(some 15), (.load false 1 (.t 14)), (some (13, true)), 0, false, []⟩,
    ⟨(some 16), (.bin 0 .eql (.t 15) (.c (.int .i64 0))), (some (13, true)), 0, false, []⟩,
    ⟨(some 17), (.pick (.t 13) (.t 16) (.c (.bool false))), none, 0, false, []⟩,
    ⟨(some 18), (.mv (.t 17)), none, 0, false, []⟩,
    ⟨(some 19), (.fad 3 (.t 1)), (some (18, true)), 0, false, []⟩,
    ⟨(some 20), (.load false 1 (.t 19)), (some (18, true)), 0, false, []⟩,
    ⟨(some 21), (.bin 0 .eql (.t 20) (.c (.int .i64 0))), (some (18, true)), 0, false, []⟩,
    ⟨(some 22), (.pick (.t 18) (.t 21) (.c (.bool false))), none, 0, false, []⟩,
    ⟨(some 2), (.mv (.t 22)), none, 0, false, []⟩] false
def a122_13 : AC := .seq a122_12 .ret
def a122_14 : AC := .reg [⟨(some 24), (.bin 0 .eql (.t 4) (.c (.int .i64 2))), none, 0, false, []⟩,
    ⟨(some 23), (.mv (.t 24)), none, 0, false, []⟩] false
def a122_15 : AC := .reg [⟨(some 25), (.fad 1 (.t 1)), none, 0, false, []⟩,
    ⟨(some 26), (.load false 1 (.t 25)), none, 0, false, []⟩,
    ⟨(some 27), (.bin 0 .geq (.t 26) (.c (.int .i64 0))), none, 0, false, []⟩,
    ⟨(some 28), (.mv (.t 27)), none, 0, false, []⟩,
    ⟨(some 29), (.fad 1 (.t 1)), (some (28, true)), 0, false, []⟩,
    ⟨(some 30), (.load false 1 (.t 29)), (some (28, true)), 0, false, []⟩,
    ⟨(some 31), (.bin 0 .leq (.t 30) (.c (.int .i64 2147483647))), (some (28, true)), 0, false, []⟩,
    ⟨(some 32), (.pick (.t 28) (.t 31) (.c (.bool false))), none, 0, false, []⟩,
    ⟨(some 33), (.mv (.t 32)), none, 0, false, []⟩,
    ⟨(some 34), (.fad 2 (.t 1)), (some (33, true)), 0, false, []⟩,
    ⟨(some 35), (.load false 1 (.t 34)), (some (33, true)), 0, false, []⟩,
    ⟨(some 36), (.bin 0 .eql (.t 35) (.c (.int .i64 0))), (some (33, true)), 0, false, []⟩,
    ⟨(some 37), (.pick (.t 33) (.t 36) (.c (.bool false))), none, 0, false, []⟩,
    ⟨(some 38), (.mv (.t 37)), none, 0, false, []⟩,
    ⟨(some 39), (.fad 3 (.t 1)), (some (38, true)), 0, false, []⟩,
    ⟨(some 40), (.load false 1 (.t 39)), (some (38, true)), 0, false, []⟩,
    ⟨(some 41), (.bin 0 .eql (.t 40) (.c (.int .i64 0))), (some (38, true)), 0, false, []⟩,
    ⟨(some 42), (.pick (.t 38) (.t 41) (.c (.bool false))), none, 0, false, []⟩,
    ⟨(some 2), (.mv (.t 42)), none, 0, false, []⟩] false
def a122_16 : AC := .seq a122_15 .ret
def a122_17 : AC := .reg [⟨(some 44), (.bin 0 .eql (.t 4) (.c (.int .i64 3))), none, 0, false, []⟩,
    ⟨(some 43), (.mv (.t 44)), none, 0, false, []⟩] false
def a122_18 : AC := .reg [⟨(some 45), (.bin 0 .eql (.t 4) (.c (.int .i64 4))), none, 0, false, []⟩,
    ⟨(some 43), (.mv (.t 45)), none, 0, false, []⟩] false
def a122_19 : AC := .reg [⟨(some 46), (.bin 0 .eql (.t 4) (.c (.int .i64 5))), none, 0, false, []⟩,
    ⟨(some 43), (.mv (.t 46)), none, 0, false, []⟩] false
def a122_20 : AC := .reg [⟨(some 47), (.bin 0 .eql (.t 4) (.c (.int .i64 6))), none, 0, false, []⟩,
    ⟨(some 43), (.mv (.t 47)), none, 0, false, []⟩] false
def a122_21 : AC := .reg [⟨(some 48), (.bin 0 .eql (.t 4) (.c (.int .i64 7))), none, 0, false, []⟩,
    ⟨(some 43), (.mv (.t 48)), none, 0, false, []⟩] false
def a122_22 : AC := .reg [⟨(some 49), (.bin 0 .eql (.t 4) (.c (.int .i64 8))), none, 0, false, []⟩,
    ⟨(some 43), (.mv (.t 49)), none, 0, false, []⟩] false
def a122_23 : AC := .reg [⟨(some 50), (.bin 0 .eql (.t 4) (.c (.int .i64 9))), none, 0, false, []⟩,
    ⟨(some 43), (.mv (.t 50)), none, 0, false, []⟩] false
def a122_24 : AC := .cond (.t 43) .skip a122_23
def a122_25 : AC := .seq a122_22 a122_24
def a122_26 : AC := .cond (.t 43) .skip a122_25
def a122_27 : AC := .seq a122_21 a122_26
def a122_28 : AC := .cond (.t 43) .skip a122_27
def a122_29 : AC := .seq a122_20 a122_28
def a122_30 : AC := .cond (.t 43) .skip a122_29
def a122_31 : AC := .seq a122_19 a122_30
def a122_32 : AC := .cond (.t 43) .skip a122_31
def a122_33 : AC := .seq a122_18 a122_32
def a122_34 : AC := .cond (.t 43) .skip a122_33
def a122_35 : AC := .seq a122_17 a122_34
def a122_36 : AC := .reg [⟨(some 51), (.fad 1 (.t 1)), none, 0, false, []⟩,
    ⟨(some 52), (.load false 1 (.t 51)), none, 0, false, []⟩,
    ⟨(some 53), (.call 143 [(.t 52)]), none, 0, false, []⟩,
    ⟨(some 54), (.mv (.t 53)), none, 0, false, []⟩,
    ⟨(some 55), (.fad 2 (.t 1)), (some (54, true)), 0, false, []⟩,
    ⟨(some 56), (.load false 1 (.t 55)), (some (54, true)), 0, false, []⟩,
    ⟨(some 57), (.call 143 [(.t 56)]), (some (54, true)), 0, false, []⟩,
    ⟨(some 58), (.pick (.t 54) (.t 57) (.c (.bool false))), none, 0, false, []⟩,
    ⟨(some 59), (.mv (.t 58)), none, 0, false, []⟩,
    ⟨(some 60), (.fad 3 (.t 1)), (some (59, true)), 0, false, []⟩,
    ⟨(some 61), (.load false 1 (.t 60)), (some (59, true)), 0, false, []⟩,
    ⟨(some 62), (.bin 0 .eql (.t 61) (.c (.int .i64 0))), (some (59, true)), 0, false, []⟩,
    ⟨(some 63), (.pick (.t 59) (.t 62) (.c (.bool false))), none, 0, false, []⟩,
    ⟨(some 2), (.mv (.t 63)), none, 0, false, []⟩] false
def a122_37 : AC := .seq a122_36 .ret
def a122_38 : AC := .reg [⟨(some 65), (.bin 0 .eql (.t 4) (.c (.int .i64 23))), none, 0, false, []⟩,
    ⟨(some 64), (.mv (.t 65)), none, 0, false, []⟩] false
def a122_39 : AC := .reg [⟨(some 66), (.fad 1 (.t 1)), none, 0, false, []⟩,
    ⟨(some 67), (.load false 1 (.t 66)), none, 0, false, []⟩,
    ⟨(some 68), (.call 143 [(.t 67)]), none, 0, false, []⟩,
    ⟨(some 69), (.mv (.t 68)), none, 0, false, []⟩,
    ⟨(some 70), (.fad 2 (.t 1)), (some (69, true)), 0, false, []⟩,
    ⟨(some 71), (.load false 1 (.t 70)), (some (69, true)), 0, false, []⟩,
    ⟨(some 72), (.call 143 [(.t 71)]), (some (69, true)), 0, false, []⟩,
    ⟨(some 73), (.pick (.t 69) (.t 72) (.c (.bool false))), none, 0, false, []⟩,
    ⟨(some 2), (.mv (.t 73)), none, 0, false, []⟩] false
def a122_40 : AC := .seq a122_39 .ret
def a122_41 : AC := .cond (.t 64) a122_40 .skip
def a122_42 : AC := .seq a122_38 a122_41
def a122_43 : AC := .cond (.t 43) a122_37 a122_42
def a122_44 : AC := .seq a122_35 a122_43
def a122_45 : AC := .cond (.t 23) a122_16 a122_44
def a122_46 : AC := .seq a122_14 a122_45
def a122_47 : AC := .cond (.t 5) a122_13 a122_46
def a122_48 : AC := .seq a122_11 a122_47
def a122_49 : AC := .blk 0 a122_48
def a122_50 : AC := .seq a122_1 a122_49
def a122_51 : AC := .reg [⟨(some 74), (.fad 1 (.t 1)), none, 0, false, []⟩,
    ⟨(some 75), (.load false 1 (.t 74)), none, 0, false, []⟩,
    ⟨(some 76), (.bin 0 .eql (.t 75) (.c (.int .i64 0))), none, 0, false, []⟩,
    ⟨(some 77), (.mv (.t 76)), none, 0, false, []⟩,
    ⟨(some 78), (.fad 2 (.t 1)), (some (77, true)), 0, false, []⟩,
    ⟨(some 79), (.load false 1 (.t 78)), (some (77, true)), 0, false, []⟩,
    ⟨(some 80), (.bin 0 .eql (.t 79) (.c (.int .i64 0))), (some (77, true)), 0, false, []⟩,
    ⟨(some 81), (.pick (.t 77) (.t 80) (.c (.bool false))), none, 0, false, []⟩,
    ⟨(some 82), (.mv (.t 81)), none, 0, false, []⟩,
    ⟨(some 83), (.fad 3 (.t 1)), (some (82, true)), 0, false, []⟩,
    ⟨(some 84), (.load false 1 (.t 83)), (some (82, true)), 0, false, []⟩,
    ⟨(some 85), (.bin 0 .eql (.t 84) (.c (.int .i64 0))), (some (82, true)), 0, false, []⟩,
    ⟨(some 86), (.pick (.t 82) (.t 85) (.c (.bool false))), none, 0, false, []⟩,
    ⟨(some 2), (.mv (.t 86)), none, 0, false, []⟩] false
def a122_52 : AC := .seq a122_51 .ret
def a122_53 : AC := .seq a122_50 a122_52
def a122_54 : AC := .seq a122_0 a122_53
def af122 : AF := { ntmps := 87, res := [(.t 2)], body := a122_54 }
theorem tr122 : trF Tryz.prog Tryz.f122 = some af122 := by kernel_rfl
attribute [go_sem] af122 a122_0 a122_1 a122_2 a122_3 a122_4 a122_5 a122_6 a122_7 a122_8 a122_9 a122_10 a122_11 a122_12 a122_13 a122_14 a122_15 a122_16 a122_17 a122_18 a122_19 a122_20 a122_21 a122_22 a122_23 a122_24 a122_25 a122_26 a122_27 a122_28 a122_29 a122_30 a122_31 a122_32 a122_33 a122_34 a122_35 a122_36 a122_37 a122_38 a122_39 a122_40 a122_41 a122_42 a122_43 a122_44 a122_45 a122_46 a122_47 a122_48 a122_49 a122_50 a122_51 a122_52 a122_53 a122_54
def a142_0 : AC := .reg [⟨(some 2), (.mv (.c (.int .i64 0))), none, 0, false, []⟩] false
def a142_1 : AC := .reg [⟨(some 3), (.mv (.t 0)), none, 0, false, []⟩] false
def a142_2 : AC := .reg [⟨(some 5), (.bin 0 .eql (.t 3) (.c (.int .i64 3))), none, 0, false, []⟩,
    ⟨(some 4), (.mv (.t 5)), none, 0, false, []⟩] false
def a142_3 : AC := .reg [⟨(some 6), (.bin 0 .eql (.t 3) (.c (.int .i64 5))), none, 0, false, []⟩,
    ⟨(some 4), (.mv (.t 6)), none, 0, false, []⟩] false
def a142_4 : AC := .reg [⟨(some 7), (.bin 0 .eql (.t 3) (.c (.int .i64 6))), none, 0, false, []⟩,
    ⟨(some 4), (.mv (.t 7)), none, 0, false, []⟩] false
def a142_5 : AC := .reg [⟨(some 8), (.bin 0 .eql (.t 3) (.c (.int .i64 8))), none, 0, false, []⟩,
    ⟨(some 4), (.mv (.t 8)), none, 0, false, []⟩] false
def a142_6 : AC := .reg [⟨(some 9), (.bin 0 .eql (.t 3) (.c (.int .i64 10))), none, 0, false, []⟩,
    ⟨(some 4), (.mv (.t 9)), none, 0, false, []⟩] false
def a142_7 : AC := .reg [⟨(some 10), (.bin 0 .eql (.t 3) (.c (.int .i64 11))), none, 0, false, []⟩,
    ⟨(some 4), (.mv (.t 10)), none, 0, false, []⟩] false
def a142_8 : AC := .cond (.t 4) .skip a142_7
def a142_9 : AC := .seq a142_6 a142_8
def a142_10 : AC := .cond (.t 4) .skip a142_9
def a142_11 : AC := .seq a142_5 a142_10
def a142_12 : AC := .cond (.t 4) .skip a142_11
def a142_13 : AC := .seq a142_4 a142_12
def a142_14 : AC := .cond (.t 4) .skip a142_13
def a142_15 : AC := .seq a142_3 a142_14
def a142_16 : AC := .cond (.t 4) .skip a142_15
def a142_17 : AC := .seq a142_2 a142_16
def a142_18 : AC := .reg [⟨(some 2), (.mv (.c (.int .i64 4))), none, 0, false, []⟩] false
def a142_19 : AC := .seq a142_18 .ret
def a142_20 : AC := .reg [⟨(some 12), (.bin 0 .eql (.t 3) (.c (.int .i64 1))), none, 0, false, []⟩,
    ⟨(some 11), (.mv (.t 12)), none, 0, false, []⟩] false
def a142_21 : AC := .reg [⟨(some 13), (.bin 0 .eql (.t 3) (.c (.int .i64 2))), none, 0, false, []⟩,
    ⟨(some 11), (.mv (.t 13)), none, 0, false, []⟩] false
def a142_22 : AC := .reg [⟨(some 14), (.bin 0 .eql (.t 3) (.c (.int .i64 7))), none, 0, false, []⟩,
    ⟨(some 11), (.mv (.t 14)), none, 0, false, []⟩] false
def a142_23 : AC := .reg [⟨(some 15), (.bin 0 .eql (.t 3) (.c (.int .i64 9))), none, 0, false, []⟩,
    ⟨(some 11), (.mv (.t 15)), none, 0, false, []⟩] false
def a142_24 : AC := .cond (.t 11) .skip a142_23
def a142_25 : AC := .seq a142_22 a142_24
def a142_26 : AC := .cond (.t 11) .skip a142_25
def a142_27 : AC := .seq a142_21 a142_26
def a142_28 : AC := .cond (.t 11) .skip a142_27
def a142_29 : AC := .seq a142_20 a142_28
def a142_30 : AC := .reg [⟨(some 2), (.mv (.c (.int .i64 5))), none, 0, false, []⟩] false
def a142_31 : AC := .seq a142_30 .ret
def a142_32 : AC := .reg [⟨(some 17), (.bin 0 .eql (.t 3) (.c (.int .i64 4))), none, 0, false, []⟩,
    ⟨(some 16), (.mv (.t 17)), none, 0, false, []⟩] false
def a142_33 : AC := .reg [⟨(some 18), (.bin 0 .eql (.t 3) (.c (.int .i64 12))), none, 0, false, []⟩,
    ⟨(some 16), (.mv (.t 18)), none, 0, false, []⟩] false
def a142_34 : AC := .reg [⟨(some 19), (.bin 0 .eql (.t 3) (.c (.int .i64 13))), none, 0, false, []⟩,
    ⟨(some 16), (.mv (.t 19)), none, 0, false, []⟩] false
def a142_35 : AC := .reg [⟨(some 20), (.bin 0 .eql (.t 3) (.c (.int .i64 14))), none, 0, false, []⟩,
    ⟨(some 16), (.mv (.t 20)), none, 0, false, []⟩] false
def a142_36 : AC := .reg [⟨(some 21), (.bin 0 .eql (.t 3) (.c (.int .i64 21))), none, 0, false, []⟩,
    ⟨(some 16), (.mv (.t 21)), none, 0, false, []⟩] false
def a142_37 : AC := .cond (.t 16) .skip a142_36
def a142_38 : AC := .seq a142_35 a142_37
def a142_39 : AC := .cond (.t 16) .skip a142_38
def a142_40 : AC := .seq a142_34 a142_39
def a142_41 : AC := .cond (.t 16) .skip a142_40
def a142_42 : AC := .seq a142_33 a142_41
def a142_43 : AC := .cond (.t 16) .skip a142_42
def a142_44 : AC := .seq a142_32 a142_43
def a142_45 : AC := .reg [⟨(some 2), (.mv (.c (.int .i64 6))), none, 0, false, []⟩] false
def a142_46 : AC := .seq a142_45 .ret
def a142_47 : AC := .reg [⟨(some 23), (.bin 0 .eql (.t 3) (.c (.int .i64 15))), none, 0, false, []⟩,
    ⟨(some 22), (.mv (.t 23)), none, 0, false, []⟩] false
def a142_48 : AC := .reg [⟨(some 24), (.bin 0 .eql (.t 3) (.c (.int .i64 18))), none, 0, false, []⟩,
    ⟨(some 22), (.mv (.t 24)), none, 0, false, []⟩] false
def a142_49 : AC := .reg [⟨(some 25), (.bin 0 .eql (.t 3) (.c (.int .i64 19))), none, 0, false, []⟩,
    ⟨(some 22), (.mv (.t 25)), none, 0, false, []⟩] false
def a142_50 : AC := .reg [⟨(some 26), (.bin 0 .eql (.t 3) (.c (.int .i64 20))), none, 0, false, []⟩,
    ⟨(some 22), (.mv (.t 26)), none, 0, false, []⟩] false
def a142_51 : AC := .cond (.t 22) .skip a142_50
def a142_52 : AC := .seq a142_49 a142_51
def a142_53 : AC := .cond (.t 22) .skip a142_52
def a142_54 : AC := .seq a142_48 a142_53
def a142_55 : AC := .cond (.t 22) .skip a142_54
def a142_56 : AC := .seq a142_47 a142_55
def a142_57 : AC := .reg [⟨(some 2), (.mv (.c (.int .i64 9))), none, 0, false, []⟩] false
def a142_58 : AC := .seq a142_57 .ret
def a142_59 : AC := .reg [⟨(some 28), (.bin 0 .eql (.t 3) (.c (.int .i64 16))), none, 0, false, []⟩,
    ⟨(some 27), (.mv (.t 28)), none, 0, false, []⟩] false
def a142_60 : AC := .reg [⟨(some 29), (.bin 0 .eql (.t 3) (.c (.int .i64 17))), none, 0, false, []⟩,
    ⟨(some 27), (.mv (.t 29)), none, 0, false, []⟩] false
def a142_61 : AC := .cond (.t 27) .skip a142_60
def a142_62 : AC := .seq a142_59 a142_61
def a142_63 : AC := .reg [⟨(some 2), (.mv (.c (.int .i64 12))), none, 0, false, []⟩] false
def a142_64 : AC := .seq a142_63 .ret
def a142_65 : AC := .cond (.t 27) a142_64 .skip
def a142_66 : AC := .seq a142_62 a142_65
def a142_67 : AC := .cond (.t 22) a142_58 a142_66
def a142_68 : AC := .seq a142_56 a142_67
def a142_69 : AC := .cond (.t 16) a142_46 a142_68
def a142_70 : AC := .seq a142_44 a142_69
def a142_71 : AC := .cond (.t 11) a142_31 a142_70
def a142_72 : AC := .seq a142_29 a142_71
def a142_73 : AC := .cond (.t 4) a142_19 a142_72
def a142_74 : AC := .seq a142_17 a142_73
def a142_75 : AC := .blk 0 a142_74
def a142_76 : AC := .seq a142_1 a142_75
def a142_77 : AC := .reg [⟨(some 2), (.mv (.c (.int .i64 (-1)))), none, 0, false, []⟩] false
def a142_78 : AC := .seq a142_77 .ret
def a142_79 : AC := .seq a142_76 a142_78
def a142_80 : AC := .seq a142_0 a142_79
def af142 : AF := { ntmps := 30, res := [(.t 2)], body := a142_80 }
theorem tr142 : trF Tryz.prog Tryz.f142 = some af142 := by kernel_rfl
attribute [go_sem] af142 a142_0 a142_1 a142_2 a142_3 a142_4 a142_5 a142_6 a142_7 a142_8 a142_9 a142_10 a142_11 a142_12 a142_13 a142_14 a142_15 a142_16 a142_17 a142_18 a142_19 a142_20 a142_21 a142_22 a142_23 a142_24 a142_25 a142_26 a142_27 a142_28 a142_29 a142_30 a142_31 a142_32 a142_33 a142_34 a142_35 a142_36 a142_37 a142_38 a142_39 a142_40 a142_41 a142_42 a142_43 a142_44 a142_45 a142_46 a142_47 a142_48 a142_49 a142_50 a142_51 a142_52 a142_53 a142_54 a142_55 a142_56 a142_57 a142_58 a142_59 a142_60 a142_61 a142_62 a142_63 a142_64 a142_65 a142_66 a142_67 a142_68 a142_69 a142_70 a142_71 a142_72 a142_73 a142_74 a142_75 a142_76 a142_77 a142_78 a142_79 a142_80
def a143_0 : AC := .reg [⟨(some 2), (.mv (.c (.bool false))), none, 0, false, []⟩] false
def a143_1 : AC := .reg [⟨(some 3), (.mv (.t 0)), none, 0, false, []⟩,
    ⟨(some 4), (.bin 0 .geq (.t 3) (.c (.int .i64 0))), none, 0, false, []⟩,
    ⟨(some 5), (.mv (.t 4)), none, 0, false, []⟩,
    ⟨(some 6), (.mv (.t 0)), (some (5, true)), 0, false, []⟩,
    ⟨(some 7), (.bin 0 .leq (.t 6) (.c (.int .i64 1000))), (some (5, true)), 0, false, []⟩,
    ⟨(some 8), (.pick (.t 5) (.t 7) (.c (.bool false))), none, 0, false, []⟩,
    ⟨(some 2), (.mv (.t 8)), none, 0, false, []⟩] false
def a143_2 : AC := .seq a143_1 .ret
def a143_3 : AC := .seq a143_0 a143_2
def af143 : AF := { ntmps := 9, res := [(.t 2)], body := a143_3 }
theorem tr143 : trF Tryz.prog Tryz.f143 = some af143 := by kernel_rfl
attribute [go_sem] af143 a143_0 a143_1 a143_2 a143_3
def a60_0 : AC := .reg [⟨(some 1), (.box (.t 0)), none, 0, false, []⟩,
    ⟨(some 2), (.mv (.c (.bool false))), none, 0, false, []⟩] false
def a60_1 : AC := .reg [⟨(some 4), (.fad 0 (.t 1)), none, 0, false, []⟩,
    ⟨(some 5), (.load false 1 (.t 4)), none, 0, false, []⟩,
    ⟨(some 6), (.bin 0 .neq (.t 5) (.c (.int .i64 1))), none, 0, false, []⟩,
    ⟨(some 7), (.mv (.t 6)), none, 0, false, []⟩,
    ⟨(some 8), (.fad 0 (.t 1)), (some (7, true)), 0, false, []⟩,
    ⟨(some 9), (.load false 1 (.t 8)), (some (7, true)), 0, false, []⟩,
    ⟨(some 10), (.bin 0 .neq (.t 9) (.c (.int .i64 2))), (some (7, true)), 0, false, []⟩,
    ⟨(some 11), (.pick (.t 7) (.t 10) (.c (.bool false))), none, 0, false, []⟩,
    ⟨(some 12), (.mv (.t 11)), none, 0, false, []⟩,
    ⟨(some 13), (.fad 0 (.t 1)), (some (12, true)), 0, false, []⟩,
    ⟨(some 14), (.load false 1 (.t 13)), (some (12, true)), 0, false, []⟩,
    ⟨(some 15), (.bin 0 .lss (.t 14) (.c (.int .i64 13))), (some (12, true)), 0, false, []⟩,
    ⟨(some 16), (.mv (.t 15)), (some (12, true)), 0, false, []⟩,
    ⟨(some 17), (.fad 0 (.t 1)), (some (16, false)), 0, false, []⟩,
    ⟨(some 18), (.load false 1 (.t 17)), (some (16, false)), 0, false, []⟩,
    ⟨(some 19), (.bin 0 .gtr (.t 18) (.c (.int .i64 23))), (some (16, false)), 0, false, []⟩,
    ⟨(some 20), (.pick (.t 16) (.c (.bool true)) (.t 19)), (some (12, true)), 0, false, []⟩,
    ⟨(some 21), (.pick (.t 12) (.t 20) (.c (.bool false))), none, 0, false, []⟩,
    ⟨(some 22), (.mv (.t 21)), none, 0, false, []⟩,
    ⟨(some 23), (.load true 5 (.t 1)), (some (22, false)), 0, false, []⟩,
    ⟨(some 24), (.call 59 [(.t 23)]), (some (22, false)), 0, false, []⟩,
    ⟨(some 25), (.un .not (.t 24)), (some (22, false)), 0, false, []⟩,
    ⟨(some 26), (.pick (.t 22) (.c (.bool true)) (.t 25)), none, 0, false, []⟩] false
def a60_2 : AC := .reg [⟨(some 2), (.mv (.c (.bool false))), none, 0, false, []⟩] false
def a60_3 : AC := .seq a60_2 .ret
def a60_4 : AC := .cond (.t 26) a60_3 .skip
def a60_5 : AC := .seq a60_1 a60_4
def a60_6 : AC := .reg [⟨(some 3), (.mv (.c (.int .i64 0))), none, 0, false, []⟩] false
def a60_7 : AC := .reg [⟨(some 27), (.mv (.t 3)), none, 0, false, []⟩,
    ⟨(some 28), (.fad 4 (.t 1)), none, 0, false, []⟩,
    ⟨(some 29), (.load false 1 (.t 28)), none, 0, false, []⟩,
    ⟨(some 30), (.len false (.t 29)), none, 0, false, []⟩,
    ⟨(some 31), (.bin 0 .lss (.t 27) (.t 30)), none, 0, false, []⟩] false
def a60_8 : AC := .cond (.t 31) .skip (.exit 0)
def a60_9 : AC := .seq a60_7 a60_8
def a60_10 : AC := .reg [⟨(some 34), (.fad 4 (.t 1)), none, 0, false, []⟩,
    ⟨(some 35), (.load false 1 (.t 34)), none, 0, false, []⟩,
    ⟨(some 36), (.mv (.t 3)), none, 0, false, []⟩,
    ⟨(some 37), (.iad 5 (.t 35) (.t 36)), none, 0, false, []⟩,
    ⟨(some 38), (.load true 5 (.t 37)), none, 0, false, []⟩,
    ⟨(some 39), (.call 60 [(.t 38)]), none, 0, false, []⟩,
    ⟨(some 40), (.un .not (.t 39)), none, 0, false, []⟩] false
def a60_11 : AC := .reg [⟨(some 2), (.mv (.c (.bool false))), none, 0, false, []⟩] false
def a60_12 : AC := .seq a60_11 .ret
def a60_13 : AC := .cond (.t 40) a60_12 .skip
def a60_14 : AC := .seq a60_10 a60_13
def a60_15 : AC := .blk 1 a60_14
def a60_16 : AC := .reg [⟨(some 32), (.mv (.t 3)), none, 0, false, []⟩,
    ⟨(some 33), (.bin 0 .add (.t 32) (.c (.int .i64 1))), none, 0, false, []⟩,
    ⟨(some 3), (.mv (.t 33)), none, 0, false, []⟩] false
def a60_17 : AC := .seq a60_15 a60_16
def a60_18 : AC := .seq a60_9 a60_17
def a60_19 : AC := .loop a60_18
def a60_20 : AC := .blk 0 a60_19
def a60_21 : AC := .seq a60_6 a60_20
def a60_22 : AC := .reg [⟨(some 2), (.mv (.c (.bool true))), none, 0, false, []⟩] false
def a60_23 : AC := .seq a60_22 .ret
def a60_24 : AC := .seq a60_21 a60_23
def a60_25 : AC := .seq a60_5 a60_24
def a60_26 : AC := .seq a60_0 a60_25
def af60 : AF := { ntmps := 41, res := [(.t 2)], body := a60_26 }
theorem tr60 : trF Tryz.prog Tryz.f60 = some af60 := by kernel_rfl
attribute [go_sem] af60 a60_0 a60_1 a60_2 a60_3 a60_4 a60_5 a60_6 a60_7 a60_8 a60_9 a60_10 a60_11 a60_12 a60_13 a60_14 a60_15 a60_16 a60_17 a60_18 a60_19 a60_20 a60_21 a60_22 a60_23 a60_24 a60_25 a60_26
def a59_0 : AC := .reg [⟨(some 1), (.box (.t 0)), none, 0, false, []⟩,
    ⟨(some 2), (.mv (.c (.bool false))), none, 0, false, []⟩] false
def a59_1 : AC := .reg [⟨(some 3), (.fad 4 (.t 1)), none, 0, false, []⟩,
    ⟨(some 4), (.load false 1 (.t 3)), none, 1, true, []⟩,
    ⟨(some 5), (.len false (.t 4)), none, 2, false, []⟩,
    ⟨(some 6), (.fad 0 (.t 1)), none, 3, false, []⟩,
    ⟨(some 7), (.load false 1 (.t 6)), none, 4, false, []⟩,
    ⟨(some 8), (.fad 3 (.t 1)), none, 5, false, []⟩,
    ⟨(some 9), (.load false 1 (.t 8)), none, 6, false, []⟩,
    ⟨(some 10), (.call 97 [(.t 7), (.t 9)]), none, 7, false, [1]⟩,
    ⟨(some 11), (.bin 0 .eql (.t 5) (.t 10)), none, 8, false, []⟩,
    ⟨(some 12), (.mv (.t 11)), none, 9, false, []⟩,
    ⟨(some 13), (.load true 5 (.t 1)), (some (12, true)), 10, false, []⟩,
    ⟨(some 14), (.call 98 [(.t 13)]), (some (12, true)), 11, false, []⟩,
    ⟨(some 15), (.pick (.t 12) (.t 14) (.c (.bool false))), none, 12, false, []⟩,
    ⟨(some 2), (.mv (.t 15)), none, 13, false, []⟩] true
def a59_2 : AC := .seq a59_1 .ret
def a59_3 : AC := .seq a59_0 a59_2
def af59 : AF := { ntmps := 16, res := [(.t 2)], body := a59_3 }
theorem tr59 : trF Tryz.prog Tryz.f59 = some af59 := by kernel_rfl
attribute [go_sem] af59 a59_0 a59_1 a59_2 a59_3
def a97_0 : AC := .reg [⟨(some 4), (.mv (.c (.int .i64 0))), none, 0, false, []⟩] false
def a97_1 : AC := .reg [⟨(some 6), (.mv (.t 0)), none, 0, false, []⟩] false
def a97_2 : AC := .reg [⟨(some 8), (.bin 0 .eql (.t 6) (.c (.int .i64 1))), none, 0, false, []⟩,
    ⟨(some 7), (.mv (.t 8)), none, 0, false, []⟩] false
def a97_3 : AC := .reg [⟨(some 9), (.bin 0 .eql (.t 6) (.c (.int .i64 2))), none, 0, false, []⟩,
    ⟨(some 7), (.mv (.t 9)), none, 0, false, []⟩] false
def a97_4 : AC := .cond (.t 7) .skip a97_3
def a97_5 : AC := .seq a97_2 a97_4
def a97_6 : AC := .reg [⟨(some 4), (.mv (.c (.int .i64 0))), none, 0, false, []⟩] false
def a97_7 : AC := .seq a97_6 .ret
def a97_8 : AC := .reg [⟨(some 11), (.bin 0 .eql (.t 6) (.c (.int .i64 18))), none, 0, false, []⟩,
    ⟨(some 10), (.mv (.t 11)), none, 0, false, []⟩] false
def a97_9 : AC := .reg [⟨(some 12), (.bin 0 .eql (.t 6) (.c (.int .i64 19))), none, 0, false, []⟩,
    ⟨(some 10), (.mv (.t 12)), none, 0, false, []⟩] false
def a97_10 : AC := .cond (.t 10) .skip a97_9
def a97_11 : AC := .seq a97_8 a97_10
def a97_12 : AC := .reg [⟨(some 4), (.mv (.c (.int .i64 1))), none, 0, false, []⟩] false
def a97_13 : AC := .seq a97_12 .ret
def a97_14 : AC := .reg [⟨(some 14), (.bin 0 .eql (.t 6) (.c (.int .i64 3))), none, 0, false, []⟩,
    ⟨(some 13), (.mv (.t 14)), none, 0, false, []⟩] false
def a97_15 : AC := .reg [⟨(some 15), (.bin 0 .eql (.t 6) (.c (.int .i64 6))), none, 0, false, []⟩,
    ⟨(some 13), (.mv (.t 15)), none, 0, false, []⟩] false
def a97_16 : AC := .reg [⟨(some 16), (.bin 0 .eql (.t 6) (.c (.int .i64 13))), none, 0, false, []⟩,
    ⟨(some 13), (.mv (.t 16)), none, 0, false, []⟩] false
def a97_17 : AC := .reg [⟨(some 17), (.bin 0 .eql (.t 6) (.c (.int .i64 14))), none, 0, false, []⟩,
    ⟨(some 13), (.mv (.t 17)), none, 0, false, []⟩] false
def a97_18 : AC := .reg [⟨(some 18), (.bin 0 .eql (.t 6) (.c (.int .i64 15))), none, 0, false, []⟩,
    ⟨(some 13), (.mv (.t 18)), none, 0, false, []⟩] false
def a97_19 : AC := .reg [⟨(some 19), (.bin 0 .eql (.t 6) (.c (.int .i64 16))), none, 0, false, []⟩,
    ⟨(some 13), (.mv (.t 19)), none, 0, false, []⟩] false
def a97_20 : AC := .reg [⟨(some 20), (.bin 0 .eql (.t 6) (.c (.int .i64 21))), none, 0, false, []⟩,
    ⟨(some 13), (.mv (.t 20)), none, 0, false, []⟩] false
def a97_21 : AC := .reg [⟨(some 21), (.bin 0 .eql (.t 6) (.c (.int .i64 11))), none, 0, false, []⟩,
    ⟨(some 13), (.mv (.t 21)), none, 0, false, []⟩] false
def a97_22 : AC := .cond (.t 13) .skip a97_21
def a97_23 : AC := .seq a97_20 a97_22
def a97_24 : AC := .cond (.t 13) .skip a97_23
def a97_25 : AC := .seq a97_19 a97_24
def a97_26 : AC := .cond (.t 13) .skip a97_25
def a97_27 : AC := .seq a97_18 a97_26
def a97_28 : AC := .cond (.t 13) .skip a97_27
def a97_29 : AC := .seq a97_17 a97_28
def a97_30 : AC := .cond (.t 13) .skip a97_29
def a97_31 : AC := .seq a97_16 a97_30
def a97_32 : AC := .cond (.t 13) .skip a97_31
def a97_33 : AC := .seq a97_15 a97_32
def a97_34 : AC := .cond (.t 13) .skip a97_33
def a97_35 : AC := .seq a97_14 a97_34
def a97_36 : AC := .reg [⟨(some 4), (.mv (.c (.int .i64 2))), none, 0, false, []⟩] false
def a97_37 : AC := .seq a97_36 .ret
def a97_38 : AC := .reg [⟨(some 23), (.bin 0 .eql (.t 6) (.c (.int .i64 4))), none, 0, false, []⟩,
    ⟨(some 22), (.mv (.t 23)), none, 0, false, []⟩] false
def a97_39 : AC := .reg [⟨(some 24), (.bin 0 .eql (.t 6) (.c (.int .i64 8))), none, 0, false, []⟩,
    ⟨(some 22), (.mv (.t 24)), none, 0, false, []⟩] false
def a97_40 : AC := .reg [⟨(some 25), (.bin 0 .eql (.t 6) (.c (.int .i64 9))), none, 0, false, []⟩,
    ⟨(some 22), (.mv (.t 25)), none, 0, false, []⟩] false
def a97_41 : AC := .reg [⟨(some 26), (.bin 0 .eql (.t 6) (.c (.int .i64 10))), none, 0, false, []⟩,
    ⟨(some 22), (.mv (.t 26)), none, 0, false, []⟩] false
def a97_42 : AC := .reg [⟨(some 27), (.bin 0 .eql (.t 6) (.c (.int .i64 20))), none, 0, false, []⟩,
    ⟨(some 22), (.mv (.t 27)), none, 0, false, []⟩] false
def a97_43 : AC := .cond (.t 22) .skip a97_42
def a97_44 : AC := .seq a97_41 a97_43
def a97_45 : AC := .cond (.t 22) .skip a97_44
def a97_46 : AC := .seq a97_40 a97_45
def a97_47 : AC := .cond (.t 22) .skip a97_46
def a97_48 : AC := .seq a97_39 a97_47
def a97_49 : AC := .cond (.t 22) .skip a97_48
def a97_50 : AC := .seq a97_38 a97_49
def a97_51 : AC := .reg [⟨(some 4), (.mv (.c (.int .i64 3))), none, 0, false, []⟩] false
def a97_52 : AC := .seq a97_51 .ret
def a97_53 : AC := .reg [⟨(some 29), (.bin 0 .eql (.t 6) (.c (.int .i64 5))), none, 0, false, []⟩,
    ⟨(some 28), (.mv (.t 29)), none, 0, false, []⟩] false
def a97_54 : AC := .reg [⟨(some 30), (.bin 0 .eql (.t 6) (.c (.int .i64 7))), none, 0, false, []⟩,
    ⟨(some 28), (.mv (.t 30)), none, 0, false, []⟩] false
def a97_55 : AC := .reg [⟨(some 31), (.bin 0 .eql (.t 6) (.c (.int .i64 12))), none, 0, false, []⟩,
    ⟨(some 28), (.mv (.t 31)), none, 0, false, []⟩] false
def a97_56 : AC := .reg [⟨(some 32), (.bin 0 .eql (.t 6) (.c (.int .i64 17))), none, 0, false, []⟩,
    ⟨(some 28), (.mv (.t 32)), none, 0, false, []⟩] false
def a97_57 : AC := .cond (.t 28) .skip a97_56
def a97_58 : AC := .seq a97_55 a97_57
def a97_59 : AC := .cond (.t 28) .skip a97_58
def a97_60 : AC := .seq a97_54 a97_59
def a97_61 : AC := .cond (.t 28) .skip a97_60
def a97_62 : AC := .seq a97_53 a97_61
def a97_63 : AC := .reg [⟨(some 4), (.mv (.c (.int .i64 4))), none, 0, false, []⟩] false
def a97_64 : AC := .seq a97_63 .ret
def a97_65 : AC := .reg [⟨(some 34), (.bin 0 .eql (.t 6) (.c (.int .i64 22))), none, 0, false, []⟩,
    ⟨(some 33), (.mv (.t 34)), none, 0, false, []⟩] false
def a97_66 : AC := .reg [⟨(some 4), (.mv (.c (.int .i64 6))), none, 0, false, []⟩] false
def a97_67 : AC := .seq a97_66 .ret
def a97_68 : AC := .reg [⟨(some 36), (.bin 0 .eql (.t 6) (.c (.int .i64 23))), none, 0, false, []⟩,
    ⟨(some 35), (.mv (.t 36)), none, 0, false, []⟩] false
def a97_69 : AC := .reg [⟨(some 37), (.bslice 1 [(.c (.int .i64 5)), (.c (.int .i64 5)), (.c (.int .i64 4)), (.c (.int .i64 6)), (.c (.int .i64 4)), (.c (.int .i64 4)), (.c (.int .i64 5)), (.c (.int .i64 4)), (.c (.int .i64 5)), (.c (.int .i64 4)), (.c (.int .i64 4)), (.c (.int .i64 6)), (.c (.int .i64 6)), (.c (.int .i64 6)), (.c (.int .i64 9)), (.c (.int .i64 12)), (.c (.int .i64 12)), (.c (.int .i64 9)), (.c (.int .i64 9)), (.c (.int .i64 9)), (.c (.int .i64 6))]), none, 0, false, []⟩,
    ⟨(some 5), (.mv (.t 37)), none, 0, false, []⟩] false
def a97_70 : AC := .reg [⟨(some 38), (.mv (.t 1)), none, 0, false, []⟩,
    ⟨(some 39), (.bin 0 .geq (.t 38) (.c (.int .i64 1))), none, 0, false, []⟩,
    ⟨(some 40), (.mv (.t 39)), none, 0, false, []⟩,
    ⟨(some 41), (.mv (.t 1)), (some (40, true)), 0, false, []⟩,
    ⟨(some 42), (.mv (.t 5)), (some (40, true)), 0, false, []⟩,
    ⟨(some 43), (.len false (.t 42)), (some (40, true)), 0, false, []⟩,
    ⟨(some 44), (.bin 0 .leq (.t 41) (.t 43)), (some (40, true)), 0, false, []⟩,
    ⟨(some 45), (.pick (.t 40) (.t 44) (.c (.bool false))), none, 0, false, []⟩] false
def a97_71 : AC := .reg [⟨(some 46), (.mv (.t 5)), none, 0, false, []⟩,
    ⟨(some 47), (.mv (.t 1)), none, 0, false, []⟩,
    ⟨(some 48), (.bin 0 .sub (.t 47) (.c (.int .i64 1))), none, 0, false, []⟩,
    ⟨(some 49), (.iad 1 (.t 46) (.t 48)), none, 0, false, []⟩,
    ⟨(some 50), (.load false 1 (.t 49)), none, 0, false, []⟩,
    ⟨(some 4), (.mv (.t 50)), none, 0, false, []⟩] false
def a97_72 : AC := .seq a97_71 .ret
def a97_73 : AC := .cond (.t 45) a97_72 .skip
def a97_74 : AC := .seq a97_70 a97_73
def a97_75 : AC := .seq a97_69 a97_74
def a97_76 : AC := .cond (.t 35) a97_75 .skip
def a97_77 : AC := .seq a97_68 a97_76
def a97_78 : AC := .cond (.t 33) a97_67 a97_77
def a97_79 : AC := .seq a97_65 a97_78
def a97_80 : AC := .cond (.t 28) a97_64 a97_79
def a97_81 : AC := .seq a97_62 a97_80
def a97_82 : AC := .cond (.t 22) a97_52 a97_81
def a97_83 : AC := .seq a97_50 a97_82
def a97_84 : AC := .cond (.t 13) a97_37 a97_83
def a97_85 : AC := .seq a97_35 a97_84
def a97_86 : AC := .cond (.t 10) a97_13 a97_85
def a97_87 : AC := .seq a97_11 a97_86
def a97_88 : AC := .cond (.t 7) a97_7 a97_87
def a97_89 : AC := .seq a97_5 a97_88
def a97_90 : AC := .blk 0 a97_89
def a97_91 : AC := .seq a97_1 a97_90
def a97_92 : AC := .reg [⟨(some 4), (.mv (.c (.int .i64 (-1)))), none, 0, false, []⟩] false
def a97_93 : AC := .seq a97_92 .ret
def a97_94 : AC := .seq a97_91 a97_93
def a97_95 : AC := .seq a97_0 a97_94
def af97 : AF := { ntmps := 51, res := [(.t 4)], body := a97_95 }
theorem tr97 : trF Tryz.prog Tryz.f97 = some af97 := by kernel_rfl
attribute [go_sem] af97 a97_0 a97_1 a97_2 a97_3 a97_4 a97_5 a97_6 a97_7 a97_8 a97_9 a97_10 a97_11 a97_12 a97_13 a97_14 a97_15 a97_16 a97_17 a97_18 a97_19 a97_20 a97_21 a97_22 a97_23 a97_24 a97_25 a97_26 a97_27 a97_28 a97_29 a97_30 a97_31 a97_32 a97_33 a97_34 a97_35 a97_36 a97_37 a97_38 a97_39 a97_40 a97_41 a97_42 a97_43 a97_44 a97_45 a97_46 a97_47 a97_48 a97_49 a97_50 a97_51 a97_52 a97_53 a97_54 a97_55 a97_56 a97_57 a97_58 a97_59 a97_60 a97_61 a97_62 a97_63 a97_64 a97_65 a97_66 a97_67 a97_68 a97_69 a97_70 a97_71 a97_72 a97_73 a97_74 a97_75 a97_76 a97_77 a97_78 a97_79 a97_80 a97_81 a97_82 a97_83 a97_84 a97_85 a97_86 a97_87 a97_88 a97_89 a97_90 a97_91 a97_92 a97_93 a97_94 a97_95
def a98_0 : AC := .reg [⟨(some 1), (.box (.t 0)), none, 0, false, []⟩,
    ⟨(some 2), (.mv (.c (.bool false))), none, 0, false, []⟩] false
def a98_1 : AC := .reg [⟨(some 3), (.fad 0 (.t 1)), none, 0, false, []⟩,
    ⟨(some 4), (.load false 1 (.t 3)), none, 0, false, []⟩] false
def a98_2 : AC := .reg [⟨(some 6), (.bin 0 .eql (.t 4) (.c (.int .i64 2))), none, 0, false, []⟩,
    ⟨(some 5), (.mv (.t 6)), none, 0, false, []⟩] false
def a98_3 : AC := .reg [⟨(some 7), (.fad 1 (.t 1)), none, 0, false, []⟩,
    ⟨(some 8), (.load false 1 (.t 7)), none, 0, false, []⟩,
    ⟨(some 9), (.bin 0 .geq (.t 8) (.c (.int .i64 0))), none, 0, false, []⟩,
    ⟨(some 10), (.mv (.t 9)), none, 0, false, []⟩,
    ⟨(some 11), (.fad 1 (.t 1)), (some (10, true)), 0, false, []⟩,
    ⟨(some 12), (.load false 1 (.t 11)), (some (10, true)), 0, false, []⟩,
    ⟨(some 13), (.bin 0 .leq (.t 12) (.c (.int .i64 2147483647))), (some (10, true)), 0, false, []⟩,
    ⟨(some 14), (.pick (.t 10) (.t 13) (.c (.bool false))), none, 0, false, []⟩,
    ⟨(some 15), (.mv (.t 14)), none, 0, false, []⟩,
    ⟨(some 16), (.fad 2 (.t 1)), (some (15, true)), 0, false, []⟩,
    ⟨(some 17), (.load false 1 (.t 16)), (some (15, true)), 0, false, []⟩,
    ⟨(some 18), (.bin 0 .eql (.t 17) (.c (.int .i64 0))), (some (15, true)), 0, false, []⟩,
    ⟨(some 19), (.pick (.t 15) (.t 18) (.c (.bool false))), none, 0, false, []⟩,
    ⟨(some 20), (.mv (.t 19)), none, 0, false, []⟩,
    ⟨(some 21), (.fad 3 (.t 1)), (some (20, true)), 0, false, []⟩,
    ⟨(some 22), (.load false 1 (.t 21)), (some (20, true)), 0, false, []⟩,
    ⟨(some 23), (.bin 0 .eql (.t 22) (.c (.int .i64 0))), (some (20, true)), 0, false, []⟩,
    ⟨(some 24), (.pick (.t 20) (.t 23) (.c (.bool false))), none, 0, false, []⟩,
    ⟨(some 2), (.mv (.t 24)), none, 0, false, []⟩] false
def a98_4 : AC := .seq a98_3 .ret
def a98_5 : AC := .reg [⟨(some 26), (.bin 0 .eql (.t 4) (.c (.int .i64 3))), none, 0, false, []⟩,
    ⟨(some 25), (.mv (.t 26)), none, 0, false, []⟩] false
def a98_6 : AC := .reg [⟨(some 27), (.bin 0 .eql (.t 4) (.c (.int .i64 4))), none, 0, false, []⟩,
    ⟨(some 25), (.mv (.t 27)), none, 0, false, []⟩] false
def a98_7 : AC := .reg [⟨(some 28), (.bin 0 .eql (.t 4) (.c (.int .i64 5))), none, 0, false, []⟩,
    ⟨(some 25), (.mv (.t 28)), none, 0, false, []⟩] false
def a98_8 : AC := .reg [⟨(some 29), (.bin 0 .eql (.t 4) (.c (.int .i64 6))), none, 0, false, []⟩,
    ⟨(some 25), (.mv (.t 29)), none, 0, false, []⟩] false
def a98_9 : AC := .reg [⟨(some 30), (.bin 0 .eql (.t 4) (.c (.int .i64 7))), none, 0, false, []⟩,
    ⟨(some 25), (.mv (.t 30)), none, 0, false, []⟩] false
def a98_10 : AC := .reg [⟨(some 31), (.bin 0 .eql (.t 4) (.c (.int .i64 8))), none, 0, false, []⟩,
    ⟨(some 25), (.mv (.t 31)), none, 0, false, []⟩] false
def a98_11 : AC := .reg [⟨(some 32), (.bin 0 .eql (.t 4) (.c (.int .i64 9))), none, 0, false, []⟩,
    ⟨(some 25), (.mv (.t 32)), none, 0, false, []⟩] false
def a98_12 : AC := .cond (.t 25) .skip a98_11
def a98_13 : AC := .seq a98_10 a98_12
def a98_14 : AC := .cond (.t 25) .skip a98_13
def a98_15 : AC := .seq a98_9 a98_14
def a98_16 : AC := .cond (.t 25) .skip a98_15
def a98_17 : AC := .seq a98_8 a98_16
def a98_18 : AC := .cond (.t 25) .skip a98_17
def a98_19 : AC := .seq a98_7 a98_18
def a98_20 : AC := .cond (.t 25) .skip a98_19
def a98_21 : AC := .seq a98_6 a98_20
def a98_22 : AC := .cond (.t 25) .skip a98_21
def a98_23 : AC := .seq a98_5 a98_22
def a98_24 : AC := .reg [⟨(some 33), (.fad 1 (.t 1)), none, 0, false, []⟩,
    ⟨(some 34), (.load false 1 (.t 33)), none, 0, false, []⟩,
    ⟨(some 35), (.call 123 [(.t 34)]), none, 0, false, []⟩,
    ⟨(some 36), (.mv (.t 35)), none, 0, false, []⟩,
    ⟨(some 37), (.fad 2 (.t 1)), (some (36, true)), 0, false, []⟩,
    ⟨(some 38), (.load false 1 (.t 37)), (some (36, true)), 0, false, []⟩,
    ⟨(some 39), (.call 123 [(.t 38)]), (some (36, true)), 0, false, []⟩,
    ⟨(some 40), (.pick (.t 36) (.t 39) (.c (.bool false))), none, 0, false, []⟩,
    ⟨(some 41), (.mv (.t 40)), none, 0, false, []⟩,
    ⟨(some 42), (.fad 3 (.t 1)), (some (41, true)), 0, false, []⟩,
    ⟨(some 43), (.load false 1 (.t 42)), (some (41, true)), 0, false, []⟩,
    ⟨(some 44), (.bin 0 .eql (.t 43) (.c (.int .i64 0))), (some (41, true)), 0, false, []⟩,
    ⟨(some 45), (.pick (.t 41) (.t 44) (.c (.bool false))), none, 0, false, []⟩,
    ⟨(some 2), (.mv (.t 45)), none, 0, false, []⟩] false
def a98_25 : AC := .seq a98_24 .ret
def a98_26 : AC := .reg [⟨(some 47), (.bin 0 .eql (.t 4) (.c (.int .i64 1))), none, 0, false, []⟩,
    ⟨(some 46), (.mv (.t 47)), none, 0, false, []⟩] false
def a98_27 : AC := .reg [⟨(some 48), (.bin 0 .eql (.t 4) (.c (.int .i64 10))), none, 0, false, []⟩,
    ⟨(some 46), (.mv (.t 48)), none, 0, false, []⟩] false
def a98_28 : AC := .reg [⟨(some 49), (.bin 0 .eql (.t 4) (.c (.int .i64 11))), none, 0, false, []⟩,
    ⟨(some 46), (.mv (.t 49)), none, 0, false, []⟩] false
def a98_29 : AC := .reg [⟨(some 50), (.bin 0 .eql (.t 4) (.c (.int .i64 12))), none, 0, false, []⟩,
    ⟨(some 46), (.mv (.t 50)), none, 0, false, []⟩] false
def a98_30 : AC := .cond (.t 46) .skip a98_29
def a98_31 : AC := .seq a98_28 a98_30
def a98_32 : AC := .cond (.t 46) .skip a98_31
def a98_33 : AC := .seq a98_27 a98_32
def a98_34 : AC := .cond (.t 46) .skip a98_33
def a98_35 : AC := .seq a98_26 a98_34
def a98_36 : AC := .reg [⟨(some 51), (.fad 1 (.t 1)), none, 0, false, []⟩,
    ⟨(some 52), (.load false 1 (.t 51)), none, 0, false, []⟩,
    ⟨(some 53), (.call 123 [(.t 52)]), none, 0, false, []⟩,
    ⟨(some 54), (.mv (.t 53)), none, 0, false, []⟩,
    ⟨(some 55), (.fad 2 (.t 1)), (some (54, true)), 0, false, []⟩,
    ⟨(some 56), (.load false 1 (.t 55)), (some (54, true)), 0, false, []⟩,
    ⟨(some 57), (.bin 0 .eql (.t 56) (.c (.int .i64 0))), (some (54, true)), 0, false, []⟩,
    ⟨(some 58), (.pick (.t 54) (.t 57) (.c (.bool false))), none, 0, false, []⟩,
    ⟨(some 59), (.mv (.t 58)), none, 0, false, []⟩,
    ⟨(some 60), (.fad 3 (.t 1)), (some (59, true)), 0, false, []⟩,
    ⟨(some 61), (.load false 1 (.t 60)), (some (59, true)), 0, false, []⟩,
    ⟨(some 62), (.bin 0 .eql (.t 61) (.c (.int .i64 0))), (some (59, true)), 0, false, []⟩,
    ⟨(some 63), (.pick (.t 59) (.t 62) (.c (.bool false))), none, 0, false, []⟩,
    ⟨(some 2), (.mv (.t 63)), none, 0, false, []⟩] false
def a98_37 : AC := .seq a98_36 .ret
def a98_38 : AC := .reg [⟨(some 65), (.bin 0 .eql (.t 4) (.c (.int .i64 23))), none, 0, false, []⟩,
    ⟨(some 64), (.mv (.t 65)), none, 0, false, []⟩] false
def a98_39 : AC := .reg [⟨(some 66), (.fad 1 (.t 1)), none, 0, false, []⟩,
    ⟨(some 67), (.load false 1 (.t 66)), none, 0, false, []⟩,
    ⟨(some 68), (.call 123 [(.t 67)]), none, 0, false, []⟩,
    ⟨(some 69), (.mv (.t 68)), none, 0, false, []⟩,
    ⟨(some 70), (.fad 2 (.t 1)), (some (69, true)), 0, false, []⟩,
    ⟨(some 71), (.load false 1 (.t 70)), (some (69, true)), 0, false, []⟩,
    ⟨(some 72), (.call 123 [(.t 71)]), (some (69, true)), 0, false, []⟩,
    ⟨(some 73), (.pick (.t 69) (.t 72) (.c (.bool false))), none, 0, false, []⟩,
    ⟨(some 2), (.mv (.t 73)), none, 0, false, []⟩] false
def a98_40 : AC := .seq a98_39 .ret
def a98_41 : AC := .cond (.t 64) a98_40 .skip
def a98_42 : AC := .seq a98_38 a98_41
def a98_43 : AC := .cond (.t 46) a98_37 a98_42
def a98_44 : AC := .seq a98_35 a98_43
def a98_45 : AC := .cond (.t 25) a98_25 a98_44
def a98_46 : AC := .seq a98_23 a98_45
def a98_47 : AC := .cond (.t 5) a98_4 a98_46
def a98_48 : AC := .seq a98_2 a98_47
def a98_49 : AC := .blk 0 a98_48
def a98_50 : AC := .seq a98_1 a98_49
def a98_51 : AC := .reg [⟨(some 74), (.fad 1 (.t 1)), none, 0, false, []⟩,
    ⟨(some 75), (.load false 1 (.t 74)), none, 0, false, []⟩,
    ⟨(some 76), (.bin 0 .eql (.t 75) (.c (.int .i64 0))), none, 0, false, []⟩,
    ⟨(some 77), (.mv (.t 76)), none, 0, false, []⟩,
    ⟨(some 78), (.fad 2 (.t 1)), (some (77, true)), 0, false, []⟩,
    ⟨(some 79), (.load false 1 (.t 78)), (some (77, true)), 0, false, []⟩,
    ⟨(some 80), (.bin 0 .eql (.t 79) (.c (.int .i64 0))), (some (77, true)), 0, false, []⟩,
    ⟨(some 81), (.pick (.t 77) (.t 80) (.c (.bool false))), none, 0, false, []⟩,
    ⟨(some 82), (.mv (.t 81)), none, 0, false, []⟩,
    ⟨(some 83), (.fad 3 (.t 1)), (some (82, true)), 0, false, []⟩,
    ⟨(some 84), (.load false 1 (.t 83)), (some (82, true)), 0, false, []⟩,
    ⟨(some 85), (.bin 0 .eql (.t 84) (.c (.int .i64 0))), (some (82, true)), 0, false, []⟩,
    ⟨(some 86), (.pick (.t 82) (.t 85) (.c (.bool false))), none, 0, false, []⟩,
    ⟨(some 2), (.mv (.t 86)), none, 0, false, []⟩] false
def a98_52 : AC := .seq a98_51 .ret
def a98_53 : AC := .seq a98_50 a98_52
def a98_54 : AC := .seq a98_0 a98_53
def af98 : AF := { ntmps := 87, res := [(.t 2)], body := a98_54 }
theorem tr98 : trF Tryz.prog Tryz.f98 = some af98 := by kernel_rfl
attribute [go_sem] af98 a98_0 a98_1 a98_2 a98_3 a98_4 a98_5 a98_6 a98_7 a98_8 a98_9 a98_10 a98_11 a98_12 a98_13 a98_14 a98_15 a98_16 a98_17 a98_18 a98_19 a98_20 a98_21 a98_22 a98_23 a98_24 a98_25 a98_26 a98_27 a98_28 a98_29 a98_30 a98_31 a98_32 a98_33 a98_34 a98_35 a98_36 a98_37 a98_38 a98_39 a98_40 a98_41 a98_42 a98_43 a98_44 a98_45 a98_46 a98_47 a98_48 a98_49 a98_50 a98_51 a98_52 a98_53 a98_54
def a123_0 : AC := .reg [⟨(some 2), (.mv (.c (.bool false))), none, 0, false, []⟩] false
def a123_1 : AC := .reg [⟨(some 3), (.mv (.t 0)), none, 0, false, []⟩,
    ⟨(some 4), (.bin 0 .geq (.t 3) (.c (.int .i64 0))), none, 0, false, []⟩,
    ⟨(some 5), (.mv (.t 4)), none, 0, false, []⟩,
    ⟨(some 6), (.mv (.t 0)), (some (5, true)), 0, false, []⟩,
    ⟨(some 7), (.bin 0 .leq (.t 6) (.c (.int .i64 1000))), (some (5, true)), 0, false, []⟩,
    ⟨(some 8), (.pick (.t 5) (.t 7) (.c (.bool false))), none, 0, false, []⟩,
    ⟨(some 2), (.mv (.t 8)), none, 0, false, []⟩] false
def a123_2 : AC := .seq a123_1 .ret
def a123_3 : AC := .seq a123_0 a123_2
def af123 : AF := { ntmps := 9, res := [(.t 2)], body := a123_3 }
theorem tr123 : trF Tryz.prog Tryz.f123 = some af123 := by kernel_rfl
attribute [go_sem] af123 a123_0 a123_1 a123_2 a123_3
def a48_0 : AC := .reg [⟨(some 4), (.box (.t 1)), none, 0, false, []⟩,
    ⟨(some 5), (.box (.t 2)), none, 0, false, []⟩,
    ⟨(some 6), (.new [(.int .i64 0), (.int .i64 0), (.int .i64 0), (.int .i64 0), (.int .i64 0), .nils, (.int .i64 0), (.int .i64 0), (.int .i64 0), (.int .i64 0), .nils, (.int .i64 0), (.int .i64 0), (.int .i64 0), (.int .i64 0), .nils, (.int .i64 0), (.int .i64 0), (.int .i64 0), (.int .i64 0), .nils, (.int .i64 0), (.int .i64 0), (.int .i64 0), (.int .i64 0), .nils]), none, 0, false, []⟩] false
def a48_1 : AC := .reg [⟨(some 7), (.mv (.t 0)), none, 0, false, []⟩,
    ⟨(some 8), (.call 83 [(.t 7)]), none, 0, false, []⟩,
    ⟨(some 9), (.un .not (.t 8)), none, 0, false, []⟩,
    ⟨(some 10), (.mv (.t 9)), none, 0, false, []⟩,
    ⟨(some 11), (.load true 5 (.t 4)), (some (10, false)), 0, false, []⟩,
    ⟨(some 12), (.load true 5 (.t 5)), (some (10, false)), 0, false, []⟩,
    ⟨(some 13), (.bslice 5 [(.t 11), (.t 12)]), (some (10, false)), 0, false, []⟩,
    ⟨(some 14), (.call 84 [(.t 13)]), (some (10, false)), 0, false, []⟩,
    ⟨(some 15), (.un .not (.t 14)), (some (10, false)), 0, false, []⟩,
    ⟨(some 16), (.pick (.t 10) (.c (.bool true)) (.t 15)), none, 0, false, []⟩] false
def a48_2 : AC := .reg [⟨(some 17), (.build [(.int .i64 0), (.int .i64 0), (.int .i64 0), (.int .i64 0), (.int .i64 0), .nils, (.int .i64 0), (.int .i64 0), (.int .i64 0), (.int .i64 0), .nils, (.int .i64 0), (.int .i64 0), (.int .i64 0), (.int .i64 0), .nils, (.int .i64 0), (.int .i64 0), (.int .i64 0), (.int .i64 0), .nils, (.int .i64 0), (.int .i64 0), (.int .i64 0), (.int .i64 0), .nils] []), none, 0, false, []⟩,
    ⟨none, (.store 26 (.t 6) (.t 17)), none, 0, false, []⟩] false
def a48_3 : AC := .seq a48_2 .ret
def a48_4 : AC := .cond (.t 16) a48_3 .skip
def a48_5 : AC := .seq a48_1 a48_4
def a48_6 : AC := .reg [⟨(some 18), (.mv (.t 0)), none, 0, false, []⟩,
    ⟨(some 19), (.load true 5 (.t 4)), none, 1, true, []⟩,
    ⟨(some 20), (.load true 5 (.t 4)), none, 2, true, []⟩,
    ⟨(some 21), (.load true 5 (.t 5)), none, 3, true, []⟩,
    ⟨(some 22), (.load true 5 (.t 5)), none, 4, true, []⟩,
    ⟨(some 23), (.mv (.t 0)), none, 5, false, []⟩,
    ⟨(some 24), (.call 86 [(.t 23)]), none, 6, true, [1, 2, 3, 4]⟩,
    ⟨(some 25), (.mv (.t 0)), none, 7, false, []⟩,
    ⟨(some 26), (.load true 5 (.t 4)), none, 8, false, [6]⟩,
    ⟨(some 27), (.load true 5 (.t 5)), none, 9, false, [6]⟩,
    ⟨(some 28), (.call 87 [(.t 25), (.t 26), (.t 27)]), none, 10, false, [1, 2, 3, 4]⟩,
    ⟨(some 29), (.bslice 5 [(.t 24), (.t 28)]), none, 11, false, [1, 2, 3, 4]⟩,
    ⟨(some 30), (.call 58 [(.c (.int .i64 21)), (.c (.int .i64 0)), (.c (.int .i64 0)), (.c (.int .i64 0)), (.t 29)]), none, 12, false, [1, 2, 3, 4]⟩,
    ⟨(some 31), (.call 85 [(.t 18), (.t 19), (.t 20), (.t 21), (.t 22), (.t 30)]), none, 13, false, []⟩,
    ⟨none, (.store 26 (.t 6) (.t 31)), none, 14, false, []⟩] true
def a48_7 : AC := .seq a48_6 .ret
def a48_8 : AC := .seq a48_5 a48_7
def a48_9 : AC := .seq a48_0 a48_8
def af48 : AF := { ntmps := 32, res := [(.cell 6 true 26)], body := a48_9 }
theorem tr48 : trF Tryz.prog Tryz.f48 = some af48 := by kernel_rfl
attribute [go_sem] af48 a48_0 a48_1 a48_2 a48_3 a48_4 a48_5 a48_6 a48_7 a48_8 a48_9
def a79_0 : AC := .reg [⟨(some 1), (.box (.t 0)), none, 0, false, []⟩,
    ⟨(some 2), (.new [(.int .i64 0), (.int .i64 0), (.int .i64 0), (.int .i64 0), .nils]), none, 0, false, []⟩] false
def a79_1 : AC := .reg [⟨(some 3), (.load true 26 (.t 1)), none, 0, false, []⟩,
    ⟨(some 4), (.call 101 [(.t 3)]), none, 0, false, []⟩,
    ⟨(some 5), (.un .not (.t 4)), none, 0, false, []⟩] false
def a79_2 : AC := .reg [⟨(some 6), (.build [(.int .i64 0), (.int .i64 0), (.int .i64 0), (.int .i64 0), .nils] []), none, 0, false, []⟩,
    ⟨none, (.store 5 (.t 2) (.t 6)), none, 0, false, []⟩] false
def a79_3 : AC := .seq a79_2 .ret
def a79_4 : AC := .cond (.t 5) a79_3 .skip
def a79_5 : AC := .seq a79_1 a79_4
def a79_6 : AC := .reg [⟨(some 7), (.fad 0 (.t 1)), none, 0, false, []⟩,
    ⟨(some 8), (.load false 1 (.t 7)), none, 0, false, []⟩,
    ⟨(some 9), (.fad 1 (.t 1)), none, 0, false, []⟩,
    ⟨(some 10), (.load true 5 (.t 9)), none, 0, false, []⟩,
    ⟨(some 11), (.fad 6 (.t 1)), none, 0, false, []⟩,
    ⟨(some 12), (.load true 5 (.t 11)), none, 0, false, []⟩,
    ⟨(some 13), (.fad 11 (.t 1)), none, 0, false, []⟩,
    ⟨(some 14), (.load true 5 (.t 13)), none, 0, false, []⟩,
    ⟨(some 15), (.fad 16 (.t 1)), none, 0, false, []⟩,
    ⟨(some 16), (.load true 5 (.t 15)), none, 0, false, []⟩,
    ⟨(some 17), (.bslice 5 [(.t 10), (.t 12), (.t 14), (.t 16)]), none, 0, false, []⟩,
    ⟨(some 18), (.call 110 [(.c (.int .i64 6)), (.t 8), (.t 17)]), none, 0, false, []⟩,
    ⟨none, (.store 5 (.t 2) (.t 18)), none, 0, false, []⟩] false
def a79_7 : AC := .seq a79_6 .ret
def a79_8 : AC := .seq a79_5 a79_7
def a79_9 : AC := .seq a79_0 a79_8
def af79 : AF := { ntmps := 19, res := [(.cell 2 true 5)], body := a79_9 }
theorem tr79 : trF Tryz.prog Tryz.f79 = some af79 := by kernel_rfl
attribute [go_sem] af79 a79_0 a79_1 a79_2 a79_3 a79_4 a79_5 a79_6 a79_7 a79_8 a79_9
end Go.Proofs.YtkldipbhenabfaaGreat.Abs

