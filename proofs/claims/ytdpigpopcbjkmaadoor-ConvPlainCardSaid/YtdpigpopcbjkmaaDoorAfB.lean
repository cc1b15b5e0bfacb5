/- The abstract code of functions, printed by program; that it is the translation of the model's code is decided by the kernel. -/
import Derived.Test.YtdpigpopcbjkmaaDoorEv
import Derived.Test.YtdpigpopcbjkmaaDoorProg
import Derived.KernelRfl
namespace Go.Proofs.YtdpigpopcbjkmaaDoor.Abs
open Go Go.Proofs Go.Proofs.YtdpigpopcbjkmaaDoor
def a15_0 : AC := .reg [⟨(some 1), (.box (.t 0)), none, 0, false, []⟩,
    ⟨(some 2), (.mv (.c (.bool false))), none, 0, false, []⟩] false
def a15_1 : AC := .reg [⟨(some 3), (.load true 5 (.t 1)), none, 0, false, []⟩,
    ⟨(some 4), (.call 32 [(.t 3), (.c (.int .i64 2))]), none, 0, false, []⟩,
    ⟨(some 2), (.mv (.t 4)), none, 0, false, []⟩] false
def a15_2 : AC := .seq a15_1 .ret
def a15_3 : AC := .seq a15_0 a15_2
def af15 : AF := { ntmps := 5, res := [(.t 2)], body := a15_3 }
theorem tr15 : trF Tryd.prog Tryd.f15 = some af15 := by kernel_rfl
attribute [go_sem] af15 a15_0 a15_1 a15_2 a15_3
def a32_0 : AC := .reg [⟨(some 2), (.box (.t 0)), none, 0, false, []⟩,
    ⟨(some 4), (.mv (.c (.bool false))), none, 0, false, []⟩] false
def a32_1 : AC := .reg [⟨(some 9), (.fad 0 (.t 2)), none, 0, false, []⟩,
    ⟨(some 10), (.load false 1 (.t 9)), none, 0, false, []⟩,
    ⟨(some 11), (.call 47 [(.t 10)]), none, 0, false, []⟩,
    ⟨(some 5), (.mv (.t 11)), none, 0, false, []⟩] false
def a32_2 : AC := .reg [⟨(some 12), (.mv (.t 1)), none, 0, false, []⟩,
    ⟨(some 13), (.bin 0 .neq (.t 12) (.c (.int .i64 0))), none, 0, false, []⟩,
    ⟨(some 14), (.mv (.t 13)), none, 0, false, []⟩,
    ⟨(some 15), (.mv (.t 5)), (some (14, true)), 0, false, []⟩,
    ⟨(some 16), (.bin 0 .neq (.t 15) (.c (.int .i64 0))), (some (14, true)), 0, false, []⟩,
    ⟨(some 17), (.pick (.t 14) (.t 16) (.c (.bool false))), none, 0, false, []⟩,
    ⟨(some 18), (.mv (.t 17)), none, 0, false, []⟩,
    ⟨(some 19), (.mv (.t 5)), (some (18, true)), 0, false, []⟩,
    ⟨(some 20), (.mv (.t 1)), (some (18, true)), 0, false, []⟩,
    ⟨(some 21), (.bin 0 .neq (.t 19) (.t 20)), (some (18, true)), 0, false, []⟩,
    ⟨(some 22), (.pick (.t 18) (.t 21) (.c (.bool false))), none, 0, false, []⟩] false
def a32_3 : AC := .reg [⟨(some 4), (.mv (.c (.bool false))), none, 0, false, []⟩] false
def a32_4 : AC := .seq a32_3 .ret
def a32_5 : AC := .cond (.t 22) a32_4 .skip
def a32_6 : AC := .seq a32_2 a32_5
def a32_7 : AC := .reg [⟨(some 23), (.fad 4 (.t 2)), none, 0, false, []⟩,
    ⟨(some 24), (.load false 1 (.t 23)), none, 1, true, []⟩,
    ⟨(some 25), (.len false (.t 24)), none, 2, false, []⟩,
    ⟨(some 26), (.fad 0 (.t 2)), none, 3, false, []⟩,
    ⟨(some 27), (.load false 1 (.t 26)), none, 4, false, []⟩,
    ⟨(some 28), (.fad 3 (.t 2)), none, 5, false, []⟩,
    ⟨(some 29), (.load false 1 (.t 28)), none, 6, false, []⟩,
    ⟨(some 30), (.call 48 [(.t 27), (.t 29)]), none, 7, false, [1]⟩,
    ⟨(some 31), (.bin 0 .neq (.t 25) (.t 30)), none, 8, false, []⟩,
    ⟨(some 32), (.mv (.t 31)), none, 9, false, []⟩,
    ⟨(some 33), (.load true 5 (.t 2)), (some (32, false)), 10, false, []⟩,
    ⟨(some 34), (.call 49 [(.t 33)]), (some (32, false)), 11, false, []⟩,
    ⟨(some 35), (.un .not (.t 34)), (some (32, false)), 12, false, []⟩,
    ⟨(some 36), (.pick (.t 32) (.c (.bool true)) (.t 35)), none, 13, false, []⟩] true
def a32_8 : AC := .reg [⟨(some 4), (.mv (.c (.bool false))), none, 0, false, []⟩] false
def a32_9 : AC := .seq a32_8 .ret
def a32_10 : AC := .cond (.t 36) a32_9 .skip
def a32_11 : AC := .seq a32_7 a32_10
def a32_12 : AC := .reg [⟨(some 37), (.fad 4 (.t 2)), none, 0, false, []⟩,
    ⟨(some 38), (.load false 1 (.t 37)), none, 0, false, []⟩,
    ⟨(some 39), (.len false (.t 38)), none, 0, false, []⟩,
    ⟨(some 40), (.mv (.c (.int .i64 0))), none, 0, false, []⟩] false
def a32_13 : AC := .reg [⟨(some 41), (.bin 0 .lss (.t 40) (.t 39)), none, 0, false, []⟩] false
def a32_14 : AC := .cond (.t 41) .skip (.exit 0)
def a32_15 : AC := .reg [⟨(some 42), (.mv (.t 40)), none, 0, false, []⟩,
    ⟨(some 43), (.iad 5 (.t 38) (.t 40)), none, 0, false, []⟩,
    ⟨(some 44), (.load true 5 (.t 43)), none, 0, false, []⟩,
    ⟨(some 7), (.new [(.int .i64 0), (.int .i64 0), (.int .i64 0), (.int .i64 0), .nils]), none, 0, false, []⟩,
    ⟨(some 6), (.mv (.t 42)), none, 0, false, []⟩,
    ⟨none, (.store 5 (.t 7) (.t 44)), none, 0, false, []⟩] false
def a32_16 : AC := .reg [⟨(some 45), (.mv (.t 5)), none, 0, false, []⟩,
    ⟨(some 8), (.mv (.t 45)), none, 0, false, []⟩] false
def a32_17 : AC := .reg [⟨(some 46), (.fad 0 (.t 2)), none, 0, false, []⟩,
    ⟨(some 47), (.load false 1 (.t 46)), none, 0, false, []⟩,
    ⟨(some 48), (.bin 0 .eql (.t 47) (.c (.int .i64 12))), none, 0, false, []⟩,
    ⟨(some 49), (.mv (.t 48)), none, 0, false, []⟩,
    ⟨(some 50), (.mv (.t 6)), (some (49, true)), 0, false, []⟩,
    ⟨(some 51), (.bin 0 .eql (.t 50) (.c (.int .i64 2))), (some (49, true)), 0, false, []⟩,
    ⟨(some 52), (.pick (.t 49) (.t 51) (.c (.bool false))), none, 0, false, []⟩] false
def a32_18 : AC := .reg [⟨(some 8), (.mv (.c (.int .i64 2))), none, 0, false, []⟩] false
def a32_19 : AC := .cond (.t 52) a32_18 .skip
def a32_20 : AC := .seq a32_17 a32_19
def a32_21 : AC := .reg [⟨(some 53), (.load true 5 (.t 7)), none, 0, false, []⟩,
    ⟨(some 54), (.mv (.t 8)), none, 0, false, []⟩,
    ⟨(some 55), (.call 32 [(.t 53), (.t 54)]), none, 0, false, []⟩,
    ⟨(some 56), (.un .not (.t 55)), none, 0, false, []⟩] false
def a32_22 : AC := .reg [⟨(some 4), (.mv (.c (.bool false))), none, 0, false, []⟩] false
def a32_23 : AC := .seq a32_22 .ret
def a32_24 : AC := .cond (.t 56) a32_23 .skip
def a32_25 : AC := .seq a32_21 a32_24
def a32_26 : AC := .seq a32_20 a32_25
def a32_27 : AC := .seq a32_16 a32_26
def a32_28 : AC := .seq a32_15 a32_27
def a32_29 : AC := .blk 1 a32_28
def a32_30 : AC := .reg [⟨(some 57), (.bin 0 .add (.t 40) (.c (.int .i64 1))), none, 0, false, []⟩,
    ⟨(some 40), (.mv (.t 57)), none, 0, false, []⟩] false
def a32_31 : AC := .seq a32_29 a32_30
def a32_32 : AC := .seq a32_14 a32_31
def a32_33 : AC := .seq a32_13 a32_32
def a32_34 : AC := .loop a32_33
def a32_35 : AC := .blk 0 a32_34
def a32_36 : AC := .seq a32_12 a32_35
def a32_37 : AC := .reg [⟨(some 4), (.mv (.c (.bool true))), none, 0, false, []⟩] false
def a32_38 : AC := .seq a32_37 .ret
def a32_39 : AC := .seq a32_36 a32_38
def a32_40 : AC := .seq a32_11 a32_39
def a32_41 : AC := .seq a32_6 a32_40
def a32_42 : AC := .seq a32_1 a32_41
def a32_43 : AC := .seq a32_0 a32_42
def af32 : AF := { ntmps := 58, res := [(.t 4)], body := a32_43 }
theorem tr32 : trF Tryd.prog Tryd.f32 = some af32 := by kernel_rfl
attribute [go_sem] af32 a32_0 a32_1 a32_2 a32_3 a32_4 a32_5 a32_6 a32_7 a32_8 a32_9 a32_10 a32_11 a32_12 a32_13 a32_14 a32_15 a32_16 a32_17 a32_18 a32_19 a32_20 a32_21 a32_22 a32_23 a32_24 a32_25 a32_26 a32_27 a32_28 a32_29 a32_30 a32_31 a32_32 a32_33 a32_34 a32_35 a32_36 a32_37 a32_38 a32_39 a32_40 a32_41 a32_42 a32_43
def a47_0 : AC := .reg [⟨(some 2), (.mv (.c (.int .i64 0))), none, 0, false, []⟩] false
def a47_1 : AC := .reg [⟨(some 4), (.mv (.t 0)), none, 0, false, []⟩,
    ⟨(some 5), (.bin 0 .eql (.t 4) (.c (.int .i64 1))), none, 0, false, []⟩,
    ⟨(some 6), (.mv (.t 5)), none, 0, false, []⟩,
    ⟨(some 7), (.mv (.t 0)), (some (6, false)), 0, false, []⟩,
    ⟨(some 8), (.bin 0 .eql (.t 7) (.c (.int .i64 2))), (some (6, false)), 0, false, []⟩,
    ⟨(some 9), (.pick (.t 6) (.c (.bool true)) (.t 8)), none, 0, false, []⟩,
    ⟨(some 3), (.mv (.t 9)), none, 0, false, []⟩] false
def a47_2 : AC := .reg [⟨(some 2), (.mv (.c (.int .i64 0))), none, 0, false, []⟩] false
def a47_3 : AC := .seq a47_2 .ret
def a47_4 : AC := .reg [⟨(some 11), (.mv (.t 0)), none, 0, false, []⟩,
    ⟨(some 12), (.bin 0 .leq (.t 11) (.c (.int .i64 12))), none, 0, false, []⟩,
    ⟨(some 10), (.mv (.t 12)), none, 0, false, []⟩] false
def a47_5 : AC := .reg [⟨(some 2), (.mv (.c (.int .i64 1))), none, 0, false, []⟩] false
def a47_6 : AC := .seq a47_5 .ret
def a47_7 : AC := .cond (.t 10) a47_6 .skip
def a47_8 : AC := .seq a47_4 a47_7
def a47_9 : AC := .cond (.t 3) a47_3 a47_8
def a47_10 : AC := .seq a47_1 a47_9
def a47_11 : AC := .blk 0 a47_10
def a47_12 : AC := .reg [⟨(some 2), (.mv (.c (.int .i64 2))), none, 0, false, []⟩] false
def a47_13 : AC := .seq a47_12 .ret
def a47_14 : AC := .seq a47_11 a47_13
def a47_15 : AC := .seq a47_0 a47_14
def af47 : AF := { ntmps := 13, res := [(.t 2)], body := a47_15 }
theorem tr47 : trF Tryd.prog Tryd.f47 = some af47 := by kernel_rfl
attribute [go_sem] af47 a47_0 a47_1 a47_2 a47_3 a47_4 a47_5 a47_6 a47_7 a47_8 a47_9 a47_10 a47_11 a47_12 a47_13 a47_14 a47_15
def a48_0 : AC := .reg [⟨(some 4), (.mv (.c (.int .i64 0))), none, 0, false, []⟩] false
def a48_1 : AC := .reg [⟨(some 5), (.mv (.t 0)), none, 0, false, []⟩] false
def a48_2 : AC := .reg [⟨(some 7), (.bin 0 .eql (.t 5) (.c (.int .i64 1))), none, 0, false, []⟩,
    ⟨(some 6), (.mv (.t 7)), none, 0, false, []⟩] false
def a48_3 : AC := .reg [⟨(some 8), (.bin 0 .eql (.t 5) (.c (.int .i64 2))), none, 0, false, []⟩,
    ⟨(some 6), (.mv (.t 8)), none, 0, false, []⟩] false
def a48_4 : AC := .cond (.t 6) .skip a48_3
def a48_5 : AC := .seq a48_2 a48_4
def a48_6 : AC := .reg [⟨(some 4), (.mv (.c (.int .i64 0))), none, 0, false, []⟩] false
def a48_7 : AC := .seq a48_6 .ret
def a48_8 : AC := .reg [⟨(some 10), (.bin 0 .eql (.t 5) (.c (.int .i64 18))), none, 0, false, []⟩,
    ⟨(some 9), (.mv (.t 10)), none, 0, false, []⟩] false
def a48_9 : AC := .reg [⟨(some 11), (.bin 0 .eql (.t 5) (.c (.int .i64 19))), none, 0, false, []⟩,
    ⟨(some 9), (.mv (.t 11)), none, 0, false, []⟩] false
def a48_10 : AC := .cond (.t 9) .skip a48_9
def a48_11 : AC := .seq a48_8 a48_10
def a48_12 : AC := .reg [⟨(some 4), (.mv (.c (.int .i64 1))), none, 0, false, []⟩] false
def a48_13 : AC := .seq a48_12 .ret
def a48_14 : AC := .reg [⟨(some 13), (.bin 0 .eql (.t 5) (.c (.int .i64 3))), none, 0, false, []⟩,
    ⟨(some 12), (.mv (.t 13)), none, 0, false, []⟩] false
def a48_15 : AC := .reg [⟨(some 14), (.bin 0 .eql (.t 5) (.c (.int .i64 6))), none, 0, false, []⟩,
    ⟨(some 12), (.mv (.t 14)), none, 0, false, []⟩] false
def a48_16 : AC := .reg [⟨(some 15), (.bin 0 .eql (.t 5) (.c (.int .i64 13))), none, 0, false, []⟩,
    ⟨(some 12), (.mv (.t 15)), none, 0, false, []⟩] false
def a48_17 : AC := .reg [⟨(some 16), (.bin 0 .eql (.t 5) (.c (.int .i64 14))), none, 0, false, []⟩,
    ⟨(some 12), (.mv (.t 16)), none, 0, false, []⟩] false
def a48_18 : AC := .reg [⟨(some 17), (.bin 0 .eql (.t 5) (.c (.int .i64 15))), none, 0, false, []⟩,
    ⟨(some 12), (.mv (.t 17)), none, 0, false, []⟩] false
def a48_19 : AC := .reg [⟨(some 18), (.bin 0 .eql (.t 5) (.c (.int .i64 16))), none, 0, false, []⟩,
    ⟨(some 12), (.mv (.t 18)), none, 0, false, []⟩] false
def a48_20 : AC := .reg [⟨(some 19), (.bin 0 .eql (.t 5) (.c (.int .i64 21))), none, 0, false, []⟩,
    ⟨(some 12), (.mv (.t 19)), none, 0, false, []⟩] false
def a48_21 : AC := .reg [⟨(some 20), (.bin 0 .eql (.t 5) (.c (.int .i64 11))), none, 0, false, []⟩,
    ⟨(some 12), (.mv (.t 20)), none, 0, false, []⟩] false
def a48_22 : AC := .cond (.t 12) .skip a48_21
def a48_23 : AC := .seq a48_20 a48_22
def a48_24 : AC := .cond (.t 12) .skip a48_23
def a48_25 : AC := .seq a48_19 a48_24
def a48_26 : AC := .cond (.t 12) .skip a48_25
def a48_27 : AC := .seq a48_18 a48_26
def a48_28 : AC := .cond (.t 12) .skip a48_27
def a48_29 : AC := .seq a48_17 a48_28
def a48_30 : AC := .cond (.t 12) .skip a48_29
def a48_31 : AC := .seq a48_16 a48_30
def a48_32 : AC := .cond (.t 12) .skip a48_31
def a48_33 : AC := .seq a48_15 a48_32
def a48_34 : AC := .cond (.t 12) .skip a48_33
def a48_35 : AC := .seq a48_14 a48_34
def a48_36 : AC := .reg [⟨(some 4), (.mv (.c (.int .i64 2))), none, 0, false, []⟩] false
def a48_37 : AC := .seq a48_36 .ret
def a48_38 : AC := .reg [⟨(some 22), (.bin 0 .eql (.t 5) (.c (.int .i64 4))), none, 0, false, []⟩,
    ⟨(some 21), (.mv (.t 22)), none, 0, false, []⟩] false
def a48_39 : AC := .reg [⟨(some 23), (.bin 0 .eql (.t 5) (.c (.int .i64 8))), none, 0, false, []⟩,
    ⟨(some 21), (.mv (.t 23)), none, 0, false, []⟩] false
def a48_40 : AC := .reg [⟨(some 24), (.bin 0 .eql (.t 5) (.c (.int .i64 9))), none, 0, false, []⟩,
    ⟨(some 21), (.mv (.t 24)), none, 0, false, []⟩] false
def a48_41 : AC := .reg [⟨(some 25), (.bin 0 .eql (.t 5) (.c (.int .i64 10))), none, 0, false, []⟩,
    ⟨(some 21), (.mv (.t 25)), none, 0, false, []⟩] false
def a48_42 : AC := .reg [⟨(some 26), (.bin 0 .eql (.t 5) (.c (.int .i64 20))), none, 0, false, []⟩,
    ⟨(some 21), (.mv (.t 26)), none, 0, false, []⟩] false
def a48_43 : AC := .cond (.t 21) .skip a48_42
def a48_44 : AC := .seq a48_41 a48_43
def a48_45 : AC := .cond (.t 21) .skip a48_44
def a48_46 : AC := .seq a48_40 a48_45
def a48_47 : AC := .cond (.t 21) .skip a48_46
def a48_48 : AC := .seq a48_39 a48_47
def a48_49 : AC := .cond (.t 21) .skip a48_48
def a48_50 : AC := .seq a48_38 a48_49
def a48_51 : AC := .reg [⟨(some 4), (.mv (.c (.int .i64 3))), none, 0, false, []⟩] false
def a48_52 : AC := .seq a48_51 .ret
def a48_53 : AC := .reg [⟨(some 28), (.bin 0 .eql (.t 5) (.c (.int .i64 5))), none, 0, false, []⟩,
    ⟨(some 27), (.mv (.t 28)), none, 0, false, []⟩] false
def a48_54 : AC := .reg [⟨(some 29), (.bin 0 .eql (.t 5) (.c (.int .i64 7))), none, 0, false, []⟩,
    ⟨(some 27), (.mv (.t 29)), none, 0, false, []⟩] false
def a48_55 : AC := .reg [⟨(some 30), (.bin 0 .eql (.t 5) (.c (.int .i64 12))), none, 0, false, []⟩,
    ⟨(some 27), (.mv (.t 30)), none, 0, false, []⟩] false
def a48_56 : AC := .reg [⟨(some 31), (.bin 0 .eql (.t 5) (.c (.int .i64 17))), none, 0, false, []⟩,
    ⟨(some 27), (.mv (.t 31)), none, 0, false, []⟩] false
def a48_57 : AC := .cond (.t 27) .skip a48_56
def a48_58 : AC := .seq a48_55 a48_57
def a48_59 : AC := .cond (.t 27) .skip a48_58
def a48_60 : AC := .seq a48_54 a48_59
def a48_61 : AC := .cond (.t 27) .skip a48_60
def a48_62 : AC := .seq a48_53 a48_61
def a48_63 : AC := .reg [⟨(some 4), (.mv (.c (.int .i64 4))), none, 0, false, []⟩] false
def a48_64 : AC := .seq a48_63 .ret
def a48_65 : AC := .reg [⟨(some 33), (.bin 0 .eql (.t 5) (.c (.int .i64 22))), none, 0, false, []⟩,
    ⟨(some 32), (.mv (.t 33)), none, 0, false, []⟩] false
def a48_66 : AC := .reg [⟨(some 4), (.mv (.c (.int .i64 6))), none, 0, false, []⟩] false
def a48_67 : AC := .seq a48_66 .ret
def a48_68 : AC := .reg [⟨(some 35), (.bin 0 .eql (.t 5) (.c (.int .i64 23))), none, 0, false, []⟩,
    ⟨(some 34), (.mv (.t 35)), none, 0, false, []⟩] false
def a48_69 : AC := .reg [⟨(some 36), (.mv (.t 1)), none, 0, false, []⟩,
    ⟨(some 37), (.call 65 [(.t 36)]), none, 0, false, []⟩,
    ⟨(some 4), (.mv (.t 37)), none, 0, false, []⟩] false
def a48_70 : AC := .seq a48_69 .ret
def a48_71 : AC := .cond (.t 34) a48_70 .skip
def a48_72 : AC := .seq a48_68 a48_71
def a48_73 : AC := .cond (.t 32) a48_67 a48_72
def a48_74 : AC := .seq a48_65 a48_73
def a48_75 : AC := .cond (.t 27) a48_64 a48_74
def a48_76 : AC := .seq a48_62 a48_75
def a48_77 : AC := .cond (.t 21) a48_52 a48_76
def a48_78 : AC := .seq a48_50 a48_77
def a48_79 : AC := .cond (.t 12) a48_37 a48_78
def a48_80 : AC := .seq a48_35 a48_79
def a48_81 : AC := .cond (.t 9) a48_13 a48_80
def a48_82 : AC := .seq a48_11 a48_81
def a48_83 : AC := .cond (.t 6) a48_7 a48_82
def a48_84 : AC := .seq a48_5 a48_83
def a48_85 : AC := .blk 0 a48_84
def a48_86 : AC := .seq a48_1 a48_85
def a48_87 : AC := .reg [⟨(some 4), (.mv (.c (.int .i64 (-1)))), none, 0, false, []⟩] false
def a48_88 : AC := .seq a48_87 .ret
def a48_89 : AC := .seq a48_86 a48_88
def a48_90 : AC := .seq a48_0 a48_89
def af48 : AF := { ntmps := 38, res := [(.t 4)], body := a48_90 }
theorem tr48 : trF Tryd.prog Tryd.f48 = some af48 := by kernel_rfl
attribute [go_sem] af48 a48_0 a48_1 a48_2 a48_3 a48_4 a48_5 a48_6 a48_7 a48_8 a48_9 a48_10 a48_11 a48_12 a48_13 a48_14 a48_15 a48_16 a48_17 a48_18 a48_19 a48_20 a48_21 a48_22 a48_23 a48_24 a48_25 a48_26 a48_27 a48_28 a48_29 a48_30 a48_31 a48_32 a48_33 a48_34 a48_35 a48_36 a48_37 a48_38 a48_39 a48_40 a48_41 a48_42 a48_43 a48_44 a48_45 a48_46 a48_47 a48_48 a48_49 a48_50 a48_51 a48_52 a48_53 a48_54 a48_55 a48_56 a48_57 a48_58 a48_59 a48_60 a48_61 a48_62 a48_63 a48_64 a48_65 a48_66 a48_67 a48_68 a48_69 a48_70 a48_71 a48_72 a48_73 a48_74 a48_75 a48_76 a48_77 a48_78 a48_79 a48_80 a48_81 a48_82 a48_83 a48_84 a48_85 a48_86 a48_87 a48_88 a48_89 a48_90
def a49_0 : AC := .reg [⟨(some 1), (.box (.t 0)), none, 0, false, []⟩,
    ⟨(some 2), (.mv (.c (.bool false))), none, 0, false, []⟩] false
def a49_1 : AC := .reg [⟨(some 3), (.fad 0 (.t 1)), none, 0, false, []⟩,
    ⟨(some 4), (.load false 1 (.t 3)), none, 0, false, []⟩] false
def a49_2 : AC := .reg [⟨(some 6), (.bin 0 .eql (.t 4) (.c (.int .i64 1))), none, 0, false, []⟩,
    ⟨(some 5), (.mv (.t 6)), none, 0, false, []⟩] false
def a49_3 : AC := .reg [⟨(some 7), (.bin 0 .eql (.t 4) (.c (.int .i64 10))), none, 0, false, []⟩,
    ⟨(some 5), (.mv (.t 7)), none, 0, false, []⟩] false
def a49_4 : AC := .reg [⟨(some 8), (.bin 0 .eql (.t 4) (.c (.int .i64 11))), none, 0, false, []⟩,
    ⟨(some 5), (.mv (.t 8)), none, 0, false, []⟩] false
def a49_5 : AC := .reg [⟨(some 9), (.bin 0 .eql (.t 4) (.c (.int .i64 12))), none, 0, false, []⟩,
    ⟨(some 5), (.mv (.t 9)), none, 0, false, []⟩] false
def a49_6 : AC := .cond (.t 5) .skip a49_5
def a49_7 : AC := .seq a49_4 a49_6
def a49_8 : AC := .cond (.t 5) .skip a49_7
def a49_9 : AC := .seq a49_3 a49_8
def a49_10 : AC := .cond (.t 5) .skip a49_9
def a49_11 : AC := .seq a49_2 a49_10
def a49_12 : AC := .reg [⟨(some 10), (.fad 1 (.t 1)), none, 0, false, []⟩,
    ⟨(some 11), (.load false 1 (.t 10)), none, 0, false, []⟩,
    ⟨(some 12), (.call 66 [(.t 11)]), none, 0, false, []⟩,
    ⟨(some 13), (.mv (.t 12)), none, 0, false, []⟩,
    ⟨(some 14), (.fad 2 (.t 1)), (some (13, true)), 0, false, []⟩,
    ⟨(some 15), (.load false 1 (.t 14)), (some (13, true)), 0, false, []⟩,
    ⟨(some 16), (.bin 0 .eql (.t 15) (.c (.int .i64 0))), (some (13, true)), 0, false, []⟩,
    ⟨(some 17), (.pick (.t 13) (.t 16) (.c (.bool false))), none, 0, false, []⟩,
    ⟨(some 18), (.mv (.t 17)), none, 0, false, []⟩,
    ⟨(some 19), (.fad 3 (.t 1)), (some (18, true)), 0, false, []⟩,
    ⟨(some 20), (.load false 1 (.t 19)), (some (18, true)), 0, false, []⟩,
    ⟨(some 21), (.bin 0 .eql (.t 20) (.c (.int .i64 0))), (some (18, true)), 0, false, []⟩,
    ⟨(some 22), (.pick (.t 18) (.t 21) (.c (.bool false))), none, 0, false, []⟩,
    ⟨(some 2), (.mv (.t 22)), none, 0, false, []⟩] false
def a49_13 : AC := .seq a49_12 .ret
def a49_14 : AC := .reg [⟨(some 24), (.bin 0 .eql (.t 4) (.c (.int .i64 2))), none, 0, false, []⟩,
    ⟨(some 23), (.mv (.t 24)), none, 0, false, []⟩] false
def a49_15 : AC := .reg [⟨(some 25), (.fad 1 (.t 1)), none, 0, false, []⟩,
    ⟨(some 26), (.load false 1 (.t 25)), none, 0, false, []⟩,
    ⟨(some 27), (.bin 0 .geq (.t 26) (.c (.int .i64 0))), none, 0, false, []⟩,
    ⟨(some 28), (.mv (.t 27)), none, 0, false, []⟩,
    ⟨(some 29), (.fad 1 (.t 1)), (some (28, true)), 0, false, []⟩,
    ⟨(some 30), (.load false 1 (.t 29)), (some (28, true)), 0, false, []⟩,
    ⟨(some 31), (.bin 0 .leq (.t 30) (.c (.int .i64 2147483647))), (some (28, true)), 0, false, []⟩,
    ⟨(some 32), (.pick (.t 28) (.t 31) (.c (.bool false))), none, 0, false, []⟩,
    ⟨(some 33), (.mv (.t 32)), none, 0, false, []⟩,
    ⟨(some 34), (.fad 2 (.t 1)), (some (33, true)), 0, false, []⟩,
    ⟨(some 35), (.load false 1 (.t 34)), (some (33, true)), 0, false, []⟩,
    ⟨(some 36), (.bin 0 .eql (.t 35) (.c (.int .i64 0))), (some (33, true)), 0, false, []⟩,
    ⟨(some 37), (.pick (.t 33) (.t 36) (.c (.bool false))), none, 0, false, []⟩,
    ⟨(some 38), (.mv (.t 37)), none, 0, false, []⟩,
    ⟨(some 39), (.fad 3 (.t 1)), (some (38, true)), 0, false, []⟩,
    ⟨(some 40), (.load false 1 (.t 39)), (some (38, true)), 0, false, []⟩,
    ⟨(some 41), (.bin 0 .eql (.t 40) (.c (.int .i64 0))), (some (38, true)), 0, false, []⟩,
    ⟨(some 42), (.pick (.t 38) (.t 41) (.c (.bool false))), none, 0, false, []⟩,
    ⟨(some 2), (.mv (.t 42)), none, 0, false, []⟩] false
def a49_16 : AC := .seq a49_15 .ret
def a49_17 : AC := .reg [⟨(some 44), (.bin 0 .eql (.t 4) (.c (.int .i64 3))), none, 0, false, []⟩,
    ⟨(some 43), (.mv (.t 44)), none, 0, false, []⟩] false
def a49_18 : AC := .reg [⟨(some 45), (.bin 0 .eql (.t 4) (.c (.int .i64 4))), none, 0, false, []⟩,
    ⟨(some 43), (.mv (.t 45)), none, 0, false, []⟩] false
def a49_19 : AC := .reg [⟨(some 46), (.bin 0 .eql (.t 4) (.c (.int .i64 5))), none, 0, false, []⟩,
    ⟨(some 43), (.mv (.t 46)), none, 0, false, []⟩] false
def a49_20 : AC := .reg [⟨(some 47), (.bin 0 .eql (.t 4) (.c (.int .i64 6))), none, 0, false, []⟩,
    ⟨(some 43), (.mv (.t 47)), none, 0, false, []⟩] false
def a49_21 : AC := .reg [⟨(some 48), (.bin 0 .eql (.t 4) (.c (.int .i64 7))), none, 0, false, []⟩,
    ⟨(some 43), (.mv (.t 48)), none, 0, false, []⟩] false
def a49_22 : AC := .reg [⟨(some 49), (.bin 0 .eql (.t 4) (.c (.int .i64 8))), none, 0, false, []⟩,
    ⟨(some 43), (.mv (.t 49)), none, 0, false, []⟩] false
def a49_23 : AC := .reg [⟨(some 50), (.bin 0 .eql (.t 4) (.c (.int .i64 9))), none, 0, false, []⟩,
    ⟨(some 43), (.mv (.t 50)), none, 0, false, []⟩] false
def a49_24 : AC := .cond (.t 43) .skip a49_23
def a49_25 : AC := .seq a49_22 a49_24
def a49_26 : AC := .cond (.t 43) .skip a49_25
def a49_27 : AC := .seq a49_21 a49_26
def a49_28 : AC := .cond (.t 43) .skip a49_27
def a49_29 : AC := .seq a49_20 a49_28
def a49_30 : AC := .cond (.t 43) .skip a49_29
def a49_31 : AC := .seq a49_19 a49_30
def a49_32 : AC := .cond (.t 43) .skip a49_31
def a49_33 : AC := .seq a49_18 a49_32
def a49_34 : AC := .cond (.t 43) .skip a49_33
def a49_35 : AC := .seq a49_17 a49_34
def a49_36 : AC := .reg [⟨(some 51), (.fad 1 (.t 1)), none, 0, false, []⟩,
    ⟨(some 52), (.load false 1 (.t 51)), none, 0, false, []⟩,
    ⟨(some 53), (.call 66 [(.t 52)]), none, 0, false, []⟩,
    ⟨(some 54), (.mv (.t 53)), none, 0, false, []⟩,
    ⟨(some 55), (.fad 2 (.t 1)), (some (54, true)), 0, false, []⟩,
    ⟨(some 56), (.load false 1 (.t 55)), (some (54, true)), 0, false, []⟩,
    ⟨(some 57), (.call 66 [(.t 56)]), (some (54, true)), 0, false, []⟩,
    ⟨(some 58), (.pick (.t 54) (.t 57) (.c (.bool false))), none, 0, false, []⟩,
    ⟨(some 59), (.mv (.t 58)), none, 0, false, []⟩,
    ⟨(some 60), (.fad 3 (.t 1)), (some (59, true)), 0, false, []⟩,
    ⟨(some 61), (.load false 1 (.t 60)), (some (59, true)), 0, false, []⟩,
    ⟨(some 62), (.bin 0 .eql (.t 61) (.c (.int .i64 0))), (some (59, true)), 0, false, []⟩,
    ⟨(some 63), (.pick (.t 59) (.t 62) (.c (.bool false))), none, 0, false, []⟩,
    ⟨(some 2), (.mv (.t 63)), none, 0, false, []⟩] false
def a49_37 : AC := .seq a49_36 .ret
def a49_38 : AC := .reg [⟨(some 65), (.bin 0 .eql (.t 4) (.c (.int .i64 23))), none, 0, false, []⟩,
    ⟨(some 64), (.mv (.t 65)), none, 0, false, []⟩] false
def a49_39 : AC := .reg [⟨(some 66), (.fad 1 (.t 1)), none, 0, false, []⟩,
    ⟨(some 67), (.load false 1 (.t 66)), none, 0, false, []⟩,
    ⟨(some 68), (.call 66 [(.t 67)]), none, 0, false, []⟩,
    ⟨(some 69), (.mv (.t 68)), none, 0, false, []⟩,
    ⟨(some 70), (.fad 2 (.t 1)), (some (69, true)), 0, false, []⟩,
    ⟨(some 71), (.load false 1 (.t 70)), (some (69, true)), 0, false, []⟩,
    ⟨(some 72), (.call 66 [(.t 71)]), (some (69, true)), 0, false, []⟩,
    ⟨(some 73), (.pick (.t 69) (.t 72) (.c (.bool false))), none, 0, false, []⟩,
    ⟨(some 2), (.mv (.t 73)), none, 0, false, []⟩] false
def a49_40 : AC := .seq a49_39 .ret
def a49_41 : AC := .cond (.t 64) a49_40 .skip
def a49_42 : AC := .seq a49_38 a49_41
def a49_43 : AC := .cond (.t 43) a49_37 a49_42
def a49_44 : AC := .seq a49_35 a49_43
def a49_45 : AC := .cond (.t 23) a49_16 a49_44
def a49_46 : AC := .seq a49_14 a49_45
def a49_47 : AC := .cond (.t 5) a49_13 a49_46
def a49_48 : AC := .seq a49_11 a49_47
def a49_49 : AC := .blk 0 a49_48
def a49_50 : AC := .seq a49_1 a49_49
def a49_51 : AC := .reg [⟨(some 74), (.fad 1 (.t 1)), none, 0, false, []⟩,
    ⟨(some 75), (.load false 1 (.t 74)), none, 0, false, []⟩,
    ⟨(some 76), (.bin 0 .eql (.t 75) (.c (.int .i64 0))), none, 0, false, []⟩,
    ⟨(some 77), (.mv (.t 76)), none, 0, false, []⟩,
    ⟨(some 78), (.fad 2 (.t 1)), (some (77, true)), 0, false, []⟩,
    ⟨(some 79), (.load false 1 (.t 78)), (some (77, true)), 0, false, []⟩,
    ⟨(some 80), (.bin 0 .eql (.t 79) (.c (.int .i64 0))), (some (77, true)), 0, false, []⟩,
    ⟨(some 81), (.pick (.t 77) (.t 80) (.c (.bool false))), none, 0, false, []⟩,
    ⟨(some 82), (.mv (.t 81)), none, 0, false, []⟩,
    ⟨(some 83), (.fad 3 (.t 1)), (some (82, true)), 0, false, []⟩,
    ⟨(some 84), (.load false 1 (.t 83)), (some (82, true)), 0, false, []⟩,
    ⟨(some 85), (.bin 0 .eql (.t 84) (.c (.int .i64 0))), (some (82, true)), 0, false, []⟩,
    ⟨(some 86), (.pick (.t 82) (.t 85) (.c (.bool false))), none, 0, false, []⟩,
    ⟨(some 2), (.mv (.t 86)), none, 0, false, []⟩] false
def a49_52 : AC := .seq a49_51 .ret
def a49_53 : AC := .seq a49_50 a49_52
def a49_54 : AC := .seq a49_0 a49_53
def af49 : AF := { ntmps := 87, res := [(.t 2)], body := a49_54 }
theorem tr49 : trF Tryd.prog Tryd.f49 = some af49 := by kernel_rfl
attribute [go_sem] af49 a49_0 a49_1 a49_2 a49_3 a49_4 a49_5 a49_6 a49_7 a49_8 a49_9 a49_10 a49_11 a49_12 a49_13 a49_14 a49_15 a49_16 a49_17 a49_18 a49_19 a49_20 a49_21 a49_22 a49_23 a49_24 a49_25 a49_26 a49_27 a49_28 a49_29 a49_30 a49_31 a49_32 a49_33 a49_34 a49_35 a49_36 a49_37 a49_38 a49_39 a49_40 a49_41 a49_42 a49_43 a49_44 a49_45 a49_46 a49_47 a49_48 a49_49 a49_50 a49_51 a49_52 a49_53 a49_54
def a65_0 : AC := .reg [⟨(some 2), (.mv (.c (.int .i64 0))), none, 0, false, []⟩] false
def a65_1 : AC := .reg [⟨(some 3), (.mv (.t 0)), none, 0, false, []⟩] false
def a65_2 : AC := .reg [⟨(some 5), (.bin 0 .eql (.t 3) (.c (.int .i64 3))), none, 0, false, []⟩,
    ⟨(some 4), (.mv (.t 5)), none, 0, false, []⟩] false
def a65_3 : AC := .reg [⟨(some 6), (.bin 0 .eql (.t 3) (.c (.int .i64 5))), none, 0, false, []⟩,
    ⟨(some 4), (.mv (.t 6)), none, 0, false, []⟩] false
def a65_4 : AC := .reg [⟨(some 7), (.bin 0 .eql (.t 3) (.c (.int .i64 6))), none, 0, false, []⟩,
    ⟨(some 4), (.mv (.t 7)), none, 0, false, []⟩] false
def a65_5 : AC := .reg [⟨(some 8), (.bin 0 .eql (.t 3) (.c (.int .i64 8))), none, 0, false, []⟩,
    ⟨(some 4), (.mv (.t 8)), none, 0, false, []⟩] false
def a65_6 : AC := .reg [⟨(some 9), (.bin 0 .eql (.t 3) (.c (.int .i64 10))), none, 0, false, []⟩,
    ⟨(some 4), (.mv (.t 9)), none, 0, false, []⟩] false
def a65_7 : AC := .reg [⟨(some 10), (.bin 0 .eql (.t 3) (.c (.int .i64 11))), none, 0, false, []⟩,
    ⟨(some 4), (.mv (.t 10)), none, 0, false, []⟩] false
def a65_8 : AC := .cond (.t 4) .skip a65_7
def a65_9 : AC := .seq a65_6 a65_8
def a65_10 : AC := .cond (.t 4) .skip a65_9
def a65_11 : AC := .seq a65_5 a65_10
def a65_12 : AC := .cond (.t 4) .skip a65_11
def a65_13 : AC := .seq a65_4 a65_12
def a65_14 : AC := .cond (.t 4) .skip a65_13
def a65_15 : AC := .seq a65_3 a65_14
def a65_16 : AC := .cond (.t 4) .skip a65_15
def a65_17 : AC := .seq a65_2 a65_16
def a65_18 : AC := .reg [⟨(some 2), (.mv (.c (.int .i64 4))), none, 0, false, []⟩] false
def a65_19 : AC := .seq a65_18 .ret
def a65_20 : AC := .reg [⟨(some 12), (.bin 0 .eql (.t 3) (.c (.int .i64 1))), none, 0, false, []⟩,
    ⟨(some 11), (.mv (.t 12)), none, 0, false, []⟩] false
def a65_21 : AC := .reg [⟨(some 13), (.bin 0 .eql (.t 3) (.c (.int .i64 2))), none, 0, false, []⟩,
    ⟨(some 11), (.mv (.t 13)), none, 0, false, []⟩] false
def a65_22 : AC := .reg [⟨(some 14), (.bin 0 .eql (.t 3) (.c (.int .i64 7))), none, 0, false, []⟩,
    ⟨(some 11), (.mv (.t 14)), none, 0, false, []⟩] false
def a65_23 : AC := .reg [⟨(some 15), (.bin 0 .eql (.t 3) (.c (.int .i64 9))), none, 0, false, []⟩,
    ⟨(some 11), (.mv (.t 15)), none, 0, false, []⟩] false
def a65_24 : AC := .cond (.t 11) .skip a65_23
def a65_25 : AC := .seq a65_22 a65_24
def a65_26 : AC := .cond (.t 11) .skip a65_25
def a65_27 : AC := .seq a65_21 a65_26
def a65_28 : AC := .cond (.t 11) .skip a65_27
def a65_29 : AC := .seq a65_20 a65_28
def a65_30 : AC := .reg [⟨(some 2), (.mv (.c (.int .i64 5))), none, 0, false, []⟩] false
def a65_31 : AC := .seq a65_30 .ret
def a65_32 : AC := .reg [⟨(some 17), (.bin 0 .eql (.t 3) (.c (.int .i64 4))), none, 0, false, []⟩,
    ⟨(some 16), (.mv (.t 17)), none, 0, false, []⟩] false
def a65_33 : AC := .reg [⟨(some 18), (.bin 0 .eql (.t 3) (.c (.int .i64 12))), none, 0, false, []⟩,
    ⟨(some 16), (.mv (.t 18)), none, 0, false, []⟩] false
def a65_34 : AC := .reg [⟨(some 19), (.bin 0 .eql (.t 3) (.c (.int .i64 13))), none, 0, false, []⟩,
    ⟨(some 16), (.mv (.t 19)), none, 0, false, []⟩] false
def a65_35 : AC := .reg [⟨(some 20), (.bin 0 .eql (.t 3) (.c (.int .i64 14))), none, 0, false, []⟩,
    ⟨(some 16), (.mv (.t 20)), none, 0, false, []⟩] false
def a65_36 : AC := .reg [⟨(some 21), (.bin 0 .eql (.t 3) (.c (.int .i64 21))), none, 0, false, []⟩,
    ⟨(some 16), (.mv (.t 21)), none, 0, false, []⟩] false
def a65_37 : AC := .cond (.t 16) .skip a65_36
def a65_38 : AC := .seq a65_35 a65_37
def a65_39 : AC := .cond (.t 16) .skip a65_38
def a65_40 : AC := .seq a65_34 a65_39
def a65_41 : AC := .cond (.t 16) .skip a65_40
def a65_42 : AC := .seq a65_33 a65_41
def a65_43 : AC := .cond (.t 16) .skip a65_42
def a65_44 : AC := .seq a65_32 a65_43
def a65_45 : AC := .reg [⟨(some 2), (.mv (.c (.int .i64 6))), none, 0, false, []⟩] false
def a65_46 : AC := .seq a65_45 .ret
def a65_47 : AC := .reg [⟨(some 23), (.bin 0 .eql (.t 3) (.c (.int .i64 15))), none, 0, false, []⟩,
    ⟨(some 22), (.mv (.t 23)), none, 0, false, []⟩] false
def a65_48 : AC := .reg [⟨(some 24), (.bin 0 .eql (.t 3) (.c (.int .i64 18))), none, 0, false, []⟩,
    ⟨(some 22), (.mv (.t 24)), none, 0, false, []⟩] false
def a65_49 : AC := .reg [⟨(some 25), (.bin 0 .eql (.t 3) (.c (.int .i64 19))), none, 0, false, []⟩,
    ⟨(some 22), (.mv (.t 25)), none, 0, false, []⟩] false
def a65_50 : AC := .reg [⟨(some 26), (.bin 0 .eql (.t 3) (.c (.int .i64 20))), none, 0, false, []⟩,
    ⟨(some 22), (.mv (.t 26)), none, 0, false, []⟩] false
def a65_51 : AC := .cond (.t 22) .skip a65_50
def a65_52 : AC := .seq a65_49 a65_51
def a65_53 : AC := .cond (.t 22) .skip a65_52
def a65_54 : AC := .seq a65_48 a65_53
def a65_55 : AC := .cond (.t 22) .skip a65_54
def a65_56 : AC := .seq a65_47 a65_55
def a65_57 : AC := .reg [⟨(some 2), (.mv (.c (.int .i64 9))), none, 0, false, []⟩] false
def a65_58 : AC := .seq a65_57 .ret
def a65_59 : AC := .reg [⟨(some 28), (.bin 0 .eql (.t 3) (.c (.int .i64 16))), none, 0, false, []⟩,
    ⟨(some 27), (.mv (.t 28)), none, 0, false, []⟩] false
def a65_60 : AC := .reg [⟨(some 29), (.bin 0 .eql (.t 3) (.c (.int .i64 17))), none, 0, false, []⟩,
    ⟨(some 27), (.mv (.t 29)), none, 0, false, []⟩] false
def a65_61 : AC := .cond (.t 27) .skip a65_60
def a65_62 : AC := .seq a65_59 a65_61
def a65_63 : AC := .reg [⟨(some 2), (.mv (.c (.int .i64 12))), none, 0, false, []⟩] false
def a65_64 : AC := .seq a65_63 .ret
def a65_65 : AC := .cond (.t 27) a65_64 .skip
def a65_66 : AC := .seq a65_62 a65_65
def a65_67 : AC := .cond (.t 22) a65_58 a65_66
def a65_68 : AC := .seq a65_56 a65_67
def a65_69 : AC := .cond (.t 16) a65_46 a65_68
def a65_70 : AC := .seq a65_44 a65_69
def a65_71 : AC := .cond (.t 11) a65_31 a65_70
def a65_72 : AC := .seq a65_29 a65_71
def a65_73 : AC := .cond (.t 4) a65_19 a65_72
def a65_74 : AC := .seq a65_17 a65_73
def a65_75 : AC := .blk 0 a65_74
def a65_76 : AC := .seq a65_1 a65_75
def a65_77 : AC := .reg [⟨(some 2), (.mv (.c (.int .i64 (-1)))), none, 0, false, []⟩] false
def a65_78 : AC := .seq a65_77 .ret
def a65_79 : AC := .seq a65_76 a65_78
def a65_80 : AC := .seq a65_0 a65_79
def af65 : AF := { ntmps := 30, res := [(.t 2)], body := a65_80 }
theorem tr65 : trF Tryd.prog Tryd.f65 = some af65 := by kernel_rfl
attribute [go_sem] af65 a65_0 a65_1 a65_2 a65_3 a65_4 a65_5 a65_6 a65_7 a65_8 a65_9 a65_10 a65_11 a65_12 a65_13 a65_14 a65_15 a65_16 a65_17 a65_18 a65_19 a65_20 a65_21 a65_22 a65_23 a65_24 a65_25 a65_26 a65_27 a65_28 a65_29 a65_30 a65_31 a65_32 a65_33 a65_34 a65_35 a65_36 a65_37 a65_38 a65_39 a65_40 a65_41 a65_42 a65_43 a65_44 a65_45 a65_46 a65_47 a65_48 a65_49 a65_50 a65_51 a65_52 a65_53 a65_54 a65_55 a65_56 a65_57 a65_58 a65_59 a65_60 a65_61 a65_62 a65_63 a65_64 a65_65 a65_66 a65_67 a65_68 a65_69 a65_70 a65_71 a65_72 a65_73 a65_74 a65_75 a65_76 a65_77 a65_78 a65_79 a65_80
def a66_0 : AC := .reg [⟨(some 2), (.mv (.c (.bool false))), none, 0, false, []⟩] false
def a66_1 : AC := .reg [⟨(some 3), (.mv (.t 0)), none, 0, false, []⟩,
    ⟨(some 4), (.bin 0 .geq (.t 3) (.c (.int .i64 0))), none, 0, false, []⟩,
    ⟨(some 5), (.mv (.t 4)), none, 0, false, []⟩,
    ⟨(some 6), (.mv (.t 0)), (some (5, true)), 0, false, []⟩,
    ⟨(some 7), (.bin 0 .leq (.t 6) (.c (.int .i64 1000))), (some (5, true)), 0, false, []⟩,
    ⟨(some 8), (.pick (.t 5) (.t 7) (.c (.bool false))), none, 0, false, []⟩,
    ⟨(some 2), (.mv (.t 8)), none, 0, false, []⟩] false
def a66_2 : AC := .seq a66_1 .ret
def a66_3 : AC := .seq a66_0 a66_2
def af66 : AF := { ntmps := 9, res := [(.t 2)], body := a66_3 }
theorem tr66 : trF Tryd.prog Tryd.f66 = some af66 := by kernel_rfl
attribute [go_sem] af66 a66_0 a66_1 a66_2 a66_3
def a6_0 : AC := .reg [⟨(some 1), (.box (.t 0)), none, 0, false, []⟩,
    ⟨(some 2), (.mv (.c (.bool false))), none, 0, false, []⟩] false
def a6_1 : AC := .reg [⟨(some 4), (.fad 0 (.t 1)), none, 0, false, []⟩,
    ⟨(some 5), (.load false 1 (.t 4)), none, 0, false, []⟩,
    ⟨(some 6), (.bin 0 .neq (.t 5) (.c (.int .i64 1))), none, 0, false, []⟩,
    ⟨(some 7), (.mv (.t 6)), none, 0, false, []⟩,
    ⟨(some 8), (.fad 0 (.t 1)), (some (7, true)), 0, false, []⟩,
    ⟨(some 9), (.load false 1 (.t 8)), (some (7, true)), 0, false, []⟩,
    ⟨(some 10), (.bin 0 .neq (.t 9) (.c (.int .i64 2))), (some (7, true)), 0, false, []⟩,
    ⟨(some 11), (.pick (.t 7) (.t 10) (.c (.bool false))), none, 0, false, []⟩,
    ⟨(some 12), (.mv (.t 11)), none, 0, false, []⟩,
    ⟨(some 13), (.fad 0 (.t 1)), (some (12, true)), 0, false, []⟩,
    ⟨(some 14), (.load false 1 (.t 13)), (some (12, true)), 0, false, []⟩,
    ⟨(some 15), (.bin 0 .lss (.t 14) (.c (.int .i64 13))), (some (12, true)), 0, false, []⟩,
    ⟨(some 16), (.mv (.t 15)), (some (12, true)), 0, false, []⟩,
    ⟨(some 17), (.fad 0 (.t 1)), (some (16, false)), 0, false, []⟩,
    ⟨(some 18), (.load false 1 (.t 17)), (some (16, false)), 0, false, []⟩,
    ⟨(some 19), (.bin 0 .gtr (.t 18) (.c (.int .i64 23))), (some (16, false)), 0, false, []⟩,
    ⟨(some 20), (.pick (.t 16) (.c (.bool true)) (.t 19)), (some (12, true)), 0, false, []⟩,
    ⟨(some 21), (.pick (.t 12) (.t 20) (.c (.bool false))), none, 0, false, []⟩,
    ⟨(some 22), (.mv (.t 21)), none, 0, false, []⟩,
    ⟨(some 23), (.load true 5 (.t 1)), (some (22, false)), 0, false, []⟩,
    ⟨(some 24), (.call 14 [(.t 23)]), (some (22, false)), 0, false, []⟩,
    ⟨(some 25), (.un .not (.t 24)), (some (22, false)), 0, false, []⟩,
    ⟨(some 26), (.pick (.t 22) (.c (.bool true)) (.t 25)), none, 0, false, []⟩] false
def a6_2 : AC := .reg [⟨(some 2), (.mv (.c (.bool false))), none, 0, false, []⟩] false
def a6_3 : AC := .seq a6_2 .ret
def a6_4 : AC := .cond (.t 26) a6_3 .skip
def a6_5 : AC := .seq a6_1 a6_4
def a6_6 : AC := .reg [⟨(some 3), (.mv (.c (.int .i64 0))), none, 0, false, []⟩] false
def a6_7 : AC := .reg [⟨(some 27), (.mv (.t 3)), none, 0, false, []⟩,
    ⟨(some 28), (.fad 4 (.t 1)), none, 0, false, []⟩,
    ⟨(some 29), (.load false 1 (.t 28)), none, 0, false, []⟩,
    ⟨(some 30), (.len false (.t 29)), none, 0, false, []⟩,
    ⟨(some 31), (.bin 0 .lss (.t 27) (.t 30)), none, 0, false, []⟩] false
def a6_8 : AC := .cond (.t 31) .skip (.exit 0)
def a6_9 : AC := .seq a6_7 a6_8
def a6_10 : AC := .reg [⟨(some 34), (.fad 4 (.t 1)), none, 0, false, []⟩,
    ⟨(some 35), (.load false 1 (.t 34)), none, 0, false, []⟩,
    ⟨(some 36), (.mv (.t 3)), none, 0, false, []⟩,
    ⟨(some 37), (.iad 5 (.t 35) (.t 36)), none, 0, false, []⟩,
    ⟨(some 38), (.load true 5 (.t 37)), none, 0, false, []⟩,
    ⟨(some 39), (.call 6 [(.t 38)]), none, 0, false, []⟩,
    ⟨(some 40), (.un .not (.t 39)), none, 0, false, []⟩] false
def a6_11 : AC := .reg [⟨(some 2), (.mv (.c (.bool false))), none, 0, false, []⟩] false
def a6_12 : AC := .seq a6_11 .ret
def a6_13 : AC := .cond (.t 40) a6_12 .skip
def a6_14 : AC := .seq a6_10 a6_13
def a6_15 : AC := .blk 1 a6_14
def a6_16 : AC := .reg [⟨(some 32), (.mv (.t 3)), none, 0, false, []⟩,
    ⟨(some 33), (.bin 0 .add (.t 32) (.c (.int .i64 1))), none, 0, false, []⟩,
    ⟨(some 3), (.mv (.t 33)), none, 0, false, []⟩] false
def a6_17 : AC := .seq a6_15 a6_16
def a6_18 : AC := .seq a6_9 a6_17
def a6_19 : AC := .loop a6_18
def a6_20 : AC := .blk 0 a6_19
def a6_21 : AC := .seq a6_6 a6_20
def a6_22 : AC := .reg [⟨(some 2), (.mv (.c (.bool true))), none, 0, false, []⟩] false
def a6_23 : AC := .seq a6_22 .ret
def a6_24 : AC := .seq a6_21 a6_23
def a6_25 : AC := .seq a6_5 a6_24
def a6_26 : AC := .seq a6_0 a6_25
def af6 : AF := { ntmps := 41, res := [(.t 2)], body := a6_26 }
theorem tr6 : trF Tryd.prog Tryd.f6 = some af6 := by kernel_rfl
attribute [go_sem] af6 a6_0 a6_1 a6_2 a6_3 a6_4 a6_5 a6_6 a6_7 a6_8 a6_9 a6_10 a6_11 a6_12 a6_13 a6_14 a6_15 a6_16 a6_17 a6_18 a6_19 a6_20 a6_21 a6_22 a6_23 a6_24 a6_25 a6_26
def a14_0 : AC := .reg [⟨(some 1), (.box (.t 0)), none, 0, false, []⟩,
    ⟨(some 2), (.mv (.c (.bool false))), none, 0, false, []⟩] false
def a14_1 : AC := .reg [⟨(some 3), (.fad 4 (.t 1)), none, 0, false, []⟩,
    ⟨(some 4), (.load false 1 (.t 3)), none, 1, true, []⟩,
    ⟨(some 5), (.len false (.t 4)), none, 2, false, []⟩,
    ⟨(some 6), (.fad 0 (.t 1)), none, 3, false, []⟩,
    ⟨(some 7), (.load false 1 (.t 6)), none, 4, false, []⟩,
    ⟨(some 8), (.fad 3 (.t 1)), none, 5, false, []⟩,
    ⟨(some 9), (.load false 1 (.t 8)), none, 6, false, []⟩,
    ⟨(some 10), (.call 30 [(.t 7), (.t 9)]), none, 7, false, [1]⟩,
    ⟨(some 11), (.bin 0 .eql (.t 5) (.t 10)), none, 8, false, []⟩,
    ⟨(some 12), (.mv (.t 11)), none, 9, false, []⟩,
    ⟨(some 13), (.load true 5 (.t 1)), (some (12, true)), 10, false, []⟩,
    ⟨(some 14), (.call 31 [(.t 13)]), (some (12, true)), 11, false, []⟩,
    ⟨(some 15), (.pick (.t 12) (.t 14) (.c (.bool false))), none, 12, false, []⟩,
    ⟨(some 2), (.mv (.t 15)), none, 13, false, []⟩] true
def a14_2 : AC := .seq a14_1 .ret
def a14_3 : AC := .seq a14_0 a14_2
def af14 : AF := { ntmps := 16, res := [(.t 2)], body := a14_3 }
theorem tr14 : trF Tryd.prog Tryd.f14 = some af14 := by kernel_rfl
attribute [go_sem] af14 a14_0 a14_1 a14_2 a14_3
def a30_0 : AC := .reg [⟨(some 4), (.mv (.c (.int .i64 0))), none, 0, false, []⟩] false
def a30_1 : AC := .reg [⟨(some 6), (.mv (.t 0)), none, 0, false, []⟩] false
def a30_2 : AC := .reg [⟨(some 8), (.bin 0 .eql (.t 6) (.c (.int .i64 1))), none, 0, false, []⟩,
    ⟨(some 7), (.mv (.t 8)), none, 0, false, []⟩] false
def a30_3 : AC := .reg [⟨(some 9), (.bin 0 .eql (.t 6) (.c (.int .i64 2))), none, 0, false, []⟩,
    ⟨(some 7), (.mv (.t 9)), none, 0, false, []⟩] false
def a30_4 : AC := .cond (.t 7) .skip a30_3
def a30_5 : AC := .seq a30_2 a30_4
def a30_6 : AC := .reg [⟨(some 4), (.mv (.c (.int .i64 0))), none, 0, false, []⟩] false
def a30_7 : AC := .seq a30_6 .ret
def a30_8 : AC := .reg [⟨(some 11), (.bin 0 .eql (.t 6) (.c (.int .i64 18))), none, 0, false, []⟩,
    ⟨(some 10), (.mv (.t 11)), none, 0, false, []⟩] false
def a30_9 : AC := .reg [⟨(some 12), (.bin 0 .eql (.t 6) (.c (.int .i64 19))), none, 0, false, []⟩,
    ⟨(some 10), (.mv (.t 12)), none, 0, false, []⟩] false
def a30_10 : AC := .cond (.t 10) .skip a30_9
def a30_11 : AC := .seq a30_8 a30_10
def a30_12 : AC := .reg [⟨(some 4), (.mv (.c (.int .i64 1))), none, 0, false, []⟩] false
def a30_13 : AC := .seq a30_12 .ret
def a30_14 : AC := .reg [⟨(some 14), (.bin 0 .eql (.t 6) (.c (.int .i64 3))), none, 0, false, []⟩,
    ⟨(some 13), (.mv (.t 14)), none, 0, false, []⟩] false
def a30_15 : AC := .reg [⟨(some 15), (.bin 0 .eql (.t 6) (.c (.int .i64 6))), none, 0, false, []⟩,
    ⟨(some 13), (.mv (.t 15)), none, 0, false, []⟩] false
def a30_16 : AC := .reg [⟨(some 16), (.bin 0 .eql (.t 6) (.c (.int .i64 13))), none, 0, false, []⟩,
    ⟨(some 13), (.mv (.t 16)), none, 0, false, []⟩] false
def a30_17 : AC := .reg [⟨(some 17), (.bin 0 .eql (.t 6) (.c (.int .i64 14))), none, 0, false, []⟩,
    ⟨(some 13), (.mv (.t 17)), none, 0, false, []⟩] false
def a30_18 : AC := .reg [⟨(some 18), (.bin 0 .eql (.t 6) (.c (.int .i64 15))), none, 0, false, []⟩,
    ⟨(some 13), (.mv (.t 18)), none, 0, false, []⟩] false
def a30_19 : AC := .reg [⟨(some 19), (.bin 0 .eql (.t 6) (.c (.int .i64 16))), none, 0, false, []⟩,
    ⟨(some 13), (.mv (.t 19)), none, 0, false, []⟩] false
def a30_20 : AC := .reg [⟨(some 20), (.bin 0 .eql (.t 6) (.c (.int .i64 21))), none, 0, false, []⟩,
    ⟨(some 13), (.mv (.t 20)), none, 0, false, []⟩] false
def a30_21 : AC := .reg [⟨(some 21), (.bin 0 .eql (.t 6) (.c (.int .i64 11))), none, 0, false, []⟩,
    ⟨(some 13), (.mv (.t 21)), none, 0, false, []⟩] false
def a30_22 : AC := .cond (.t 13) .skip a30_21
def a30_23 : AC := .seq a30_20 a30_22
def a30_24 : AC := .cond (.t 13) .skip a30_23
def a30_25 : AC := .seq a30_19 a30_24
def a30_26 : AC := .cond (.t 13) .skip a30_25
def a30_27 : AC := .seq a30_18 a30_26
def a30_28 : AC := .cond (.t 13) .skip a30_27
def a30_29 : AC := .seq a30_17 a30_28
def a30_30 : AC := .cond (.t 13) .skip a30_29
def a30_31 : AC := .seq a30_16 a30_30
def a30_32 : AC := .cond (.t 13) .skip a30_31
def a30_33 : AC := .seq a30_15 a30_32
def a30_34 : AC := .cond (.t 13) .skip a30_33
def a30_35 : AC := .seq a30_14 a30_34
def a30_36 : AC := .reg [⟨(some 4), (.mv (.c (.int .i64 2))), none, 0, false, []⟩] false
def a30_37 : AC := .seq a30_36 .ret
def a30_38 : AC := .reg [⟨(some 23), (.bin 0 .eql (.t 6) (.c (.int .i64 4))), none, 0, false, []⟩,
    ⟨(some 22), (.mv (.t 23)), none, 0, false, []⟩] false
def a30_39 : AC := .reg [⟨(some 24), (.bin 0 .eql (.t 6) (.c (.int .i64 8))), none, 0, false, []⟩,
    ⟨(some 22), (.mv (.t 24)), none, 0, false, []⟩] false
def a30_40 : AC := .reg [⟨(some 25), (.bin 0 .eql (.t 6) (.c (.int .i64 9))), none, 0, false, []⟩,
    ⟨(some 22), (.mv (.t 25)), none, 0, false, []⟩] false
def a30_41 : AC := .reg [⟨(some 26), (.bin 0 .eql (.t 6) (.c (.int .i64 10))), none, 0, false, []⟩,
    ⟨(some 22), (.mv (.t 26)), none, 0, false, []⟩] false
def a30_42 : AC := .reg [⟨(some 27), (.bin 0 .eql (.t 6) (.c (.int .i64 20))), none, 0, false, []⟩,
    ⟨(some 22), (.mv (.t 27)), none, 0, false, []⟩] false
def a30_43 : AC := .cond (.t 22) .skip a30_42
def a30_44 : AC := .seq a30_41 a30_43
def a30_45 : AC := .cond (.t 22) .skip a30_44
def a30_46 : AC := .seq a30_40 a30_45
def a30_47 : AC := .cond (.t 22) .skip a30_46
def a30_48 : AC := .seq a30_39 a30_47
def a30_49 : AC := .cond (.t 22) .skip a30_48
def a30_50 : AC := .seq a30_38 a30_49
def a30_51 : AC := .reg [⟨(some 4), (.mv (.c (.int .i64 3))), none, 0, false, []⟩] false
def a30_52 : AC := .seq a30_51 .ret
def a30_53 : AC := .reg [⟨(some 29), (.bin 0 .eql (.t 6) (.c (.int .i64 5))), none, 0, false, []⟩,
    ⟨(some 28), (.mv (.t 29)), none, 0, false, []⟩] false
def a30_54 : AC := .reg [⟨(some 30), (.bin 0 .eql (.t 6) (.c (.int .i64 7))), none, 0, false, []⟩,
    ⟨(some 28), (.mv (.t 30)), none, 0, false, []⟩] false
def a30_55 : AC := .reg [⟨(some 31), (.bin 0 .eql (.t 6) (.c (.int .i64 12))), none, 0, false, []⟩,
    ⟨(some 28), (.mv (.t 31)), none, 0, false, []⟩] false
def a30_56 : AC := .reg [⟨(some 32), (.bin 0 .eql (.t 6) (.c (.int .i64 17))), none, 0, false, []⟩,
    ⟨(some 28), (.mv (.t 32)), none, 0, false, []⟩] false
def a30_57 : AC := .cond (.t 28) .skip a30_56
def a30_58 : AC := .seq a30_55 a30_57
def a30_59 : AC := .cond (.t 28) .skip a30_58
def a30_60 : AC := .seq a30_54 a30_59
def a30_61 : AC := .cond (.t 28) .skip a30_60
def a30_62 : AC := .seq a30_53 a30_61
def a30_63 : AC := .reg [⟨(some 4), (.mv (.c (.int .i64 4))), none, 0, false, []⟩] false
def a30_64 : AC := .seq a30_63 .ret
def a30_65 : AC := .reg [⟨(some 34), (.bin 0 .eql (.t 6) (.c (.int .i64 22))), none, 0, false, []⟩,
    ⟨(some 33), (.mv (.t 34)), none, 0, false, []⟩] false
def a30_66 : AC := .reg [⟨(some 4), (.mv (.c (.int .i64 6))), none, 0, false, []⟩] false
def a30_67 : AC := .seq a30_66 .ret
def a30_68 : AC := .reg [⟨(some 36), (.bin 0 .eql (.t 6) (.c (.int .i64 23))), none, 0, false, []⟩,
    ⟨(some 35), (.mv (.t 36)), none, 0, false, []⟩] false
def a30_69 : AC := .reg [⟨(some 37), (.bslice 1 [(.c (.int .i64 5)), (.c (.int .i64 5)), (.c (.int .i64 4)), (.c (.int .i64 6)), (.c (.int .i64 4)), (.c (.int .i64 4)), (.c (.int .i64 5)), (.c (.int .i64 4)), (.c (.int .i64 5)), (.c (.int .i64 4)), (.c (.int .i64 4)), (.c (.int .i64 6)), (.c (.int .i64 6)), (.c (.int .i64 6)), (.c (.int .i64 9)), (.c (.int .i64 12)), (.c (.int .i64 12)), (.c (.int .i64 9)), (.c (.int .i64 9)), (.c (.int .i64 9)), (.c (.int .i64 6))]), none, 0, false, []⟩,
    ⟨(some 5), (.mv (.t 37)), none, 0, false, []⟩] false
def a30_70 : AC := .reg [⟨(some 38), (.mv (.t 1)), none, 0, false, []⟩,
    ⟨(some 39), (.bin 0 .geq (.t 38) (.c (.int .i64 1))), none, 0, false, []⟩,
    ⟨(some 40), (.mv (.t 39)), none, 0, false, []⟩,
    ⟨(some 41), (.mv (.t 1)), (some (40, true)), 0, false, []⟩,
    ⟨(some 42), (.mv (.t 5)), (some (40, true)), 0, false, []⟩,
    ⟨(some 43), (.len false (.t 42)), (some (40, true)), 0, false, []⟩,
    ⟨(some 44), (.bin 0 .leq (.t 41) (.t 43)), (some (40, true)), 0, false, []⟩,
    ⟨(some 45), (.pick (.t 40) (.t 44) (.c (.bool false))), none, 0, false, []⟩] false
def a30_71 : AC := .reg [⟨(some 46), (.mv (.t 5)), none, 0, false, []⟩,
    ⟨(some 47), (.mv (.t 1)), none, 0, false, []⟩,
    ⟨(some 48), (.bin 0 .sub (.t 47) (.c (.int .i64 1))), none, 0, false, []⟩,
    ⟨(some 49), (.iad 1 (.t 46) (.t 48)), none, 0, false, []⟩,
    ⟨(some 50), (.load false 1 (.t 49)), none, 0, false, []⟩,
    ⟨(some 4), (.mv (.t 50)), none, 0, false, []⟩] false
def a30_72 : AC := .seq a30_71 .ret
def a30_73 : AC := .cond (.t 45) a30_72 .skip
def a30_74 : AC := .seq a30_70 a30_73
def a30_75 : AC := .seq a30_69 a30_74
def a30_76 : AC := .cond (.t 35) a30_75 .skip
def a30_77 : AC := .seq a30_68 a30_76
def a30_78 : AC := .cond (.t 33) a30_67 a30_77
def a30_79 : AC := .seq a30_65 a30_78
def a30_80 : AC := .cond (.t 28) a30_64 a30_79
def a30_81 : AC := .seq a30_62 a30_80
def a30_82 : AC := .cond (.t 22) a30_52 a30_81
def a30_83 : AC := .seq a30_50 a30_82
def a30_84 : AC := .cond (.t 13) a30_37 a30_83
def a30_85 : AC := .seq a30_35 a30_84
def a30_86 : AC := .cond (.t 10) a30_13 a30_85
def a30_87 : AC := .seq a30_11 a30_86
def a30_88 : AC := .cond (.t 7) a30_7 a30_87
def a30_89 : AC := .seq a30_5 a30_88
def a30_90 : AC := .blk 0 a30_89
def a30_91 : AC := .seq a30_1 a30_90
def a30_92 : AC := .reg [⟨(some 4), (.mv (.c (.int .i64 (-1)))), none, 0, false, []⟩] false
def a30_93 : AC := .seq a30_92 .ret
def a30_94 : AC := .seq a30_91 a30_93
def a30_95 : AC := .seq a30_0 a30_94
def af30 : AF := { ntmps := 51, res := [(.t 4)], body := a30_95 }
theorem tr30 : trF Tryd.prog Tryd.f30 = some af30 := by kernel_rfl
attribute [go_sem] af30 a30_0 a30_1 a30_2 a30_3 a30_4 a30_5 a30_6 a30_7 a30_8 a30_9 a30_10 a30_11 a30_12 a30_13 a30_14 a30_15 a30_16 a30_17 a30_18 a30_19 a30_20 a30_21 a30_22 a30_23 a30_24 a30_25 a30_26 a30_27 a30_28 a30_29 a30_30 a30_31 a30_32 a30_33 a30_34 a30_35 a30_36 a30_37 a30_38 a30_39 a30_40 a30_41 a30_42 a30_43 a30_44 a30_45 a30_46 a30_47 a30_48 a30_49 a30_50 a30_51 a30_52 a30_53 a30_54 a30_55 a30_56 a30_57 a30_58 a30_59 a30_60 a30_61 a30_62 a30_63 a30_64 a30_65 a30_66 a30_67 a30_68 a30_69 a30_70 a30_71 a30_72 a30_73 a30_74 a30_75 a30_76 a30_77 a30_78 a30_79 a30_80 a30_81 a30_82 a30_83 a30_84 a30_85 a30_86 a30_87 a30_88 a30_89 a30_90 a30_91 a30_92 a30_93 a30_94 a30_95
def a31_0 : AC := .reg [⟨(some 1), (.box (.t 0)), none, 0, false, []⟩,
    ⟨(some 2), (.mv (.c (.bool false))), none, 0, false, []⟩] false
def a31_1 : AC := .reg [⟨(some 3), (.fad 0 (.t 1)), none, 0, false, []⟩,
    ⟨(some 4), (.load false 1 (.t 3)), none, 0, false, []⟩] false
def a31_2 : AC := .reg [⟨(some 6), (.bin 0 .eql (.t 4) (.c (.int .i64 2))), none, 0, false, []⟩,
    ⟨(some 5), (.mv (.t 6)), none, 0, false, []⟩] false
def a31_3 : AC := .reg [⟨(some 7), (.fad 1 (.t 1)), none, 0, false, []⟩,
    ⟨(some 8), (.load false 1 (.t 7)), none, 0, false, []⟩,
    ⟨(some 9), (.bin 0 .geq (.t 8) (.c (.int .i64 0))), none, 0, false, []⟩,
    ⟨(some 10), (.mv (.t 9)), none, 0, false, []⟩,
    ⟨(some 11), (.fad 1 (.t 1)), (some (10, true)), 0, false, []⟩,
    ⟨(some 12), (.load false 1 (.t 11)), (some (10, true)), 0, false, []⟩,
    ⟨(some 13), (.bin 0 .leq (.t 12) (.c (.int .i64 2147483647))), (some (10, true)), 0, false, []⟩,
    ⟨(some 14), (.pick (.t 10) (.t 13) (.c (.bool false))), none, 0, false, []⟩,
    ⟨(some 15), (.mv (.t 14)), none, 0, false, []⟩,
    ⟨(some 16), (.fad 2 (.t 1)), (some (15, true)), 0, false, []⟩,
    ⟨(some 17), (.load false 1 (.t 16)), (some (15, true)), 0, false, []⟩,
    ⟨(some 18), (.bin 0 .eql (.t 17) (.c (.int .i64 0))), (some (15, true)), 0, false, []⟩,
    ⟨(some 19), (.pick (.t 15) (.t 18) (.c (.bool false))), none, 0, false, []⟩,
    ⟨(some 20), (.mv (.t 19)), none, 0, false, []⟩,
    ⟨(some 21), (.fad 3 (.t 1)), (some (20, true)), 0, false, []⟩,
    ⟨(some 22), (.load false 1 (.t 21)), (some (20, true)), 0, false, []⟩,
    ⟨(some 23), (.bin 0 .eql (.t 22) (.c (.int .i64 0))), (some (20, true)), 0, false, []⟩,
    ⟨(some 24), (.pick (.t 20) (.t 23) (.c (.bool false))), none, 0, false, []⟩,
    ⟨(some 2), (.mv (.t 24)), none, 0, false, []⟩] false
def a31_4 : AC := .seq a31_3 .ret
def a31_5 : AC := .reg [⟨(some 26), (.bin 0 .eql (.t 4) (.c (.int .i64 3))), none, 0, false, []⟩,
    ⟨(some 25), (.mv (.t 26)), none, 0, false, []⟩] false
def a31_6 : AC := .reg [⟨(some 27), (.bin 0 .eql (.t 4) (.c (.int .i64 4))), none, 0, false, []⟩,
    ⟨(some 25), (.mv (.t 27)), none, 0, false, []⟩] false
def a31_7 : AC := .reg [⟨(some 28), (.bin 0 .eql (.t 4) (.c (.int .i64 5))), none, 0, false, []⟩,
    ⟨(some 25), (.mv (.t 28)), none, 0, false, []⟩] false
def a31_8 : AC := .reg [⟨(some 29), (.bin 0 .eql (.t 4) (.c (.int .i64 6))), none, 0, false, []⟩,
    ⟨(some 25), (.mv (.t 29)), none, 0, false, []⟩] false
def a31_9 : AC := .reg [⟨(some 30), (.bin 0 .eql (.t 4) (.c (.int .i64 7))), none, 0, false, []⟩,
    ⟨(some 25), (.mv (.t 30)), none, 0, false, []⟩] false
def a31_10 : AC := .reg [⟨(some 31), (.bin 0 .eql (.t 4) (.c (.int .i64 8))), none, 0, false, []⟩,
    ⟨(some 25), (.mv (.t 31)), none, 0, false, []⟩] false
def a31_11 : AC := .reg [⟨(some 32), (.bin 0 .eql (.t 4) (.c (.int .i64 9))), none, 0, false, []⟩,
    ⟨(some 25), (.mv (.t 32)), none, 0, false, []⟩] false
def a31_12 : AC := .cond (.t 25) .skip a31_11
def a31_13 : AC := .seq a31_10 a31_12
def a31_14 : AC := .cond (.t 25) .skip a31_13
def a31_15 : AC := .seq a31_9 a31_14
def a31_16 : AC := .cond (.t 25) .skip a31_15
def a31_17 : AC := .seq a31_8 a31_16
def a31_18 : AC := .cond (.t 25) .skip a31_17
def a31_19 : AC := .seq a31_7 a31_18
def a31_20 : AC := .cond (.t 25) .skip a31_19
def a31_21 : AC := .seq a31_6 a31_20
def a31_22 : AC := .cond (.t 25) .skip a31_21
def a31_23 : AC := .seq a31_5 a31_22
def a31_24 : AC := .reg [⟨(some 33), (.fad 1 (.t 1)), none, 0, false, []⟩,
    ⟨(some 34), (.load false 1 (.t 33)), none, 0, false, []⟩,
    ⟨(some 35), (.call 46 [(.t 34)]), none, 0, false, []⟩,
    ⟨(some 36), (.mv (.t 35)), none, 0, false, []⟩,
    ⟨(some 37), (.fad 2 (.t 1)), (some (36, true)), 0, false, []⟩,
    ⟨(some 38), (.load false 1 (.t 37)), (some (36, true)), 0, false, []⟩,
    ⟨(some 39), (.call 46 [(.t 38)]), (some (36, true)), 0, false, []⟩,
    ⟨(some 40), (.pick (.t 36) (.t 39) (.c (.bool false))), none, 0, false, []⟩,
    ⟨(some 41), (.mv (.t 40)), none, 0, false, []⟩,
    ⟨(some 42), (.fad 3 (.t 1)), (some (41, true)), 0, false, []⟩,
    ⟨(some 43), (.load false 1 (.t 42)), (some (41, true)), 0, false, []⟩,
    ⟨(some 44), (.bin 0 .eql (.t 43) (.c (.int .i64 0))), (some (41, true)), 0, false, []⟩,
    ⟨(some 45), (.pick (.t 41) (.t 44) (.c (.bool false))), none, 0, false, []⟩,
    ⟨(some 2), (.mv (.t 45)), none, 0, false, []⟩] false
def a31_25 : AC := .seq a31_24 .ret
def a31_26 : AC := .reg [⟨(some 47), (.bin 0 .eql (.t 4) (.c (.int .i64 1))), none, 0, false, []⟩,
    ⟨(some 46), (.mv (.t 47)), none, 0, false, []⟩] false
def a31_27 : AC := .reg [⟨(some 48), (.bin 0 .eql (.t 4) (.c (.int .i64 10))), none, 0, false, []⟩,
    ⟨(some 46), (.mv (.t 48)), none, 0, false, []⟩] false
def a31_28 : AC := .reg [⟨(some 49), (.bin 0 .eql (.t 4) (.c (.int .i64 11))), none, 0, false, []⟩,
    ⟨(some 46), (.mv (.t 49)), none, 0, false, []⟩] false
def a31_29 : AC := .reg [⟨(some 50), (.bin 0 .eql (.t 4) (.c (.int .i64 12))), none, 0, false, []⟩,
    ⟨(some 46), (.mv (.t 50)), none, 0, false, []⟩] false
def a31_30 : AC := .cond (.t 46) .skip a31_29
def a31_31 : AC := .seq a31_28 a31_30
def a31_32 : AC := .cond (.t 46) .skip a31_31
def a31_33 : AC := .seq a31_27 a31_32
def a31_34 : AC := .cond (.t 46) .skip a31_33
def a31_35 : AC := .seq a31_26 a31_34
def a31_36 : AC := .reg [⟨(some 51), (.fad 1 (.t 1)), none, 0, false, []⟩,
    ⟨(some 52), (.load false 1 (.t 51)), none, 0, false, []⟩,
    ⟨(some 53), (.call 46 [(.t 52)]), none, 0, false, []⟩,
    ⟨(some 54), (.mv (.t 53)), none, 0, false, []⟩,
    ⟨(some 55), (.fad 2 (.t 1)), (some (54, true)), 0, false, []⟩,
    ⟨(some 56), (.load false 1 (.t 55)), (some (54, true)), 0, false, []⟩,
    ⟨(some 57), (.bin 0 .eql (.t 56) (.c (.int .i64 0))), (some (54, true)), 0, false, []⟩,
    ⟨(some 58), (.pick (.t 54) (.t 57) (.c (.bool false))), none, 0, false, []⟩,
    ⟨(some 59), (.mv (.t 58)), none, 0, false, []⟩,
    ⟨(some 60), (.fad 3 (.t 1)), (some (59, true)), 0, false, []⟩,
    ⟨(some 61), (.load false 1 (.t 60)), (some (59, true)), 0, false, []⟩,
    ⟨(some 62), (.bin 0 .eql (.t 61) (.c (.int .i64 0))), (some (59, true)), 0, false, []⟩,
    ⟨(some 63), (.pick (.t 59) (.t 62) (.c (.bool false))), none, 0, false, []⟩,
    ⟨(some 2), (.mv (.t 63)), none, 0, false, []⟩] false
def a31_37 : AC := .seq a31_36 .ret
def a31_38 : AC := .reg [⟨(some 65), (.bin 0 .eql (.t 4) (.c (.int .i64 23))), none, 0, false, []⟩,
    ⟨(some 64), (.mv (.t 65)), none, 0, false, []⟩] false
def a31_39 : AC := .reg [⟨(some 66), (.fad 1 (.t 1)), none, 0, false, []⟩,
    ⟨(some 67), (.load false 1 (.t 66)), none, 0, false, []⟩,
    ⟨(some 68), (.call 46 [(.t 67)]), none, 0, false, []⟩,
    ⟨(some 69), (.mv (.t 68)), none, 0, false, []⟩,
    ⟨(some 70), (.fad 2 (.t 1)), (some (69, true)), 0, false, []⟩,
    ⟨(some 71), (.load false 1 (.t 70)), (some (69, true)), 0, false, []⟩,
    ⟨(some 72), (.call 46 [(.t 71)]), (some (69, true)), 0, false, []⟩,
    ⟨(some 73), (.pick (.t 69) (.t 72) (.c (.bool false))), none, 0, false, []⟩,
    ⟨(some 2), (.mv (.t 73)), none, 0, false, []⟩] false
def a31_40 : AC := .seq a31_39 .ret
def a31_41 : AC := .cond (.t 64) a31_40 .skip
def a31_42 : AC := .seq a31_38 a31_41
def a31_43 : AC := .cond (.t 46) a31_37 a31_42
def a31_44 : AC := .seq a31_35 a31_43
def a31_45 : AC := .cond (.t 25) a31_25 a31_44
def a31_46 : AC := .seq a31_23 a31_45
def a31_47 : AC := .cond (.t 5) a31_4 a31_46
def a31_48 : AC := .seq a31_2 a31_47
def a31_49 : AC := .blk 0 a31_48
def a31_50 : AC := .seq a31_1 a31_49
def a31_51 : AC := .reg [⟨(some 74), (.fad 1 (.t 1)), none, 0, false, []⟩,
    ⟨(some 75), (.load false 1 (.t 74)), none, 0, false, []⟩,
    ⟨(some 76), (.bin 0 .eql (.t 75) (.c (.int .i64 0))), none, 0, false, []⟩,
    ⟨(some 77), (.mv (.t 76)), none, 0, false, []⟩,
    ⟨(some 78), (.fad 2 (.t 1)), (some (77, true)), 0, false, []⟩,
    ⟨(some 79), (.load false 1 (.t 78)), (some (77, true)), 0, false, []⟩,
    ⟨(some 80), (.bin 0 .eql (.t 79) (.c (.int .i64 0))), (some (77, true)), 0, false, []⟩,
    ⟨(some 81), (.pick (.t 77) (.t 80) (.c (.bool false))), none, 0, false, []⟩,
    ⟨(some 82), (.mv (.t 81)), none, 0, false, []⟩,
    ⟨(some 83), (.fad 3 (.t 1)), (some (82, true)), 0, false, []⟩,
    ⟨(some 84), (.load false 1 (.t 83)), (some (82, true)), 0, false, []⟩,
    ⟨(some 85), (.bin 0 .eql (.t 84) (.c (.int .i64 0))), (some (82, true)), 0, false, []⟩,
    ⟨(some 86), (.pick (.t 82) (.t 85) (.c (.bool false))), none, 0, false, []⟩,
    ⟨(some 2), (.mv (.t 86)), none, 0, false, []⟩] false
def a31_52 : AC := .seq a31_51 .ret
def a31_53 : AC := .seq a31_50 a31_52
def a31_54 : AC := .seq a31_0 a31_53
def af31 : AF := { ntmps := 87, res := [(.t 2)], body := a31_54 }
theorem tr31 : trF Tryd.prog Tryd.f31 = some af31 := by kernel_rfl
attribute [go_sem] af31 a31_0 a31_1 a31_2 a31_3 a31_4 a31_5 a31_6 a31_7 a31_8 a31_9 a31_10 a31_11 a31_12 a31_13 a31_14 a31_15 a31_16 a31_17 a31_18 a31_19 a31_20 a31_21 a31_22 a31_23 a31_24 a31_25 a31_26 a31_27 a31_28 a31_29 a31_30 a31_31 a31_32 a31_33 a31_34 a31_35 a31_36 a31_37 a31_38 a31_39 a31_40 a31_41 a31_42 a31_43 a31_44 a31_45 a31_46 a31_47 a31_48 a31_49 a31_50 a31_51 a31_52 a31_53 a31_54
def a46_0 : AC := .reg [⟨(some 2), (.mv (.c (.bool false))), none, 0, false, []⟩] false
def a46_1 : AC := .reg [⟨(some 3), (.mv (.t 0)), none, 0, false, []⟩,
    ⟨(some 4), (.bin 0 .geq (.t 3) (.c (.int .i64 0))), none, 0, false, []⟩,
    ⟨(some 5), (.mv (.t 4)), none, 0, false, []⟩,
    ⟨(some 6), (.mv (.t 0)), (some (5, true)), 0, false, []⟩,
    ⟨(some 7), (.bin 0 .leq (.t 6) (.c (.int .i64 1000))), (some (5, true)), 0, false, []⟩,
    ⟨(some 8), (.pick (.t 5) (.t 7) (.c (.bool false))), none, 0, false, []⟩,
    ⟨(some 2), (.mv (.t 8)), none, 0, false, []⟩] false
def a46_2 : AC := .seq a46_1 .ret
def a46_3 : AC := .seq a46_0 a46_2
def af46 : AF := { ntmps := 9, res := [(.t 2)], body := a46_3 }
theorem tr46 : trF Tryd.prog Tryd.f46 = some af46 := by kernel_rfl
attribute [go_sem] af46 a46_0 a46_1 a46_2 a46_3
end Go.Proofs.YtdpigpopcbjkmaaDoor.Abs
