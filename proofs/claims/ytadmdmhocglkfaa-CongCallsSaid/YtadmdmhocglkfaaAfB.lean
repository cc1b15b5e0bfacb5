/- The abstract code of functions, printed by program; that it is the translation of the model's code is decided by the kernel. -/
import Derived.Test.YtadmdmhocglkfaaEv
import Derived.Test.YtadmdmhocglkfaaProg
import Derived.KernelRfl
namespace Go.Proofs.Ytadmdmhocglkfaa.Abs
open Go Go.Proofs Go.Proofs.Ytadmdmhocglkfaa
def a130_0 : AC := .reg [⟨(some 1), (.box (.t 0)), none, 0, false, []⟩,
    ⟨(some 2), (.mv (.c (.bool false))), none, 0, false, []⟩] false
def a130_1 : AC := .reg [⟨(some 3), (.load true 5 (.t 1)), none, 0, false, []⟩,
    ⟨(some 4), (.call 139 [(.t 3), (.c (.int .i64 2))]), none, 0, false, []⟩,
    ⟨(some 2), (.mv (.t 4)), none, 0, false, []⟩] false
def a130_2 : AC := .seq a130_1 .ret
def a130_3 : AC := .seq a130_0 a130_2
def af130 : AF := { ntmps := 5, res := [(.t 2)], body := a130_3 }
theorem tr130 : trF Try.prog Try.f130 = some af130 := by kernel_rfl
attribute [go_sem] af130 a130_0 a130_1 a130_2 a130_3
def a132_0 : AC := .reg [⟨(some 1), (.box (.t 0)), none, 0, false, []⟩,
    ⟨(some 2), (.mv (.c (.bool false))), none, 0, false, []⟩] false
def a132_1 : AC := .reg [⟨(some 3), (.load true 5 (.t 1)), none, 0, false, []⟩,
    ⟨(some 4), (.call 139 [(.t 3), (.c (.int .i64 0))]), none, 0, false, []⟩,
    ⟨(some 2), (.mv (.t 4)), none, 0, false, []⟩] false
def a132_2 : AC := .seq a132_1 .ret
def a132_3 : AC := .seq a132_0 a132_2
def af132 : AF := { ntmps := 5, res := [(.t 2)], body := a132_3 }
theorem tr132 : trF Try.prog Try.f132 = some af132 := by kernel_rfl
attribute [go_sem] af132 a132_0 a132_1 a132_2 a132_3
def a139_0 : AC := .reg [⟨(some 2), (.box (.t 0)), none, 0, false, []⟩,
    ⟨(some 4), (.mv (.c (.bool false))), none, 0, false, []⟩] false
def a139_1 : AC := .reg [⟨(some 9), (.fad 0 (.t 2)), none, 0, false, []⟩,
    ⟨(some 10), (.load false 1 (.t 9)), none, 0, false, []⟩,
    ⟨(some 11), (.call 149 [(.t 10)]), none, 0, false, []⟩,
    ⟨(some 5), (.mv (.t 11)), none, 0, false, []⟩] false
def a139_2 : AC := .reg [⟨(some 12), (.mv (.t 1)), none, 0, false, []⟩,
    ⟨(some 13), (.bin 0 .neq (.t 12) (.c (.int .i64 0))), none, 0, false, []⟩,
    ⟨(some 14), (.mv (.t 13)), none, 0, false, []⟩,
    ⟨(some 15), (.mv (.t 5)), (some (14, true)), 0, false, []⟩,
    ⟨(some 16), (.bin 0 .neq (.t 15) (.c (.int .i64 0))), (some (14, true)), 0, false, []⟩,
    ⟨(some 17), (.pick (.t 14) (.t 16) (.c (.bool false))), none, 0, false, []⟩,
    ⟨(some 18), (.mv (.t 17)), none, 0, false, []⟩,
    ⟨(some 19), (.mv (.t 5)), (some (18, true)), 0, false, []⟩,
    ⟨(some 20), (.mv (.t 1)), (some (18, true)), 0, false, []⟩,
    ⟨(some 21), (.bin 0 .neq (.t 19) (.t 20)), (some (18, true)), 0, false, []⟩,
    ⟨(some 22), (.pick (.t 18) (.t 21) (.c (.bool false))), none, 0, false, []⟩] false
def a139_3 : AC := .reg [⟨(some 4), (.mv (.c (.bool false))), none, 0, false, []⟩] false
def a139_4 : AC := .seq a139_3 .ret
def a139_5 : AC := .cond (.t 22) a139_4 .skip
def a139_6 : AC := .seq a139_2 a139_5
def a139_7 : AC := .reg [⟨(some 23), (.fad 4 (.t 2)), none, 0, false, []⟩,
    ⟨(some 24), (.load false 1 (.t 23)), none, 1, true, []⟩,
    ⟨(some 25), (.len false (.t 24)), none, 2, false, []⟩,
    ⟨(some 26), (.fad 0 (.t 2)), none, 3, false, []⟩,
    ⟨(some 27), (.load false 1 (.t 26)), none, 4, false, []⟩,
    ⟨(some 28), (.fad 3 (.t 2)), none, 5, false, []⟩,
    ⟨(some 29), (.load false 1 (.t 28)), none, 6, false, []⟩,
    ⟨(some 30), (.call 150 [(.t 27), (.t 29)]), none, 7, false, [1]⟩,
    ⟨(some 31), (.bin 0 .neq (.t 25) (.t 30)), none, 8, false, []⟩,
    ⟨(some 32), (.mv (.t 31)), none, 9, false, []⟩,
    ⟨(some 33), (.load true 5 (.t 2)), (some (32, false)), 10, false, []⟩,
    ⟨(some 34), (.call 151 [(.t 33)]), (some (32, false)), 11, false, []⟩,
    ⟨(some 35), (.un .not (.t 34)), (some (32, false)), 12, false, []⟩,
    ⟨(some 36), (.pick (.t 32) (.c (.bool true)) (.t 35)), none, 13, false, []⟩] true
def a139_8 : AC := .reg [⟨(some 4), (.mv (.c (.bool false))), none, 0, false, []⟩] false
def a139_9 : AC := .seq a139_8 .ret
def a139_10 : AC := .cond (.t 36) a139_9 .skip
def a139_11 : AC := .seq a139_7 a139_10
def a139_12 : AC := .reg [⟨(some 37), (.fad 4 (.t 2)), none, 0, false, []⟩,
    ⟨(some 38), (.load false 1 (.t 37)), none, 0, false, []⟩,
    ⟨(some 39), (.len false (.t 38)), none, 0, false, []⟩,
    ⟨(some 40), (.mv (.c (.int .i64 0))), none, 0, false, []⟩] false
def a139_13 : AC := .reg [⟨(some 41), (.bin 0 .lss (.t 40) (.t 39)), none, 0, false, []⟩] false
def a139_14 : AC := .cond (.t 41) .skip (.exit 0)
def a139_15 : AC := .reg [⟨(some 42), (.mv (.t 40)), none, 0, false, []⟩,
    ⟨(some 43), (.iad 5 (.t 38) (.t 40)), none, 0, false, []⟩,
    ⟨(some 44), (.load true 5 (.t 43)), none, 0, false, []⟩,
    ⟨(some 7), (.new [(.int .i64 0), (.int .i64 0), (.int .i64 0), (.int .i64 0), .nils]), none, 0, false, []⟩,
    ⟨(some 6), (.mv (.t 42)), none, 0, false, []⟩,
    ⟨none, (.store 5 (.t 7) (.t 44)), none, 0, false, []⟩] false
def a139_16 : AC := .reg [⟨(some 45), (.mv (.t 5)), none, 0, false, []⟩,
    ⟨(some 8), (.mv (.t 45)), none, 0, false, []⟩] false
def a139_17 : AC := .reg [⟨(some 46), (.fad 0 (.t 2)), none, 0, false, []⟩,
    ⟨(some 47), (.load false 1 (.t 46)), none, 0, false, []⟩,
    ⟨(some 48), (.bin 0 .eql (.t 47) (.c (.int .i64 12))), none, 0, false, []⟩,
    ⟨(some 49), (.mv (.t 48)), none, 0, false, []⟩,
    ⟨(some 50), (.mv (.t 6)), (some (49, true)), 0, false, []⟩,
    ⟨(some 51), (.bin 0 .eql (.t 50) (.c (.int .i64 2))), (some (49, true)), 0, false, []⟩,
    ⟨(some 52), (.pick (.t 49) (.t 51) (.c (.bool false))), none, 0, false, []⟩] false
def a139_18 : AC := .reg [⟨(some 8), (.mv (.c (.int .i64 2))), none, 0, false, []⟩] false
def a139_19 : AC := .cond (.t 52) a139_18 .skip
def a139_20 : AC := .seq a139_17 a139_19
def a139_21 : AC := .reg [⟨(some 53), (.load true 5 (.t 7)), none, 0, false, []⟩,
    ⟨(some 54), (.mv (.t 8)), none, 0, false, []⟩,
    ⟨(some 55), (.call 139 [(.t 53), (.t 54)]), none, 0, false, []⟩,
    ⟨(some 56), (.un .not (.t 55)), none, 0, false, []⟩] false
def a139_22 : AC := .reg [⟨(some 4), (.mv (.c (.bool false))), none, 0, false, []⟩] false
def a139_23 : AC := .seq a139_22 .ret
def a139_24 : AC := .cond (.t 56) a139_23 .skip
def a139_25 : AC := .seq a139_21 a139_24
def a139_26 : AC := .seq a139_20 a139_25
def a139_27 : AC := .seq a139_16 a139_26
def a139_28 : AC := .seq a139_15 a139_27
def a139_29 : AC := .blk 1 a139_28
def a139_30 : AC := .reg [⟨(some 57), (.bin 0 .add (.t 40) (.c (.int .i64 1))), none, 0, false, []⟩,
    ⟨(some 40), (.mv (.t 57)), none, 0, false, []⟩] false
def a139_31 : AC := .seq a139_29 a139_30
def a139_32 : AC := .seq a139_14 a139_31
def a139_33 : AC := .seq a139_13 a139_32
def a139_34 : AC := .loop a139_33
def a139_35 : AC := .blk 0 a139_34
def a139_36 : AC := .seq a139_12 a139_35
def a139_37 : AC := .reg [⟨(some 4), (.mv (.c (.bool true))), none, 0, false, []⟩] false
def a139_38 : AC := .seq a139_37 .ret
def a139_39 : AC := .seq a139_36 a139_38
def a139_40 : AC := .seq a139_11 a139_39
def a139_41 : AC := .seq a139_6 a139_40
def a139_42 : AC := .seq a139_1 a139_41
def a139_43 : AC := .seq a139_0 a139_42
def af139 : AF := { ntmps := 58, res := [(.t 4)], body := a139_43 }
theorem tr139 : trF Try.prog Try.f139 = some af139 := by kernel_rfl
attribute [go_sem] af139 a139_0 a139_1 a139_2 a139_3 a139_4 a139_5 a139_6 a139_7 a139_8 a139_9 a139_10 a139_11 a139_12 a139_13 a139_14 a139_15 a139_16 a139_17 a139_18 a139_19 a139_20 a139_21 a139_22 a139_23 a139_24 a139_25 a139_26 a139_27 a139_28 a139_29 a139_30 a139_31 a139_32 a139_33 a139_34 a139_35 a139_36 a139_37 a139_38 a139_39 a139_40 a139_41 a139_42 a139_43
def a149_0 : AC := .reg [⟨(some 2), (.mv (.c (.int .i64 0))), none, 0, false, []⟩] false
def a149_1 : AC := .reg [⟨(some 4), (.mv (.t 0)), none, 0, false, []⟩,
    ⟨(some 5), (.bin 0 .eql (.t 4) (.c (.int .i64 1))), none, 0, false, []⟩,
    ⟨(some 6), (.mv (.t 5)), none, 0, false, []⟩,
    ⟨(some 7), (.mv (.t 0)), (some (6, false)), 0, false, []⟩,
    ⟨(some 8), (.bin 0 .eql (.t 7) (.c (.int .i64 2))), (some (6, false)), 0, false, []⟩,
    ⟨(some 9), (.pick (.t 6) (.c (.bool true)) (.t 8)), none, 0, false, []⟩,
    ⟨(some 3), (.mv (.t 9)), none, 0, false, []⟩] false
def a149_2 : AC := .reg [⟨(some 2), (.mv (.c (.int .i64 0))), none, 0, false, []⟩] false
def a149_3 : AC := .seq a149_2 .ret
def a149_4 : AC := .reg [⟨(some 11), (.mv (.t 0)), none, 0, false, []⟩,
    ⟨(some 12), (.bin 0 .leq (.t 11) (.c (.int .i64 12))), none, 0, false, []⟩,
    ⟨(some 10), (.mv (.t 12)), none, 0, false, []⟩] false
def a149_5 : AC := .reg [⟨(some 2), (.mv (.c (.int .i64 1))), none, 0, false, []⟩] false
def a149_6 : AC := .seq a149_5 .ret
def a149_7 : AC := .cond (.t 10) a149_6 .skip
def a149_8 : AC := .seq a149_4 a149_7
def a149_9 : AC := .cond (.t 3) a149_3 a149_8
def a149_10 : AC := .seq a149_1 a149_9
def a149_11 : AC := .blk 0 a149_10
def a149_12 : AC := .reg [⟨(some 2), (.mv (.c (.int .i64 2))), none, 0, false, []⟩] false
def a149_13 : AC := .seq a149_12 .ret
def a149_14 : AC := .seq a149_11 a149_13
def a149_15 : AC := .seq a149_0 a149_14
def af149 : AF := { ntmps := 13, res := [(.t 2)], body := a149_15 }
theorem tr149 : trF Try.prog Try.f149 = some af149 := by kernel_rfl
attribute [go_sem] af149 a149_0 a149_1 a149_2 a149_3 a149_4 a149_5 a149_6 a149_7 a149_8 a149_9 a149_10 a149_11 a149_12 a149_13 a149_14 a149_15
def a150_0 : AC := .reg [⟨(some 4), (.mv (.c (.int .i64 0))), none, 0, false, []⟩] false
def a150_1 : AC := .reg [⟨(some 5), (.mv (.t 0)), none, 0, false, []⟩] false
def a150_2 : AC := .reg [⟨(some 7), (.bin 0 .eql (.t 5) (.c (.int .i64 1))), none, 0, false, []⟩,
    ⟨(some 6), (.mv (.t 7)), none, 0, false, []⟩] false
def a150_3 : AC := .reg [⟨(some 8), (.bin 0 .eql (.t 5) (.c (.int .i64 2))), none, 0, false, []⟩,
    ⟨(some 6), (.mv (.t 8)), none, 0, false, []⟩] false
def a150_4 : AC := .cond (.t 6) .skip a150_3
def a150_5 : AC := .seq a150_2 a150_4
def a150_6 : AC := .reg [⟨(some 4), (.mv (.c (.int .i64 0))), none, 0, false, []⟩] false
def a150_7 : AC := .seq a150_6 .ret
def a150_8 : AC := .reg [⟨(some 10), (.bin 0 .eql (.t 5) (.c (.int .i64 18))), none, 0, false, []⟩,
    ⟨(some 9), (.mv (.t 10)), none, 0, false, []⟩] false
def a150_9 : AC := .reg [⟨(some 11), (.bin 0 .eql (.t 5) (.c (.int .i64 19))), none, 0, false, []⟩,
    ⟨(some 9), (.mv (.t 11)), none, 0, false, []⟩] false
def a150_10 : AC := .cond (.t 9) .skip a150_9
def a150_11 : AC := .seq a150_8 a150_10
def a150_12 : AC := .reg [⟨(some 4), (.mv (.c (.int .i64 1))), none, 0, false, []⟩] false
def a150_13 : AC := .seq a150_12 .ret
def a150_14 : AC := .reg [⟨(some 13), (.bin 0 .eql (.t 5) (.c (.int .i64 3))), none, 0, false, []⟩,
    ⟨(some 12), (.mv (.t 13)), none, 0, false, []⟩] false
def a150_15 : AC := .reg [⟨(some 14), (.bin 0 .eql (.t 5) (.c (.int .i64 6))), none, 0, false, []⟩,
    ⟨(some 12), (.mv (.t 14)), none, 0, false, []⟩] false
def a150_16 : AC := .reg [⟨(some 15), (.bin 0 .eql (.t 5) (.c (.int .i64 13))), none, 0, false, []⟩,
    ⟨(some 12), (.mv (.t 15)), none, 0, false, []⟩] false
def a150_17 : AC := .reg [⟨(some 16), (.bin 0 .eql (.t 5) (.c (.int .i64 14))), none, 0, false, []⟩,
    ⟨(some 12), (.mv (.t 16)), none, 0, false, []⟩] false
def a150_18 : AC := .reg [⟨(some 17), (.bin 0 .eql (.t 5) (.c (.int .i64 15))), none, 0, false, []⟩,
    ⟨(some 12), (.mv (.t 17)), none, 0, false, []⟩] false
def a150_19 : AC := .reg [⟨(some 18), (.bin 0 .eql (.t 5) (.c (.int .i64 16))), none, 0, false, []⟩,
    ⟨(some 12), (.mv (.t 18)), none, 0, false, []⟩] false
def a150_20 : AC := .reg [⟨(some 19), (.bin 0 .eql (.t 5) (.c (.int .i64 21))), none, 0, false, []⟩,
    ⟨(some 12), (.mv (.t 19)), none, 0, false, []⟩] false
def a150_21 : AC := .reg [⟨(some 20), (.bin 0 .eql (.t 5) (.c (.int .i64 11))), none, 0, false, []⟩,
    ⟨(some 12), (.mv (.t 20)), none, 0, false, []⟩] false
def a150_22 : AC := .cond (.t 12) .skip a150_21
def a150_23 : AC := .seq a150_20 a150_22
def a150_24 : AC := .cond (.t 12) .skip a150_23
def a150_25 : AC := .seq a150_19 a150_24
def a150_26 : AC := .cond (.t 12) .skip a150_25
def a150_27 : AC := .seq a150_18 a150_26
def a150_28 : AC := .cond (.t 12) .skip a150_27
def a150_29 : AC := .seq a150_17 a150_28
def a150_30 : AC := .cond (.t 12) .skip a150_29
def a150_31 : AC := .seq a150_16 a150_30
def a150_32 : AC := .cond (.t 12) .skip a150_31
def a150_33 : AC := .seq a150_15 a150_32
def a150_34 : AC := .cond (.t 12) .skip a150_33
def a150_35 : AC := .seq a150_14 a150_34
def a150_36 : AC := .reg [⟨(some 4), (.mv (.c (.int .i64 2))), none, 0, false, []⟩] false
def a150_37 : AC := .seq a150_36 .ret
def a150_38 : AC := .reg [⟨(some 22), (.bin 0 .eql (.t 5) (.c (.int .i64 4))), none, 0, false, []⟩,
    ⟨(some 21), (.mv (.t 22)), none, 0, false, []⟩] false
def a150_39 : AC := .reg [⟨(some 23), (.bin 0 .eql (.t 5) (.c (.int .i64 8))), none, 0, false, []⟩,
    ⟨(some 21), (.mv (.t 23)), none, 0, false, []⟩] false
def a150_40 : AC := .reg [⟨(some 24), (.bin 0 .eql (.t 5) (.c (.int .i64 9))), none, 0, false, []⟩,
    ⟨(some 21), (.mv (.t 24)), none, 0, false, []⟩] false
def a150_41 : AC := .reg [⟨(some 25), (.bin 0 .eql (.t 5) (.c (.int .i64 10))), none, 0, false, []⟩,
    ⟨(some 21), (.mv (.t 25)), none, 0, false, []⟩] false
def a150_42 : AC := .reg [⟨(some 26), (.bin 0 .eql (.t 5) (.c (.int .i64 20))), none, 0, false, []⟩,
    ⟨(some 21), (.mv (.t 26)), none, 0, false, []⟩] false
def a150_43 : AC := .cond (.t 21) .skip a150_42
def a150_44 : AC := .seq a150_41 a150_43
def a150_45 : AC := .cond (.t 21) .skip a150_44
def a150_46 : AC := .seq a150_40 a150_45
def a150_47 : AC := .cond (.t 21) .skip a150_46
def a150_48 : AC := .seq a150_39 a150_47
def a150_49 : AC := .cond (.t 21) .skip a150_48
def a150_50 : AC := .seq a150_38 a150_49
def a150_51 : AC := .reg [⟨(some 4), (.mv (.c (.int .i64 3))), none, 0, false, []⟩] false
def a150_52 : AC := .seq a150_51 .ret
def a150_53 : AC := .reg [⟨(some 28), (.bin 0 .eql (.t 5) (.c (.int .i64 5))), none, 0, false, []⟩,
    ⟨(some 27), (.mv (.t 28)), none, 0, false, []⟩] false
def a150_54 : AC := .reg [⟨(some 29), (.bin 0 .eql (.t 5) (.c (.int .i64 7))), none, 0, false, []⟩,
    ⟨(some 27), (.mv (.t 29)), none, 0, false, []⟩] false
def a150_55 : AC := .reg [⟨(some 30), (.bin 0 .eql (.t 5) (.c (.int .i64 12))), none, 0, false, []⟩,
    ⟨(some 27), (.mv (.t 30)), none, 0, false, []⟩] false
def a150_56 : AC := .reg [⟨(some 31), (.bin 0 .eql (.t 5) (.c (.int .i64 17))), none, 0, false, []⟩,
    ⟨(some 27), (.mv (.t 31)), none, 0, false, []⟩] false
def a150_57 : AC := .cond (.t 27) .skip a150_56
def a150_58 : AC := .seq a150_55 a150_57
def a150_59 : AC := .cond (.t 27) .skip a150_58
def a150_60 : AC := .seq a150_54 a150_59
def a150_61 : AC := .cond (.t 27) .skip a150_60
def a150_62 : AC := .seq a150_53 a150_61
def a150_63 : AC := .reg [⟨(some 4), (.mv (.c (.int .i64 4))), none, 0, false, []⟩] false
def a150_64 : AC := .seq a150_63 .ret
def a150_65 : AC := .reg [⟨(some 33), (.bin 0 .eql (.t 5) (.c (.int .i64 22))), none, 0, false, []⟩,
    ⟨(some 32), (.mv (.t 33)), none, 0, false, []⟩] false
def a150_66 : AC := .reg [⟨(some 4), (.mv (.c (.int .i64 6))), none, 0, false, []⟩] false
def a150_67 : AC := .seq a150_66 .ret
def a150_68 : AC := .reg [⟨(some 35), (.bin 0 .eql (.t 5) (.c (.int .i64 23))), none, 0, false, []⟩,
    ⟨(some 34), (.mv (.t 35)), none, 0, false, []⟩] false
def a150_69 : AC := .reg [⟨(some 36), (.mv (.t 1)), none, 0, false, []⟩,
    ⟨(some 37), (.call 157 [(.t 36)]), none, 0, false, []⟩,
    ⟨(some 4), (.mv (.t 37)), none, 0, false, []⟩] false
def a150_70 : AC := .seq a150_69 .ret
def a150_71 : AC := .cond (.t 34) a150_70 .skip
def a150_72 : AC := .seq a150_68 a150_71
def a150_73 : AC := .cond (.t 32) a150_67 a150_72
def a150_74 : AC := .seq a150_65 a150_73
def a150_75 : AC := .cond (.t 27) a150_64 a150_74
def a150_76 : AC := .seq a150_62 a150_75
def a150_77 : AC := .cond (.t 21) a150_52 a150_76
def a150_78 : AC := .seq a150_50 a150_77
def a150_79 : AC := .cond (.t 12) a150_37 a150_78
def a150_80 : AC := .seq a150_35 a150_79
def a150_81 : AC := .cond (.t 9) a150_13 a150_80
def a150_82 : AC := .seq a150_11 a150_81
def a150_83 : AC := .cond (.t 6) a150_7 a150_82
def a150_84 : AC := .seq a150_5 a150_83
def a150_85 : AC := .blk 0 a150_84
def a150_86 : AC := .seq a150_1 a150_85
def a150_87 : AC := .reg [⟨(some 4), (.mv (.c (.int .i64 (-1)))), none, 0, false, []⟩] false
def a150_88 : AC := .seq a150_87 .ret
def a150_89 : AC := .seq a150_86 a150_88
def a150_90 : AC := .seq a150_0 a150_89
def af150 : AF := { ntmps := 38, res := [(.t 4)], body := a150_90 }
theorem tr150 : trF Try.prog Try.f150 = some af150 := by kernel_rfl
attribute [go_sem] af150 a150_0 a150_1 a150_2 a150_3 a150_4 a150_5 a150_6 a150_7 a150_8 a150_9 a150_10 a150_11 a150_12 a150_13 a150_14 a150_15 a150_16 a150_17 a150_18 a150_19 a150_20 a150_21 a150_22 a150_23 a150_24 a150_25 a150_26 a150_27 a150_28 a150_29 a150_30 a150_31 a150_32 a150_33 a150_34 a150_35 a150_36 a150_37 a150_38 a150_39 a150_40 a150_41 a150_42 a150_43 a150_44 a150_45 a150_46 a150_47 a150_48 a150_49 a150_50 a150_51 a150_52 a150_53 a150_54 a150_55 a150_56 a150_57 a150_58 a150_59 a150_60 a150_61 a150_62 a150_63 a150_64 a150_65 a150_66 a150_67 a150_68 a150_69 a150_70 a150_71 a150_72 a150_73 a150_74 a150_75 a150_76 a150_77 a150_78 a150_79 a150_80 a150_81 a150_82 a150_83 a150_84 a150_85 a150_86 a150_87 a150_88 a150_89 a150_90
def a151_0 : AC := .reg [⟨(some 1), (.box (.t 0)), none, 0, false, []⟩,
    ⟨(some 2), (.mv (.c (.bool false))), none, 0, false, []⟩] false
def a151_1 : AC := .reg [⟨(some 3), (.fad 0 (.t 1)), none, 0, false, []⟩,
    ⟨(some 4), (.load false 1 (.t 3)), none, 0, false, []⟩] false
def a151_2 : AC := .reg [⟨(some 6), (.bin 0 .eql (.t 4) (.c (.int .i64 1))), none, 0, false, []⟩,
    ⟨(some 5), (.mv (.t 6)), none, 0, false, []⟩] false
def a151_3 : AC := .reg [⟨(some 7), (.bin 0 .eql (.t 4) (.c (.int .i64 10))), none, 0, false, []⟩,
    ⟨(some 5), (.mv (.t 7)), none, 0, false, []⟩] false
def a151_4 : AC := .reg [⟨(some 8), (.bin 0 .eql (.t 4) (.c (.int .i64 11))), none, 0, false, []⟩,
    ⟨(some 5), (.mv (.t 8)), none, 0, false, []⟩] false
def a151_5 : AC := .reg [⟨(some 9), (.bin 0 .eql (.t 4) (.c (.int .i64 12))), none, 0, false, []⟩,
    ⟨(some 5), (.mv (.t 9)), none, 0, false, []⟩] false
def a151_6 : AC := .cond (.t 5) .skip a151_5
def a151_7 : AC := .seq a151_4 a151_6
def a151_8 : AC := .cond (.t 5) .skip a151_7
def a151_9 : AC := .seq a151_3 a151_8
def a151_10 : AC := .cond (.t 5) .skip a151_9
def a151_11 : AC := .seq a151_2 a151_10
def a151_12 : AC := .reg [⟨(some 10), (.fad 1 (.t 1)), none, 0, false, []⟩,
    ⟨(some 11), (.load false 1 (.t 10)), none, 0, false, []⟩,
    ⟨(some 12), (.call 158 [(.t 11)]), none, 0, false, []⟩,
    ⟨(some 13), (.mv (.t 12)), none, 0, false, []⟩,
    ⟨(some 14), (.fad 2 (.t 1)), (some (13, true)), 0, false, []⟩,
    ⟨(some 15), (.load false 1 (.t 14)), (some (13, true)), 0, false, []⟩,
    ⟨(some 16), (.bin 0 .eql (.t 15) (.c (.int .i64 0))), (some (13, true)), 0, false, []⟩,
    ⟨(some 17), (.pick (.t 13) (.t 16) (.c (.bool false))), none, 0, false, []⟩,
    ⟨(some 18), (.mv (.t 17)), none, 0, false, []⟩,
    ⟨(some 19), (.fad 3 (.t 1)), (some (18, true)), 0, false, []⟩,
    ⟨(some 20), (.load false 1 (.t 19)), (some (18, true)), 0, false, []⟩,
    ⟨(some 21), (.bin 0 .eql (.t 20) (.c (.int .i64 0))), (some (18, true)), 0, false, []⟩,
    ⟨(some 22), (.pick (.t 18) (.t 21) (.c (.bool false))), none, 0, false, []⟩,
    ⟨(some 2), (.mv (.t 22)), none, 0, false, []⟩] false
def a151_13 : AC := .seq a151_12 .ret
def a151_14 : AC := .reg [⟨(some 24), (.bin 0 .eql (.t 4) (.c (.int .i64 2))), none, 0, false, []⟩,
    ⟨(some 23), (.mv (.t 24)), none, 0, false, []⟩] false
def a151_15 : AC := .reg [⟨(some 25), (.fad 1 (.t 1)), none, 0, false, []⟩,
    ⟨(some 26), (.load false 1 (.t 25)), none, 0, false, []⟩,
    ⟨(some 27), (.bin 0 .geq (.t 26) (.c (.int .i64 0))), none, 0, false, []⟩,
    ⟨(some 28), (.mv (.t 27)), none, 0, false, []⟩,
    ⟨(some 29), (.fad 1 (.t 1)), (some (28, true)), 0, false, []⟩,
    ⟨(some 30), (.load false 1 (.t 29)), (some (28, true)), 0, false, []⟩,
    ⟨(some 31), (.bin 0 .leq (.t 30) (.c (.int .i64 2147483647))), (some (28, true)), 0, false, []⟩,
    ⟨(some 32), (.pick (.t 28) (.t 31) (.c (.bool false))), none, 0, false, []⟩,
    ⟨(some 33), (.mv (.t 32)), none, 0, false, []⟩,
    ⟨(some 34), (.fad 2 (.t 1)), (some (33, true)), 0, false, []⟩,
    ⟨(some 35), (.load false 1 (.t 34)), (some (33, true)), 0, false, []⟩,
    ⟨(some 36), (.bin 0 .eql (.t 35) (.c (.int .i64 0))), (some (33, true)), 0, false, []⟩,
    ⟨(some 37), (.pick (.t 33) (.t 36) (.c (.bool false))), none, 0, false, []⟩,
    ⟨(some 38), (.mv (.t 37)), none, 0, false, []⟩,
    ⟨(some 39), (.fad 3 (.t 1)), (some (38, true)), 0, false, []⟩,
    ⟨(some 40), (.load false 1 (.t 39)), (some (38, true)), 0, false, []⟩,
    ⟨(some 41), (.bin 0 .eql (.t 40) (.c (.int .i64 0))), (some (38, true)), 0, false, []⟩,
    ⟨(some 42), (.pick (.t 38) (.t 41) (.c (.bool false))), none, 0, false, []⟩,
    ⟨(some 2), (.mv (.t 42)), none, 0, false, []⟩] false
def a151_16 : AC := .seq a151_15 .ret
def a151_17 : AC := .reg [⟨(some 44), (.bin 0 .eql (.t 4) (.c (.int .i64 3))), none, 0, false, []⟩,
    ⟨(some 43), (.mv (.t 44)), none, 0, false, []⟩] false
def a151_18 : AC := .reg [⟨(some 45), (.bin 0 .eql (.t 4) (.c (.int .i64 4))), none, 0, false, []⟩,
    ⟨(some 43), (.mv (.t 45)), none, 0, false, []⟩] false
def a151_19 : AC := .reg [⟨(some 46), (.bin 0 .eql (.t 4) (.c (.int .i64 5))), none, 0, false, []⟩,
    ⟨(some 43), (.mv (.t 46)), none, 0, false, []⟩] false
def a151_20 : AC := .reg [⟨(some 47), (.bin 0 .eql (.t 4) (.c (.int .i64 6))), none, 0, false, []⟩,
    ⟨(some 43), (.mv (.t 47)), none, 0, false, []⟩] false
def a151_21 : AC := .reg [⟨(some 48), (.bin 0 .eql (.t 4) (.c (.int .i64 7))), none, 0, false, []⟩,
    ⟨(some 43), (.mv (.t 48)), none, 0, false, []⟩] false
def a151_22 : AC := .reg [⟨(some 49), (.bin 0 .eql (.t 4) (.c (.int .i64 8))), none, 0, false, []⟩,
    ⟨(some 43), (.mv (.t 49)), none, 0, false, []⟩] false
def a151_23 : AC := .reg [⟨(some 50), (.bin 0 .eql (.t 4) (.c (.int .i64 9))), none, 0, false, []⟩,
    ⟨(some 43), (.mv (.t 50)), none, 0, false, []⟩] false
def a151_24 : AC := .cond (.t 43) .skip a151_23
def a151_25 : AC := .seq a151_22 a151_24
def a151_26 : AC := .cond (.t 43) .skip a151_25
def a151_27 : AC := .seq a151_21 a151_26
def a151_28 : AC := .cond (.t 43) .skip a151_27
def a151_29 : AC := .seq a151_20 a151_28
def a151_30 : AC := .cond (.t 43) .skip a151_29
def a151_31 : AC := .seq a151_19 a151_30
def a151_32 : AC := .cond (.t 43) .skip a151_31
def a151_33 : AC := .seq a151_18 a151_32
def a151_34 : AC := .cond (.t 43) .skip a151_33
def a151_35 : AC := .seq a151_17 a151_34
def a151_36 : AC := .reg [⟨(some 51), (.fad 1 (.t 1)), none, 0, false, []⟩,
    ⟨(some 52), (.load false 1 (.t 51)), none, 0, false, []⟩,
    ⟨(some 53), (.call 158 [(.t 52)]), none, 0, false, []⟩,
    ⟨(some 54), (.mv (.t 53)), none, 0, false, []⟩,
    ⟨(some 55), (.fad 2 (.t 1)), (some (54, true)), 0, false, []⟩,
    ⟨(some 56), (.load false 1 (.t 55)), (some (54, true)), 0, false, []⟩,
    ⟨(some 57), (.call 158 [(.t 56)]), (some (54, true)), 0, false, []⟩,
    ⟨(some 58), (.pick (.t 54) (.t 57) (.c (.bool false))), none, 0, false, []⟩,
    ⟨(some 59), (.mv (.t 58)), none, 0, false, []⟩,
    ⟨(some 60), (.fad 3 (.t 1)), (some (59, true)), 0, false, []⟩,
    ⟨(some 61), (.load false 1 (.t 60)), (some (59, true)), 0, false, []⟩,
    ⟨(some 62), (.bin 0 .eql (.t 61) (.c (.int .i64 0))), (some (59, true)), 0, false, []⟩,
    ⟨(some 63), (.pick (.t 59) (.t 62) (.c (.bool false))), none, 0, false, []⟩,
    ⟨(some 2), (.mv (.t 63)), none, 0, false, []⟩] false
def a151_37 : AC := .seq a151_36 .ret
def a151_38 : AC := .reg [⟨(some 65), (.bin 0 .eql (.t 4) (.c (.int .i64 23))), none, 0, false, []⟩,
    ⟨(some 64), (.mv (.t 65)), none, 0, false, []⟩] false
def a151_39 : AC := .reg [⟨(some 66), (.fad 1 (.t 1)), none, 0, false, []⟩,
    ⟨(some 67), (.load false 1 (.t 66)), none, 0, false, []⟩,
    ⟨(some 68), (.call 158 [(.t 67)]), none, 0, false, []⟩,
    ⟨(some 69), (.mv (.t 68)), none, 0, false, []⟩,
    ⟨(some 70), (.fad 2 (.t 1)), (some (69, true)), 0, false, []⟩,
    ⟨(some 71), (.load false 1 (.t 70)), (some (69, true)), 0, false, []⟩,
    ⟨(some 72), (.call 158 [(.t 71)]), (some (69, true)), 0, false, []⟩,
    ⟨(some 73), (.pick (.t 69) (.t 72) (.c (.bool false))), none, 0, false, []⟩,
    ⟨(some 2), (.mv (.t 73)), none, 0, false, []⟩] false
def a151_40 : AC := .seq a151_39 .ret
def a151_41 : AC := .cond (.t 64) a151_40 .skip
def a151_42 : AC := .seq a151_38 a151_41
def a151_43 : AC := .cond (.t 43) a151_37 a151_42
def a151_44 : AC := .seq a151_35 a151_43
def a151_45 : AC := .cond (.t 23) a151_16 a151_44
def a151_46 : AC := .seq a151_14 a151_45
def a151_47 : AC := .cond (.t 5) a151_13 a151_46
def a151_48 : AC := .seq a151_11 a151_47
def a151_49 : AC := .blk 0 a151_48
def a151_50 : AC := .seq a151_1 a151_49
def a151_51 : AC := .reg [⟨(some 74), (.fad 1 (.t 1)), none, 0, false, []⟩,
    ⟨(some 75), (.load false 1 (.t 74)), none, 0, false, []⟩,
    ⟨(some 76), (.bin 0 .eql (.t 75) (.c (.int .i64 0))), none, 0, false, []⟩,
    ⟨(some 77), (.mv (.t 76)), none, 0, false, []⟩,
    ⟨(some 78), (.fad 2 (.t 1)), (some (77, true)), 0, false, []⟩,
    ⟨(some 79), (.load false 1 (.t 78)), (some (77, true)), 0, false, []⟩,
    ⟨(some 80), (.bin 0 .eql (.t 79) (.c (.int .i64 0))), (some (77, true)), 0, false, []⟩,
    ⟨(some 81), (.pick (.t 77) (.t 80) (.c (.bool false))), none, 0, false, []⟩,
    ⟨(some 82), (.mv (.t 81)), none, 0, false, []⟩,
    ⟨(some 83), (.fad 3 (.t 1)), (some (82, true)), 0, false, []⟩,
    ⟨(some 84), (.load false 1 (.t 83)), (some (82, true)), 0, false, []⟩,
    ⟨(some 85), (.bin 0 .eql (.t 84) (.c (.int .i64 0))), (some (82, true)), 0, false, []⟩,
    ⟨(some 86), (.pick (.t 82) (.t 85) (.c (.bool false))), none, 0, false, []⟩,
    ⟨(some 2), (.mv (.t 86)), none, 0, false, []⟩] false
def a151_52 : AC := .seq a151_51 .ret
def a151_53 : AC := .seq a151_50 a151_52
def a151_54 : AC := .seq a151_0 a151_53
def af151 : AF := { ntmps := 87, res := [(.t 2)], body := a151_54 }
theorem tr151 : trF Try.prog Try.f151 = some af151 := by kernel_rfl
attribute [go_sem] af151 a151_0 a151_1 a151_2 a151_3 a151_4 a151_5 a151_6 a151_7 a151_8 a151_9 a151_10 a151_11 a151_12 a151_13 a151_14 a151_15 a151_16 a151_17 a151_18 a151_19 a151_20 a151_21 a151_22 a151_23 a151_24 a151_25 a151_26 a151_27 a151_28 a151_29 a151_30 a151_31 a151_32 a151_33 a151_34 a151_35 a151_36 a151_37 a151_38 a151_39 a151_40 a151_41 a151_42 a151_43 a151_44 a151_45 a151_46 a151_47 a151_48 a151_49 a151_50 a151_51 a151_52 a151_53 a151_54
def a157_0 : AC := .reg [⟨(some 2), (.mv (.c (.int .i64 0))), none, 0, false, []⟩] false
def a157_1 : AC := .reg [⟨(some 3), (.mv (.t 0)), none, 0, false, []⟩] false
def a157_2 : AC := .reg [⟨(some 5), (.bin 0 .eql (.t 3) (.c (.int .i64 3))), none, 0, false, []⟩,
    ⟨(some 4), (.mv (.t 5)), none, 0, false, []⟩] false
def a157_3 : AC := .reg [⟨(some 6), (.bin 0 .eql (.t 3) (.c (.int .i64 5))), none, 0, false, []⟩,
    ⟨(some 4), (.mv (.t 6)), none, 0, false, []⟩] false
def a157_4 : AC := .reg [⟨(some 7), (.bin 0 .eql (.t 3) (.c (.int .i64 6))), none, 0, false, []⟩,
    ⟨(some 4), (.mv (.t 7)), none, 0, false, []⟩] false
def a157_5 : AC := .reg [⟨(some 8), (.bin 0 .eql (.t 3) (.c (.int .i64 8))), none, 0, false, []⟩,
    ⟨(some 4), (.mv (.t 8)), none, 0, false, []⟩] false
def a157_6 : AC := .reg [⟨(some 9), (.bin 0 .eql (.t 3) (.c (.int .i64 10))), none, 0, false, []⟩,
    ⟨(some 4), (.mv (.t 9)), none, 0, false, []⟩] false
def a157_7 : AC := .reg [⟨(some 10), (.bin 0 .eql (.t 3) (.c (.int .i64 11))), none, 0, false, []⟩,
    ⟨(some 4), (.mv (.t 10)), none, 0, false, []⟩] false
def a157_8 : AC := .cond (.t 4) .skip a157_7
def a157_9 : AC := .seq a157_6 a157_8
def a157_10 : AC := .cond (.t 4) .skip a157_9
def a157_11 : AC := .seq a157_5 a157_10
def a157_12 : AC := .cond (.t 4) .skip a157_11
def a157_13 : AC := .seq a157_4 a157_12
def a157_14 : AC := .cond (.t 4) .skip a157_13
def a157_15 : AC := .seq a157_3 a157_14
def a157_16 : AC := .cond (.t 4) .skip a157_15
def a157_17 : AC := .seq a157_2 a157_16
def a157_18 : AC := .reg [⟨(some 2), (.mv (.c (.int .i64 4))), none, 0, false, []⟩] false
def a157_19 : AC := .seq a157_18 .ret
def a157_20 : AC := .reg [⟨(some 12), (.bin 0 .eql (.t 3) (.c (.int .i64 1))), none, 0, false, []⟩,
    ⟨(some 11), (.mv (.t 12)), none, 0, false, []⟩] false
def a157_21 : AC := .reg [⟨(some 13), (.bin 0 .eql (.t 3) (.c (.int .i64 2))), none, 0, false, []⟩,
    ⟨(some 11), (.mv (.t 13)), none, 0, false, []⟩] false
def a157_22 : AC := .reg [⟨(some 14), (.bin 0 .eql (.t 3) (.c (.int .i64 7))), none, 0, false, []⟩,
    ⟨(some 11), (.mv (.t 14)), none, 0, false, []⟩] false
def a157_23 : AC := .reg [⟨(some 15), (.bin 0 .eql (.t 3) (.c (.int .i64 9))), none, 0, false, []⟩,
    ⟨(some 11), (.mv (.t 15)), none, 0, false, []⟩] false
def a157_24 : AC := .cond (.t 11) .skip a157_23
def a157_25 : AC := .seq a157_22 a157_24
def a157_26 : AC := .cond (.t 11) .skip a157_25
def a157_27 : AC := .seq a157_21 a157_26
def a157_28 : AC := .cond (.t 11) .skip a157_27
def a157_29 : AC := .seq a157_20 a157_28
def a157_30 : AC := .reg [⟨(some 2), (.mv (.c (.int .i64 5))), none, 0, false, []⟩] false
def a157_31 : AC := .seq a157_30 .ret
def a157_32 : AC := .reg [⟨(some 17), (.bin 0 .eql (.t 3) (.c (.int .i64 4))), none, 0, false, []⟩,
    ⟨(some 16), (.mv (.t 17)), none, 0, false, []⟩] false
def a157_33 : AC := .reg [⟨(some 18), (.bin 0 .eql (.t 3) (.c (.int .i64 12))), none, 0, false, []⟩,
    ⟨(some 16), (.mv (.t 18)), none, 0, false, []⟩] false
def a157_34 : AC := .reg [⟨(some 19), (.bin 0 .eql (.t 3) (.c (.int .i64 13))), none, 0, false, []⟩,
    ⟨(some 16), (.mv (.t 19)), none, 0, false, []⟩] false
def a157_35 : AC := .reg [⟨(some 20), (.bin 0 .eql (.t 3) (.c (.int .i64 14))), none, 0, false, []⟩,
    ⟨(some 16), (.mv (.t 20)), none, 0, false, []⟩] false
def a157_36 : AC := .reg [⟨(some 21), (.bin 0 .eql (.t 3) (.c (.int .i64 21))), none, 0, false, []⟩,
    ⟨(some 16), (.mv (.t 21)), none, 0, false, []⟩] false
def a157_37 : AC := .cond (.t 16) .skip a157_36
def a157_38 : AC := .seq a157_35 a157_37
def a157_39 : AC := .cond (.t 16) .skip a157_38
def a157_40 : AC := .seq a157_34 a157_39
def a157_41 : AC := .cond (.t 16) .skip a157_40
def a157_42 : AC := .seq a157_33 a157_41
def a157_43 : AC := .cond (.t 16) .skip a157_42
def a157_44 : AC := .seq a157_32 a157_43
def a157_45 : AC := .reg [⟨(some 2), (.mv (.c (.int .i64 6))), none, 0, false, []⟩] false
def a157_46 : AC := .seq a157_45 .ret
def a157_47 : AC := .reg [⟨(some 23), (.bin 0 .eql (.t 3) (.c (.int .i64 15))), none, 0, false, []⟩,
    ⟨(some 22), (.mv (.t 23)), none, 0, false, []⟩] false
def a157_48 : AC := .reg [⟨(some 24), (.bin 0 .eql (.t 3) (.c (.int .i64 18))), none, 0, false, []⟩,
    ⟨(some 22), (.mv (.t 24)), none, 0, false, []⟩] false
def a157_49 : AC := .reg [⟨(some 25), (.bin 0 .eql (.t 3) (.c (.int .i64 19))), none, 0, false, []⟩,
    ⟨(some 22), (.mv (.t 25)), none, 0, false, []⟩] false
def a157_50 : AC := .reg [⟨(some 26), (.bin 0 .eql (.t 3) (.c (.int .i64 20))), none, 0, false, []⟩,
    ⟨(some 22), (.mv (.t 26)), none, 0, false, []⟩] false
def a157_51 : AC := .cond (.t 22) .skip a157_50
def a157_52 : AC := .seq a157_49 a157_51
def a157_53 : AC := .cond (.t 22) .skip a157_52
def a157_54 : AC := .seq a157_48 a157_53
def a157_55 : AC := .cond (.t 22) .skip a157_54
def a157_56 : AC := .seq a157_47 a157_55
def a157_57 : AC := .reg [⟨(some 2), (.mv (.c (.int .i64 9))), none, 0, false, []⟩] false
def a157_58 : AC := .seq a157_57 .ret
def a157_59 : AC := .reg [⟨(some 28), (.bin 0 .eql (.t 3) (.c (.int .i64 16))), none, 0, false, []⟩,
    ⟨(some 27), (.mv (.t 28)), none, 0, false, []⟩] false
def a157_60 : AC := .reg [⟨(some 29), (.bin 0 .eql (.t 3) (.c (.int .i64 17))), none, 0, false, []⟩,
    ⟨(some 27), (.mv (.t 29)), none, 0, false, []⟩] false
def a157_61 : AC := .cond (.t 27) .skip a157_60
def a157_62 : AC := .seq a157_59 a157_61
def a157_63 : AC := .reg [⟨(some 2), (.mv (.c (.int .i64 12))), none, 0, false, []⟩] false
def a157_64 : AC := .seq a157_63 .ret
def a157_65 : AC := .cond (.t 27) a157_64 .skip
def a157_66 : AC := .seq a157_62 a157_65
def a157_67 : AC := .cond (.t 22) a157_58 a157_66
def a157_68 : AC := .seq a157_56 a157_67
def a157_69 : AC := .cond (.t 16) a157_46 a157_68
def a157_70 : AC := .seq a157_44 a157_69
def a157_71 : AC := .cond (.t 11) a157_31 a157_70
def a157_72 : AC := .seq a157_29 a157_71
def a157_73 : AC := .cond (.t 4) a157_19 a157_72
def a157_74 : AC := .seq a157_17 a157_73
def a157_75 : AC := .blk 0 a157_74
def a157_76 : AC := .seq a157_1 a157_75
def a157_77 : AC := .reg [⟨(some 2), (.mv (.c (.int .i64 (-1)))), none, 0, false, []⟩] false
def a157_78 : AC := .seq a157_77 .ret
def a157_79 : AC := .seq a157_76 a157_78
def a157_80 : AC := .seq a157_0 a157_79
def af157 : AF := { ntmps := 30, res := [(.t 2)], body := a157_80 }
theorem tr157 : trF Try.prog Try.f157 = some af157 := by kernel_rfl
attribute [go_sem] af157 a157_0 a157_1 a157_2 a157_3 a157_4 a157_5 a157_6 a157_7 a157_8 a157_9 a157_10 a157_11 a157_12 a157_13 a157_14 a157_15 a157_16 a157_17 a157_18 a157_19 a157_20 a157_21 a157_22 a157_23 a157_24 a157_25 a157_26 a157_27 a157_28 a157_29 a157_30 a157_31 a157_32 a157_33 a157_34 a157_35 a157_36 a157_37 a157_38 a157_39 a157_40 a157_41 a157_42 a157_43 a157_44 a157_45 a157_46 a157_47 a157_48 a157_49 a157_50 a157_51 a157_52 a157_53 a157_54 a157_55 a157_56 a157_57 a157_58 a157_59 a157_60 a157_61 a157_62 a157_63 a157_64 a157_65 a157_66 a157_67 a157_68 a157_69 a157_70 a157_71 a157_72 a157_73 a157_74 a157_75 a157_76 a157_77 a157_78 a157_79 a157_80
def a158_0 : AC := .reg [⟨(some 2), (.mv (.c (.bool false))), none, 0, false, []⟩] false
def a158_1 : AC := .reg [⟨(some 3), (.mv (.t 0)), none, 0, false, []⟩,
    ⟨(some 4), (.bin 0 .geq (.t 3) (.c (.int .i64 0))), none, 0, false, []⟩,
    ⟨(some 5), (.mv (.t 4)), none, 0, false, []⟩,
    ⟨(some 6), (.mv (.t 0)), (some (5, true)), 0, false, []⟩,
    ⟨(some 7), (.bin 0 .leq (.t 6) (.c (.int .i64 1000))), (some (5, true)), 0, false, []⟩,
    ⟨(some 8), (.pick (.t 5) (.t 7) (.c (.bool false))), none, 0, false, []⟩,
    ⟨(some 2), (.mv (.t 8)), none, 0, false, []⟩] false
def a158_2 : AC := .seq a158_1 .ret
def a158_3 : AC := .seq a158_0 a158_2
def af158 : AF := { ntmps := 9, res := [(.t 2)], body := a158_3 }
theorem tr158 : trF Try.prog Try.f158 = some af158 := by kernel_rfl
attribute [go_sem] af158 a158_0 a158_1 a158_2 a158_3
def a131_0 : AC := .reg [⟨(some 1), (.box (.t 0)), none, 0, false, []⟩,
    ⟨(some 2), (.mv (.c (.bool false))), none, 0, false, []⟩] false
def a131_1 : AC := .reg [⟨(some 4), (.fad 0 (.t 1)), none, 0, false, []⟩,
    ⟨(some 5), (.load false 1 (.t 4)), none, 0, false, []⟩,
    ⟨(some 6), (.bin 0 .neq (.t 5) (.c (.int .i64 1))), none, 0, false, []⟩,
    ⟨(some 7), (.mv (.t 6)), none, 0, false, []⟩,
    ⟨(some 8), (.fad 0 (.t 1)), (some (7, true)), 0, false, []⟩,
    ⟨(some 9), (.load false 1 (.t 8)), (some (7, true)), 0, false, []⟩,
    ⟨(some 10), (.bin 0 .neq (.t 9) (.c (.int .i64 2))), (some (7, true)), 0, false, []⟩,
    ⟨(some 11), (.pick (.t 7) (.t 10) (.c (.bool false))), none, 0, false, []⟩,
    ⟨(some 12), (.mv (.t 11)), none, 0, false, []⟩,
    ⟨(some 13), (.fad 0 (.t 1)), (some (12, true)), 0, false, []⟩,
    ⟨(some 14), (.load false 1 (.t 13)), (some (12, true)), 0, false, []⟩,
    ⟨(some 15), (.bin 0 .lss (.t 14) (.c (.int .i64 13))), (some (12, true)), 0, false, []⟩,
    ⟨(some 16), (.mv (.t 15)), (some (12, true)), 0, false, []⟩,
    ⟨(some 17), (.fad 0 (.t 1)), (some (16, false)), 0, false, []⟩,
    ⟨(some 18), (.load false 1 (.t 17)), (some (16, false)), 0, false, []⟩,
    ⟨(some 19), (.bin 0 .gtr (.t 18) (.c (.int .i64 23))), (some (16, false)), 0, false, []⟩,
    ⟨(some 20), (.pick (.t 16) (.c (.bool true)) (.t 19)), (some (12, true)), 0, false, []⟩,
    ⟨(some 21), (.pick (.t 12) (.t 20) (.c (.bool false))), none, 0, false, []⟩,
    ⟨(some 22), (.mv (.t 21)), none, 0, false, []⟩,
    ⟨(some 23), (.load true 5 (.t 1)), (some (22, false)), 0, false, []⟩,
    ⟨(some 24), (.call 140 [(.t 23)]), (some (22, false)), 0, false, []⟩,
    ⟨(some 25), (.un .not (.t 24)), (some (22, false)), 0, false, []⟩,
    ⟨(some 26), (.pick (.t 22) (.c (.bool true)) (.t 25)), none, 0, false, []⟩] false
def a131_2 : AC := .reg [⟨(some 2), (.mv (.c (.bool false))), none, 0, false, []⟩] false
def a131_3 : AC := .seq a131_2 .ret
def a131_4 : AC := .cond (.t 26) a131_3 .skip
def a131_5 : AC := .seq a131_1 a131_4
def a131_6 : AC := .reg [⟨(some 3), (.mv (.c (.int .i64 0))), none, 0, false, []⟩] false
def a131_7 : AC := .reg [⟨(some 27), (.mv (.t 3)), none, 0, false, []⟩,
    ⟨(some 28), (.fad 4 (.t 1)), none, 0, false, []⟩,
    ⟨(some 29), (.load false 1 (.t 28)), none, 0, false, []⟩,
    ⟨(some 30), (.len false (.t 29)), none, 0, false, []⟩,
    ⟨(some 31), (.bin 0 .lss (.t 27) (.t 30)), none, 0, false, []⟩] false
def a131_8 : AC := .cond (.t 31) .skip (.exit 0)
def a131_9 : AC := .seq a131_7 a131_8
def a131_10 : AC := .reg [⟨(some 34), (.fad 4 (.t 1)), none, 0, false, []⟩,
    ⟨(some 35), (.load false 1 (.t 34)), none, 0, false, []⟩,
    ⟨(some 36), (.mv (.t 3)), none, 0, false, []⟩,
    ⟨(some 37), (.iad 5 (.t 35) (.t 36)), none, 0, false, []⟩,
    ⟨(some 38), (.load true 5 (.t 37)), none, 0, false, []⟩,
    ⟨(some 39), (.call 131 [(.t 38)]), none, 0, false, []⟩,
    ⟨(some 40), (.un .not (.t 39)), none, 0, false, []⟩] false
def a131_11 : AC := .reg [⟨(some 2), (.mv (.c (.bool false))), none, 0, false, []⟩] false
def a131_12 : AC := .seq a131_11 .ret
def a131_13 : AC := .cond (.t 40) a131_12 .skip
def a131_14 : AC := .seq a131_10 a131_13
def a131_15 : AC := .blk 1 a131_14
def a131_16 : AC := .reg [⟨(some 32), (.mv (.t 3)), none, 0, false, []⟩,
    ⟨(some 33), (.bin 0 .add (.t 32) (.c (.int .i64 1))), none, 0, false, []⟩,
    ⟨(some 3), (.mv (.t 33)), none, 0, false, []⟩] false
def a131_17 : AC := .seq a131_15 a131_16
def a131_18 : AC := .seq a131_9 a131_17
def a131_19 : AC := .loop a131_18
def a131_20 : AC := .blk 0 a131_19
def a131_21 : AC := .seq a131_6 a131_20
def a131_22 : AC := .reg [⟨(some 2), (.mv (.c (.bool true))), none, 0, false, []⟩] false
def a131_23 : AC := .seq a131_22 .ret
def a131_24 : AC := .seq a131_21 a131_23
def a131_25 : AC := .seq a131_5 a131_24
def a131_26 : AC := .seq a131_0 a131_25
def af131 : AF := { ntmps := 41, res := [(.t 2)], body := a131_26 }
theorem tr131 : trF Try.prog Try.f131 = some af131 := by kernel_rfl
attribute [go_sem] af131 a131_0 a131_1 a131_2 a131_3 a131_4 a131_5 a131_6 a131_7 a131_8 a131_9 a131_10 a131_11 a131_12 a131_13 a131_14 a131_15 a131_16 a131_17 a131_18 a131_19 a131_20 a131_21 a131_22 a131_23 a131_24 a131_25 a131_26
def a140_0 : AC := .reg [⟨(some 1), (.box (.t 0)), none, 0, false, []⟩,
    ⟨(some 2), (.mv (.c (.bool false))), none, 0, false, []⟩] false
def a140_1 : AC := .reg [⟨(some 3), (.fad 4 (.t 1)), none, 0, false, []⟩,
    ⟨(some 4), (.load false 1 (.t 3)), none, 1, true, []⟩,
    ⟨(some 5), (.len false (.t 4)), none, 2, false, []⟩,
    ⟨(some 6), (.fad 0 (.t 1)), none, 3, false, []⟩,
    ⟨(some 7), (.load false 1 (.t 6)), none, 4, false, []⟩,
    ⟨(some 8), (.fad 3 (.t 1)), none, 5, false, []⟩,
    ⟨(some 9), (.load false 1 (.t 8)), none, 6, false, []⟩,
    ⟨(some 10), (.call 152 [(.t 7), (.t 9)]), none, 7, false, [1]⟩,
    ⟨(some 11), (.bin 0 .eql (.t 5) (.t 10)), none, 8, false, []⟩,
    ⟨(some 12), (.mv (.t 11)), none, 9, false, []⟩,
    ⟨(some 13), (.load true 5 (.t 1)), (some (12, true)), 10, false, []⟩,
    ⟨(some 14), (.call 153 [(.t 13)]), (some (12, true)), 11, false, []⟩,
    ⟨(some 15), (.pick (.t 12) (.t 14) (.c (.bool false))), none, 12, false, []⟩,
    ⟨(some 2), (.mv (.t 15)), none, 13, false, []⟩] true
def a140_2 : AC := .seq a140_1 .ret
def a140_3 : AC := .seq a140_0 a140_2
def af140 : AF := { ntmps := 16, res := [(.t 2)], body := a140_3 }
theorem tr140 : trF Try.prog Try.f140 = some af140 := by kernel_rfl
attribute [go_sem] af140 a140_0 a140_1 a140_2 a140_3
def a152_0 : AC := .reg [⟨(some 4), (.mv (.c (.int .i64 0))), none, 0, false, []⟩] false
def a152_1 : AC := .reg [⟨(some 6), (.mv (.t 0)), none, 0, false, []⟩] false
def a152_2 : AC := .reg [⟨(some 8), (.bin 0 .eql (.t 6) (.c (.int .i64 1))), none, 0, false, []⟩,
    ⟨(some 7), (.mv (.t 8)), none, 0, false, []⟩] false
def a152_3 : AC := .reg [⟨(some 9), (.bin 0 .eql (.t 6) (.c (.int .i64 2))), none, 0, false, []⟩,
    ⟨(some 7), (.mv (.t 9)), none, 0, false, []⟩] false
def a152_4 : AC := .cond (.t 7) .skip a152_3
def a152_5 : AC := .seq a152_2 a152_4
def a152_6 : AC := .reg [⟨(some 4), (.mv (.c (.int .i64 0))), none, 0, false, []⟩] false
def a152_7 : AC := .seq a152_6 .ret
def a152_8 : AC := .reg [⟨(some 11), (.bin 0 .eql (.t 6) (.c (.int .i64 18))), none, 0, false, []⟩,
    ⟨(some 10), (.mv (.t 11)), none, 0, false, []⟩] false
def a152_9 : AC := .reg [⟨(some 12), (.bin 0 .eql (.t 6) (.c (.int .i64 19))), none, 0, false, []⟩,
    ⟨(some 10), (.mv (.t 12)), none, 0, false, []⟩] false
def a152_10 : AC := .cond (.t 10) .skip a152_9
def a152_11 : AC := .seq a152_8 a152_10
def a152_12 : AC := .reg [⟨(some 4), (.mv (.c (.int .i64 1))), none, 0, false, []⟩] false
def a152_13 : AC := .seq a152_12 .ret
def a152_14 : AC := .reg [⟨(some 14), (.bin 0 .eql (.t 6) (.c (.int .i64 3))), none, 0, false, []⟩,
    ⟨(some 13), (.mv (.t 14)), none, 0, false, []⟩] false
def a152_15 : AC := .reg [⟨(some 15), (.bin 0 .eql (.t 6) (.c (.int .i64 6))), none, 0, false, []⟩,
    ⟨(some 13), (.mv (.t 15)), none, 0, false, []⟩] false
def a152_16 : AC := .reg [⟨(some 16), (.bin 0 .eql (.t 6) (.c (.int .i64 13))), none, 0, false, []⟩,
    ⟨(some 13), (.mv (.t 16)), none, 0, false, []⟩] false
def a152_17 : AC := .reg [⟨(some 17), (.bin 0 .eql (.t 6) (.c (.int .i64 14))), none, 0, false, []⟩,
    ⟨(some 13), (.mv (.t 17)), none, 0, false, []⟩] false
def a152_18 : AC := .reg [⟨(some 18), (.bin 0 .eql (.t 6) (.c (.int .i64 15))), none, 0, false, []⟩,
    ⟨(some 13), (.mv (.t 18)), none, 0, false, []⟩] false
def a152_19 : AC := .reg [⟨(some 19), (.bin 0 .eql (.t 6) (.c (.int .i64 16))), none, 0, false, []⟩,
    ⟨(some 13), (.mv (.t 19)), none, 0, false, []⟩] false
def a152_20 : AC := .reg [⟨(some 20), (.bin 0 .eql (.t 6) (.c (.int .i64 21))), none, 0, false, []⟩,
    ⟨(some 13), (.mv (.t 20)), none, 0, false, []⟩] false
def a152_21 : AC := .reg [⟨(some 21), (.bin 0 .eql (.t 6) (.c (.int .i64 11))), none, 0, false, []⟩,
    ⟨(some 13), (.mv (.t 21)), none, 0, false, []⟩] false
def a152_22 : AC := .cond (.t 13) .skip a152_21
def a152_23 : AC := .seq a152_20 a152_22
def a152_24 : AC := .cond (.t 13) .skip a152_23
def a152_25 : AC := .seq a152_19 a152_24
def a152_26 : AC := .cond (.t 13) .skip a152_25
def a152_27 : AC := .seq a152_18 a152_26
def a152_28 : AC := .cond (.t 13) .skip a152_27
def a152_29 : AC := .seq a152_17 a152_28
def a152_30 : AC := .cond (.t 13) .skip a152_29
def a152_31 : AC := .seq a152_16 a152_30
def a152_32 : AC := .cond (.t 13) .skip a152_31
def a152_33 : AC := .seq a152_15 a152_32
def a152_34 : AC := .cond (.t 13) .skip a152_33
def a152_35 : AC := .seq a152_14 a152_34
def a152_36 : AC := .reg [⟨(some 4), (.mv (.c (.int .i64 2))), none, 0, false, []⟩] false
def a152_37 : AC := .seq a152_36 .ret
def a152_38 : AC := .reg [⟨(some 23), (.bin 0 .eql (.t 6) (.c (.int .i64 4))), none, 0, false, []⟩,
    ⟨(some 22), (.mv (.t 23)), none, 0, false, []⟩] false
def a152_39 : AC := .reg [⟨(some 24), (.bin 0 .eql (.t 6) (.c (.int .i64 8))), none, 0, false, []⟩,
    ⟨(some 22), (.mv (.t 24)), none, 0, false, []⟩] false
def a152_40 : AC := .reg [⟨(some 25), (.bin 0 .eql (.t 6) (.c (.int .i64 9))), none, 0, false, []⟩,
    ⟨(some 22), (.mv (.t 25)), none, 0, false, []⟩] false
def a152_41 : AC := .reg [⟨(some 26), (.bin 0 .eql (.t 6) (.c (.int .i64 10))), none, 0, false, []⟩,
    ⟨(some 22), (.mv (.t 26)), none, 0, false, []⟩] false
def a152_42 : AC := .reg [⟨(some 27), (.bin 0 .eql (.t 6) (.c (.int .i64 20))), none, 0, false, []⟩,
    ⟨(some 22), (.mv (.t 27)), none, 0, false, []⟩] false
def a152_43 : AC := .cond (.t 22) .skip a152_42
def a152_44 : AC := .seq a152_41 a152_43
def a152_45 : AC := .cond (.t 22) .skip a152_44
def a152_46 : AC := .seq a152_40 a152_45
def a152_47 : AC := .cond (.t 22) .skip a152_46
def a152_48 : AC := .seq a152_39 a152_47
def a152_49 : AC := .cond (.t 22) .skip a152_48
def a152_50 : AC := .seq a152_38 a152_49
def a152_51 : AC := .reg [⟨(some 4), (.mv (.c (.int .i64 3))), none, 0, false, []⟩] false
def a152_52 : AC := .seq a152_51 .ret
def a152_53 : AC := .reg [⟨(some 29), (.bin 0 .eql (.t 6) (.c (.int .i64 5))), none, 0, false, []⟩,
    ⟨(some 28), (.mv (.t 29)), none, 0, false, []⟩] false
def a152_54 : AC := .reg [⟨(some 30), (.bin 0 .eql (.t 6) (.c (.int .i64 7))), none, 0, false, []⟩,
    ⟨(some 28), (.mv (.t 30)), none, 0, false, []⟩] false
def a152_55 : AC := .reg [⟨(some 31), (.bin 0 .eql (.t 6) (.c (.int .i64 12))), none, 0, false, []⟩,
    ⟨(some 28), (.mv (.t 31)), none, 0, false, []⟩] false
def a152_56 : AC := .reg [⟨(some 32), (.bin 0 .eql (.t 6) (.c (.int .i64 17))), none, 0, false, []⟩,
    ⟨(some 28), (.mv (.t 32)), none, 0, false, []⟩] false
def a152_57 : AC := .cond (.t 28) .skip a152_56
def a152_58 : AC := .seq a152_55 a152_57
def a152_59 : AC := .cond (.t 28) .skip a152_58
def a152_60 : AC := .seq a152_54 a152_59
def a152_61 : AC := .cond (.t 28) .skip a152_60
def a152_62 : AC := .seq a152_53 a152_61
def a152_63 : AC := .reg [⟨(some 4), (.mv (.c (.int .i64 4))), none, 0, false, []⟩] false
def a152_64 : AC := .seq a152_63 .ret
def a152_65 : AC := .reg [⟨(some 34), (.bin 0 .eql (.t 6) (.c (.int .i64 22))), none, 0, false, []⟩,
    ⟨(some 33), (.mv (.t 34)), none, 0, false, []⟩] false
def a152_66 : AC := .reg [⟨(some 4), (.mv (.c (.int .i64 6))), none, 0, false, []⟩] false
def a152_67 : AC := .seq a152_66 .ret
def a152_68 : AC := .reg [⟨(some 36), (.bin 0 .eql (.t 6) (.c (.int .i64 23))), none, 0, false, []⟩,
    ⟨(some 35), (.mv (.t 36)), none, 0, false, []⟩] false
def a152_69 : AC := .reg [⟨(some 37), (.bslice 1 [(.c (.int .i64 5)), (.c (.int .i64 5)), (.c (.int .i64 4)), (.c (.int .i64 6)), (.c (.int .i64 4)), (.c (.int .i64 4)), (.c (.int .i64 5)), (.c (.int .i64 4)), (.c (.int .i64 5)), (.c (.int .i64 4)), (.c (.int .i64 4)), (.c (.int .i64 6)), (.c (.int .i64 6)), (.c (.int .i64 6)), (.c (.int .i64 9)), (.c (.int .i64 12)), (.c (.int .i64 12)), (.c (.int .i64 9)), (.c (.int .i64 9)), (.c (.int .i64 9)), (.c (.int .i64 6))]), none, 0, false, []⟩,
    ⟨(some 5), (.mv (.t 37)), none, 0, false, []⟩] false
def a152_70 : AC := .reg [⟨(some 38), (.mv (.t 1)), none, 0, false, []⟩,
    ⟨(some 39), (.bin 0 .geq (.t 38) (.c (.int .i64 1))), none, 0, false, []⟩,
    ⟨(some 40), (.mv (.t 39)), none, 0, false, []⟩,
    ⟨(some 41), (.mv (.t 1)), (some (40, true)), 0, false, []⟩,
    ⟨(some 42), (.mv (.t 5)), (some (40, true)), 0, false, []⟩,
    ⟨(some 43), (.len false (.t 42)), (some (40, true)), 0, false, []⟩,
    ⟨(some 44), (.bin 0 .leq (.t 41) (.t 43)), (some (40, true)), 0, false, []⟩,
    ⟨(some 45), (.pick (.t 40) (.t 44) (.c (.bool false))), none, 0, false, []⟩] false
def a152_71 : AC := .reg [⟨(some 46), (.mv (.t 5)), none, 0, false, []⟩,
    ⟨(some 47), (.mv (.t 1)), none, 0, false, []⟩,
    ⟨(some 48), (.bin 0 .sub (.t 47) (.c (.int .i64 1))), none, 0, false, []⟩,
    ⟨(some 49), (.iad 1 (.t 46) (.t 48)), none, 0, false, []⟩,
    ⟨(some 50), (.load false 1 (.t 49)), none, 0, false, []⟩,
    ⟨(some 4), (.mv (.t 50)), none, 0, false, []⟩] false
def a152_72 : AC := .seq a152_71 .ret
def a152_73 : AC := .cond (.t 45) a152_72 .skip
def a152_74 : AC := .seq a152_70 a152_73
def a152_75 : AC := .seq a152_69 a152_74
def a152_76 : AC := .cond (.t 35) a152_75 .skip
def a152_77 : AC := .seq a152_68 a152_76
def a152_78 : AC := .cond (.t 33) a152_67 a152_77
def a152_79 : AC := .seq a152_65 a152_78
def a152_80 : AC := .cond (.t 28) a152_64 a152_79
def a152_81 : AC := .seq a152_62 a152_80
def a152_82 : AC := .cond (.t 22) a152_52 a152_81
def a152_83 : AC := .seq a152_50 a152_82
def a152_84 : AC := .cond (.t 13) a152_37 a152_83
def a152_85 : AC := .seq a152_35 a152_84
def a152_86 : AC := .cond (.t 10) a152_13 a152_85
def a152_87 : AC := .seq a152_11 a152_86
def a152_88 : AC := .cond (.t 7) a152_7 a152_87
def a152_89 : AC := .seq a152_5 a152_88
def a152_90 : AC := .blk 0 a152_89
def a152_91 : AC := .seq a152_1 a152_90
def a152_92 : AC := .reg [⟨(some 4), (.mv (.c (.int .i64 (-1)))), none, 0, false, []⟩] false
def a152_93 : AC := .seq a152_92 .ret
def a152_94 : AC := .seq a152_91 a152_93
def a152_95 : AC := .seq a152_0 a152_94
def af152 : AF := { ntmps := 51, res := [(.t 4)], body := a152_95 }
theorem tr152 : trF Try.prog Try.f152 = some af152 := by kernel_rfl
attribute [go_sem] af152 a152_0 a152_1 a152_2 a152_3 a152_4 a152_5 a152_6 a152_7 a152_8 a152_9 a152_10 a152_11 a152_12 a152_13 a152_14 a152_15 a152_16 a152_17 a152_18 a152_19 a152_20 a152_21 a152_22 a152_23 a152_24 a152_25 a152_26 a152_27 a152_28 a152_29 a152_30 a152_31 a152_32 a152_33 a152_34 a152_35 a152_36 a152_37 a152_38 a152_39 a152_40 a152_41 a152_42 a152_43 a152_44 a152_45 a152_46 a152_47 a152_48 a152_49 a152_50 a152_51 a152_52 a152_53 a152_54 a152_55 a152_56 a152_57 a152_58 a152_59 a152_60 a152_61 a152_62 a152_63 a152_64 a152_65 a152_66 a152_67 a152_68 a152_69 a152_70 a152_71 a152_72 a152_73 a152_74 a152_75 a152_76 a152_77 a152_78 a152_79 a152_80 a152_81 a152_82 a152_83 a152_84 a152_85 a152_86 a152_87 a152_88 a152_89 a152_90 a152_91 a152_92 a152_93 a152_94 a152_95
def a153_0 : AC := .reg [⟨(some 1), (.box (.t 0)), none, 0, false, []⟩,
    ⟨(some 2), (.mv (.c (.bool false))), none, 0, false, []⟩] false
def a153_1 : AC := .reg [⟨(some 3), (.fad 0 (.t 1)), none, 0, false, []⟩,
    ⟨(some 4), (.load false 1 (.t 3)), none, 0, false, []⟩] false
def a153_2 : AC := .reg [⟨(some 6), (.bin 0 .eql (.t 4) (.c (.int .i64 2))), none, 0, false, []⟩,
    ⟨(some 5), (.mv (.t 6)), none, 0, false, []⟩] false
def a153_3 : AC := .reg [⟨(some 7), (.fad 1 (.t 1)), none, 0, false, []⟩,
    ⟨(some 8), (.load false 1 (.t 7)), none, 0, false, []⟩,
    ⟨(some 9), (.bin 0 .geq (.t 8) (.c (.int .i64 0))), none, 0, false, []⟩,
    ⟨(some 10), (.mv (.t 9)), none, 0, false, []⟩,
    ⟨(some 11), (.fad 1 (.t 1)), (some (10, true)), 0, false, []⟩,
    ⟨(some 12), (.load false 1 (.t 11)), (some (10, true)), 0, false, []⟩,
    ⟨(some 13), (.bin 0 .leq (.t 12) (.c (.int .i64 2147483647))), (some (10, true)), 0, false, []⟩,
    ⟨(some 14), (.pick (.t 10) (.t 13) (.c (.bool false))), none, 0, false, []⟩,
    ⟨(some 15), (.mv (.t 14)), none, 0, false, []⟩,
    ⟨(some 16), (.fad 2 (.t 1)), (some (15, true)), 0, false, []⟩,
    ⟨(some 17), (.load false 1 (.t 16)), (some (15, true)), 0, false, []⟩,
    ⟨(some 18), (.bin 0 .eql (.t 17) (.c (.int .i64 0))), (some (15, true)), 0, false, []⟩,
    ⟨(some 19), (.pick (.t 15) (.t 18) (.c (.bool false))), none, 0, false, []⟩,
    ⟨(some 20), (.mv (.t 19)), none, 0, false, []⟩,
    ⟨(some 21), (.fad 3 (.t 1)), (some (20, true)), 0, false, []⟩,
    ⟨(some 22), (.load false 1 (.t 21)), (some (20, true)), 0, false, []⟩,
    ⟨(some 23), (.bin 0 .eql (.t 22) (.c (.int .i64 0))), (some (20, true)), 0, false, []⟩,
    ⟨(some 24), (.pick (.t 20) (.t 23) (.c (.bool false))), none, 0, false, []⟩,
    ⟨(some 2), (.mv (.t 24)), none, 0, false, []⟩] false
def a153_4 : AC := .seq a153_3 .ret
def a153_5 : AC := .reg [⟨(some 26), (.bin 0 .eql (.t 4) (.c (.int .i64 3))), none, 0, false, []⟩,
    ⟨(some 25), (.mv (.t 26)), none, 0, false, []⟩] false
def a153_6 : AC := .reg [⟨(some 27), (.bin 0 .eql (.t 4) (.c (.int .i64 4))), none, 0, false, []⟩,
    ⟨(some 25), (.mv (.t 27)), none, 0, false, []⟩] false
def a153_7 : AC := .reg [⟨(some 28), (.bin 0 .eql (.t 4) (.c (.int .i64 5))), none, 0, false, []⟩,
    ⟨(some 25), (.mv (.t 28)), none, 0, false, []⟩] false
def a153_8 : AC := .reg [⟨(some 29), (.bin 0 .eql (.t 4) (.c (.int .i64 6))), none, 0, false, []⟩,
    ⟨(some 25), (.mv (.t 29)), none, 0, false, []⟩] false
def a153_9 : AC := .reg [⟨(some 30), (.bin 0 .eql (.t 4) (.c (.int .i64 7))), none, 0, false, []⟩,
    ⟨(some 25), (.mv (.t 30)), none, 0, false, []⟩] false
def a153_10 : AC := .reg [⟨(some 31), (.bin 0 .eql (.t 4) (.c (.int .i64 8))), none, 0, false, []⟩,
    ⟨(some 25), (.mv (.t 31)), none, 0, false, []⟩] false
def a153_11 : AC := .reg [⟨(some 32), (.bin 0 .eql (.t 4) (.c (.int .i64 9))), none, 0, false, []⟩,
    ⟨(some 25), (.mv (.t 32)), none, 0, false, []⟩] false
def a153_12 : AC := .cond (.t 25) .skip a153_11
def a153_13 : AC := .seq a153_10 a153_12
def a153_14 : AC := .cond (.t 25) .skip a153_13
def a153_15 : AC := .seq a153_9 a153_14
def a153_16 : AC := .cond (.t 25) .skip a153_15
def a153_17 : AC := .seq a153_8 a153_16
def a153_18 : AC := .cond (.t 25) .skip a153_17
def a153_19 : AC := .seq a153_7 a153_18
def a153_20 : AC := .cond (.t 25) .skip a153_19
def a153_21 : AC := .seq a153_6 a153_20
def a153_22 : AC := .cond (.t 25) .skip a153_21
def a153_23 : AC := .seq a153_5 a153_22
def a153_24 : AC := .reg [⟨(some 33), (.fad 1 (.t 1)), none, 0, false, []⟩,
    ⟨(some 34), (.load false 1 (.t 33)), none, 0, false, []⟩,
    ⟨(some 35), (.call 159 [(.t 34)]), none, 0, false, []⟩,
    ⟨(some 36), (.mv (.t 35)), none, 0, false, []⟩,
    ⟨(some 37), (.fad 2 (.t 1)), (some (36, true)), 0, false, []⟩,
    ⟨(some 38), (.load false 1 (.t 37)), (some (36, true)), 0, false, []⟩,
    ⟨(some 39), (.call 159 [(.t 38)]), (some (36, true)), 0, false, []⟩,
    ⟨(some 40), (.pick (.t 36) (.t 39) (.c (.bool false))), none, 0, false, []⟩,
    ⟨(some 41), (.mv (.t 40)), none, 0, false, []⟩,
    ⟨(some 42), (.fad 3 (.t 1)), (some (41, true)), 0, false, []⟩,
    ⟨(some 43), (.load false 1 (.t 42)), (some (41, true)), 0, false, []⟩,
    ⟨(some 44), (.bin 0 .eql (.t 43) (.c (.int .i64 0))), (some (41, true)), 0, false, []⟩,
    ⟨(some 45), (.pick (.t 41) (.t 44) (.c (.bool false))), none, 0, false, []⟩,
    ⟨(some 2), (.mv (.t 45)), none, 0, false, []⟩] false
def a153_25 : AC := .seq a153_24 .ret
def a153_26 : AC := .reg [⟨(some 47), (.bin 0 .eql (.t 4) (.c (.int .i64 1))), none, 0, false, []⟩,
    ⟨(some 46), (.mv (.t 47)), none, 0, false, []⟩] false
def a153_27 : AC := .reg [⟨(some 48), (.bin 0 .eql (.t 4) (.c (.int .i64 10))), none, 0, false, []⟩,
    ⟨(some 46), (.mv (.t 48)), none, 0, false, []⟩] false
def a153_28 : AC := .reg [⟨(some 49), (.bin 0 .eql (.t 4) (.c (.int .i64 11))), none, 0, false, []⟩,
    ⟨(some 46), (.mv (.t 49)), none, 0, false, []⟩] false
def a153_29 : AC := .reg [⟨(some 50), (.bin 0 .eql (.t 4) (.c (.int .i64 12))), none, 0, false, []⟩,
    ⟨(some 46), (.mv (.t 50)), none, 0, false, []⟩] false
def a153_30 : AC := .cond (.t 46) .skip a153_29
def a153_31 : AC := .seq a153_28 a153_30
def a153_32 : AC := .cond (.t 46) .skip a153_31
def a153_33 : AC := .seq a153_27 a153_32
def a153_34 : AC := .cond (.t 46) .skip a153_33
def a153_35 : AC := .seq a153_26 a153_34
def a153_36 : AC := .reg [⟨(some 51), (.fad 1 (.t 1)), none, 0, false, []⟩,
    ⟨(some 52), (.load false 1 (.t 51)), none, 0, false, []⟩,
    ⟨(some 53), (.call 159 [(.t 52)]), none, 0, false, []⟩,
    ⟨(some 54), (.mv (.t 53)), none, 0, false, []⟩,
    ⟨(some 55), (.fad 2 (.t 1)), (some (54, true)), 0, false, []⟩,
    ⟨(some 56), (.load false 1 (.t 55)), (some (54, true)), 0, false, []⟩,
    ⟨(some 57), (.bin 0 .eql (.t 56) (.c (.int .i64 0))), (some (54, true)), 0, false, []⟩,
    ⟨(some 58), (.pick (.t 54) (.t 57) (.c (.bool false))), none, 0, false, []⟩,
    ⟨(some 59), (.mv (.t 58)), none, 0, false, []⟩,
    ⟨(some 60), (.fad 3 (.t 1)), (some (59, true)), 0, false, []⟩,
    ⟨(some 61), (.load false 1 (.t 60)), (some (59, true)), 0, false, []⟩,
    ⟨(some 62), (.bin 0 .eql (.t 61) (.c (.int .i64 0))), (some (59, true)), 0, false, []⟩,
    ⟨(some 63), (.pick (.t 59) (.t 62) (.c (.bool false))), none, 0, false, []⟩,
    ⟨(some 2), (.mv (.t 63)), none, 0, false, []⟩] false
def a153_37 : AC := .seq a153_36 .ret
def a153_38 : AC := .reg [⟨(some 65), (.bin 0 .eql (.t 4) (.c (.int .i64 23))), none, 0, false, []⟩,
    ⟨(some 64), (.mv (.t 65)), none, 0, false, []⟩] false
def a153_39 : AC := .reg [⟨(some 66), (.fad 1 (.t 1)), none, 0, false, []⟩,
    ⟨(some 67), (.load false 1 (.t 66)), none, 0, false, []⟩,
    ⟨(some 68), (.call 159 [(.t 67)]), none, 0, false, []⟩,
    ⟨(some 69), (.mv (.t 68)), none, 0, false, []⟩,
    ⟨(some 70), (.fad 2 (.t 1)), (some (69, true)), 0, false, []⟩,
    ⟨(some 71), (.load false 1 (.t 70)), (some (69, true)), 0, false, []⟩,
    ⟨(some 72), (.call 159 [(.t 71)]), (some (69, true)), 0, false, []⟩,
    ⟨(some 73), (.pick (.t 69) (.t 72) (.c (.bool false))), none, 0, false, []⟩,
    ⟨(some 2), (.mv (.t 73)), none, 0, false, []⟩] false
def a153_40 : AC := .seq a153_39 .ret
def a153_41 : AC := .cond (.t 64) a153_40 .skip
def a153_42 : AC := .seq a153_38 a153_41
def a153_43 : AC := .cond (.t 46) a153_37 a153_42
def a153_44 : AC := .seq a153_35 a153_43
def a153_45 : AC := .cond (.t 25) a153_25 a153_44
def a153_46 : AC := .seq a153_23 a153_45
def a153_47 : AC := .cond (.t 5) a153_4 a153_46
def a153_48 : AC := .seq a153_2 a153_47
def a153_49 : AC := .blk 0 a153_48
def a153_50 : AC := .seq a153_1 a153_49
def a153_51 : AC := .reg [⟨(some 74), (.fad 1 (.t 1)), none, 0, false, []⟩,
    ⟨(some 75), (.load false 1 (.t 74)), none, 0, false, []⟩,
    ⟨(some 76), (.bin 0 .eql (.t 75) (.c (.int .i64 0))), none, 0, false, []⟩,
    ⟨(some 77), (.mv (.t 76)), none, 0, false, []⟩,
    ⟨(some 78), (.fad 2 (.t 1)), (some (77, true)), 0, false, []⟩,
    ⟨(some 79), (.load false 1 (.t 78)), (some (77, true)), 0, false, []⟩,
    ⟨(some 80), (.bin 0 .eql (.t 79) (.c (.int .i64 0))), (some (77, true)), 0, false, []⟩,
    ⟨(some 81), (.pick (.t 77) (.t 80) (.c (.bool false))), none, 0, false, []⟩,
    ⟨(some 82), (.mv (.t 81)), none, 0, false, []⟩,
    ⟨(some 83), (.fad 3 (.t 1)), (some (82, true)), 0, false, []⟩,
    ⟨(some 84), (.load false 1 (.t 83)), (some (82, true)), 0, false, []⟩,
    ⟨(some 85), (.bin 0 .eql (.t 84) (.c (.int .i64 0))), (some (82, true)), 0, false, []⟩,
    ⟨(some 86), (.pick (.t 82) (.t 85) (.c (.bool false))), none, 0, false, []⟩,
    ⟨(some 2), (.mv (.t 86)), none, 0, false, []⟩] false
def a153_52 : AC := .seq a153_51 .ret
def a153_53 : AC := .seq a153_50 a153_52
def a153_54 : AC := .seq a153_0 a153_53
def af153 : AF := { ntmps := 87, res := [(.t 2)], body := a153_54 }
theorem tr153 : trF Try.prog Try.f153 = some af153 := by kernel_rfl
attribute [go_sem] af153 a153_0 a153_1 a153_2 a153_3 a153_4 a153_5 a153_6 a153_7 a153_8 a153_9 a153_10 a153_11 a153_12 a153_13 a153_14 a153_15 a153_16 a153_17 a153_18 a153_19 a153_20 a153_21 a153_22 a153_23 a153_24 a153_25 a153_26 a153_27 a153_28 a153_29 a153_30 a153_31 a153_32 a153_33 a153_34 a153_35 a153_36 a153_37 a153_38 a153_39 a153_40 a153_41 a153_42 a153_43 a153_44 a153_45 a153_46 a153_47 a153_48 a153_49 a153_50 a153_51 a153_52 a153_53 a153_54
def a159_0 : AC := .reg [⟨(some 2), (.mv (.c (.bool false))), none, 0, false, []⟩] false
def a159_1 : AC := .reg [⟨(some 3), (.mv (.t 0)), none, 0, false, []⟩,
    ⟨(some 4), (.bin 0 .geq (.t 3) (.c (.int .i64 0))), none, 0, false, []⟩,
    ⟨(some 5), (.mv (.t 4)), none, 0, false, []⟩,
    ⟨(some 6), (.mv (.t 0)), (some (5, true)), 0, false, []⟩,
    ⟨(some 7), (.bin 0 .leq (.t 6) (.c (.int .i64 1000))), (some (5, true)), 0, false, []⟩,
    ⟨(some 8), (.pick (.t 5) (.t 7) (.c (.bool false))), none, 0, false, []⟩,
    ⟨(some 2), (.mv (.t 8)), none, 0, false, []⟩] false
def a159_2 : AC := .seq a159_1 .ret
def a159_3 : AC := .seq a159_0 a159_2
def af159 : AF := { ntmps := 9, res := [(.t 2)], body := a159_3 }
theorem tr159 : trF Try.prog Try.f159 = some af159 := by kernel_rfl
attribute [go_sem] af159 a159_0 a159_1 a159_2 a159_3
def a41_0 : AC := .reg [⟨(some 2), (.box (.t 0)), none, 0, false, []⟩,
    ⟨(some 3), (.box (.t 1)), none, 0, false, []⟩,
    ⟨(some 4), (.new [(.int .i64 0), (.int .i64 0), (.int .i64 0), (.int .i64 0), (.int .i64 0), .nils, (.int .i64 0), (.int .i64 0), (.int .i64 0), (.int .i64 0), .nils, (.int .i64 0), (.int .i64 0), (.int .i64 0), (.int .i64 0), .nils, (.int .i64 0), (.int .i64 0), (.int .i64 0), (.int .i64 0), .nils, (.int .i64 0), (.int .i64 0), (.int .i64 0), (.int .i64 0), .nils]), none, 0, false, []⟩] false
def a41_1 : AC := .reg [⟨(some 6), (.load true 26 (.t 2)), none, 0, false, []⟩,
    ⟨(some 7), (.call 58 [(.t 6)]), none, 0, false, []⟩,
    ⟨(some 8), (.un .not (.t 7)), none, 0, false, []⟩,
    ⟨(some 9), (.mv (.t 8)), none, 0, false, []⟩,
    ⟨(some 10), (.load true 26 (.t 3)), (some (9, false)), 0, false, []⟩,
    ⟨(some 11), (.call 58 [(.t 10)]), (some (9, false)), 0, false, []⟩,
    ⟨(some 12), (.un .not (.t 11)), (some (9, false)), 0, false, []⟩,
    ⟨(some 13), (.pick (.t 9) (.c (.bool true)) (.t 12)), none, 0, false, []⟩,
    ⟨(some 14), (.mv (.t 13)), none, 0, false, []⟩,
    ⟨(some 15), (.fad 0 (.t 2)), (some (14, false)), 0, false, []⟩,
    ⟨(some 16), (.load false 1 (.t 15)), (some (14, false)), 0, false, []⟩,
    ⟨(some 17), (.fad 0 (.t 3)), (some (14, false)), 0, false, []⟩,
    ⟨(some 18), (.load false 1 (.t 17)), (some (14, false)), 0, false, []⟩,
    ⟨(some 19), (.bin 0 .neq (.t 16) (.t 18)), (some (14, false)), 0, false, []⟩,
    ⟨(some 20), (.pick (.t 14) (.c (.bool true)) (.t 19)), none, 0, false, []⟩] false
def a41_2 : AC := .reg [⟨(some 21), (.build [(.int .i64 0), (.int .i64 0), (.int .i64 0), (.int .i64 0), (.int .i64 0), .nils, (.int .i64 0), (.int .i64 0), (.int .i64 0), (.int .i64 0), .nils, (.int .i64 0), (.int .i64 0), (.int .i64 0), (.int .i64 0), .nils, (.int .i64 0), (.int .i64 0), (.int .i64 0), (.int .i64 0), .nils, (.int .i64 0), (.int .i64 0), (.int .i64 0), (.int .i64 0), .nils] []), none, 0, false, []⟩,
    ⟨none, (.store 26 (.t 4) (.t 21)), none, 0, false, []⟩] false
def a41_3 : AC := .seq a41_2 .ret
def a41_4 : AC := .cond (.t 20) a41_3 .skip
def a41_5 : AC := .seq a41_1 a41_4
def a41_6 : AC := .reg [⟨(some 22), (.fad 0 (.t 2)), none, 0, false, []⟩,
    ⟨(some 23), (.load false 1 (.t 22)), none, 0, false, []⟩,
    ⟨(some 5), (.mv (.t 23)), none, 0, false, []⟩] false
def a41_7 : AC := .reg [⟨(some 24), (.mv (.t 5)), none, 0, false, []⟩,
    ⟨(some 25), (.fad 1 (.t 2)), none, 1, false, []⟩,
    ⟨(some 26), (.load true 5 (.t 25)), none, 2, true, []⟩,
    ⟨(some 27), (.fad 6 (.t 3)), none, 3, false, []⟩,
    ⟨(some 28), (.load true 5 (.t 27)), none, 4, true, []⟩,
    ⟨(some 29), (.fad 11 (.t 2)), none, 5, false, []⟩,
    ⟨(some 30), (.load true 5 (.t 29)), none, 6, true, []⟩,
    ⟨(some 31), (.fad 16 (.t 3)), none, 7, false, []⟩,
    ⟨(some 32), (.load true 5 (.t 31)), none, 8, true, []⟩,
    ⟨(some 33), (.mv (.t 5)), none, 9, false, []⟩,
    ⟨(some 34), (.bin 0 .add (.t 33) (.c (.int .i64 1))), none, 10, false, []⟩,
    ⟨(some 35), (.mv (.t 5)), none, 11, false, []⟩,
    ⟨(some 36), (.call 34 [(.t 35)]), none, 12, true, [2, 4, 6, 8]⟩,
    ⟨(some 37), (.mv (.t 5)), none, 13, false, []⟩,
    ⟨(some 38), (.fad 1 (.t 2)), none, 14, false, []⟩,
    ⟨(some 39), (.load true 5 (.t 38)), none, 15, false, [12]⟩,
    ⟨(some 40), (.fad 11 (.t 2)), none, 16, false, []⟩,
    ⟨(some 41), (.load true 5 (.t 40)), none, 17, false, [12]⟩,
    ⟨(some 42), (.call 32 [(.t 37), (.t 39), (.t 41)]), none, 18, true, [2, 4, 6, 8]⟩,
    ⟨(some 43), (.mv (.t 5)), none, 19, false, []⟩,
    ⟨(some 44), (.fad 6 (.t 2)), none, 20, false, []⟩,
    ⟨(some 45), (.load true 5 (.t 44)), none, 21, false, [12, 18]⟩,
    ⟨(some 46), (.fad 16 (.t 2)), none, 22, false, []⟩,
    ⟨(some 47), (.load true 5 (.t 46)), none, 23, false, [12, 18]⟩,
    ⟨(some 48), (.call 32 [(.t 43), (.t 45), (.t 47)]), none, 24, true, [2, 4, 6, 8]⟩,
    ⟨(some 49), (.mv (.t 5)), none, 25, false, []⟩,
    ⟨(some 50), (.fad 6 (.t 3)), none, 26, false, []⟩,
    ⟨(some 51), (.load true 5 (.t 50)), none, 27, false, [12, 18, 24]⟩,
    ⟨(some 52), (.fad 16 (.t 3)), none, 28, false, []⟩,
    ⟨(some 53), (.load true 5 (.t 52)), none, 29, false, [12, 18, 24]⟩,
    ⟨(some 54), (.call 32 [(.t 49), (.t 51), (.t 53)]), none, 30, true, [2, 4, 6, 8]⟩,
    ⟨(some 55), (.fad 21 (.t 2)), none, 31, false, []⟩,
    ⟨(some 56), (.load true 5 (.t 55)), none, 32, false, [12, 18, 24, 30]⟩,
    ⟨(some 57), (.fad 21 (.t 3)), none, 33, false, []⟩,
    ⟨(some 58), (.load true 5 (.t 57)), none, 34, false, [12, 18, 24, 30]⟩,
    ⟨(some 59), (.bslice 5 [(.t 36), (.t 42), (.t 48), (.t 54), (.t 56), (.t 58)]), none, 35, false, [2, 4, 6, 8]⟩,
    ⟨(some 60), (.call 102 [(.c (.int .i64 4)), (.t 34), (.c (.int .i64 0)), (.t 59)]), none, 36, false, [2, 4, 6, 8]⟩,
    ⟨(some 61), (.build [(.int .i64 0), (.int .i64 0), (.int .i64 0), (.int .i64 0), (.int .i64 0), .nils, (.int .i64 0), (.int .i64 0), (.int .i64 0), (.int .i64 0), .nils, (.int .i64 0), (.int .i64 0), (.int .i64 0), (.int .i64 0), .nils, (.int .i64 0), (.int .i64 0), (.int .i64 0), (.int .i64 0), .nils, (.int .i64 0), (.int .i64 0), (.int .i64 0), (.int .i64 0), .nils] [(0, (1, (.t 24))), (1, (5, (.t 26))), (6, (5, (.t 28))), (11, (5, (.t 30))), (16, (5, (.t 32))), (21, (5, (.t 60)))]), none, 37, false, []⟩,
    ⟨none, (.store 26 (.t 4) (.t 61)), none, 38, false, []⟩] true
def a41_8 : AC := .seq a41_7 .ret
def a41_9 : AC := .seq a41_6 a41_8
def a41_10 : AC := .seq a41_5 a41_9
def a41_11 : AC := .seq a41_0 a41_10
def af41 : AF := { ntmps := 62, res := [(.cell 4 true 26)], body := a41_11 }
theorem tr41 : trF Try.prog Try.f41 = some af41 := by kernel_rfl
attribute [go_sem] af41 a41_0 a41_1 a41_2 a41_3 a41_4 a41_5 a41_6 a41_7 a41_8 a41_9 a41_10 a41_11
def a58_0 : AC := .reg [⟨(some 1), (.box (.t 0)), none, 0, false, []⟩,
    ⟨(some 2), (.mv (.c (.bool false))), none, 0, false, []⟩] false
def a58_1 : AC := .reg [⟨(some 3), (.fad 0 (.t 1)), none, 0, false, []⟩,
    ⟨(some 4), (.load false 1 (.t 3)), none, 0, false, []⟩,
    ⟨(some 5), (.call 92 [(.t 4), (.c (.int .i64 2))]), none, 0, false, []⟩,
    ⟨(some 6), (.mv (.t 5)), none, 0, false, []⟩,
    ⟨(some 7), (.fad 1 (.t 1)), (some (6, true)), 0, false, []⟩,
    ⟨(some 8), (.load true 5 (.t 7)), (some (6, true)), 0, false, []⟩,
    ⟨(some 9), (.fad 6 (.t 1)), (some (6, true)), 0, false, []⟩,
    ⟨(some 10), (.load true 5 (.t 9)), (some (6, true)), 0, false, []⟩,
    ⟨(some 11), (.fad 11 (.t 1)), (some (6, true)), 0, false, []⟩,
    ⟨(some 12), (.load true 5 (.t 11)), (some (6, true)), 0, false, []⟩,
    ⟨(some 13), (.fad 16 (.t 1)), (some (6, true)), 0, false, []⟩,
    ⟨(some 14), (.load true 5 (.t 13)), (some (6, true)), 0, false, []⟩,
    ⟨(some 15), (.fad 21 (.t 1)), (some (6, true)), 0, false, []⟩,
    ⟨(some 16), (.load true 5 (.t 15)), (some (6, true)), 0, false, []⟩,
    ⟨(some 17), (.bslice 5 [(.t 8), (.t 10), (.t 12), (.t 14), (.t 16)]), (some (6, true)), 0, false, []⟩,
    ⟨(some 18), (.call 93 [(.t 17)]), (some (6, true)), 0, false, []⟩,
    ⟨(some 19), (.pick (.t 6) (.t 18) (.c (.bool false))), none, 0, false, []⟩,
    ⟨(some 2), (.mv (.t 19)), none, 0, false, []⟩] false
def a58_2 : AC := .seq a58_1 .ret
def a58_3 : AC := .seq a58_0 a58_2
def af58 : AF := { ntmps := 20, res := [(.t 2)], body := a58_3 }
theorem tr58 : trF Try.prog Try.f58 = some af58 := by kernel_rfl
attribute [go_sem] af58 a58_0 a58_1 a58_2 a58_3
def a92_0 : AC := .reg [⟨(some 4), (.mv (.c (.bool false))), none, 0, false, []⟩] false
def a92_1 : AC := .reg [⟨(some 5), (.mv (.t 0)), none, 0, false, []⟩,
    ⟨(some 6), (.bin 0 .geq (.t 5) (.c (.int .i64 0))), none, 0, false, []⟩,
    ⟨(some 7), (.mv (.t 6)), none, 0, false, []⟩,
    ⟨(some 8), (.mv (.t 0)), (some (7, true)), 0, false, []⟩,
    ⟨(some 9), (.mv (.t 1)), (some (7, true)), 0, false, []⟩,
    ⟨(some 10), (.bin 0 .sub (.c (.int .i64 1000)) (.t 9)), (some (7, true)), 0, false, []⟩,
    ⟨(some 11), (.bin 0 .leq (.t 8) (.t 10)), (some (7, true)), 0, false, []⟩,
    ⟨(some 12), (.pick (.t 7) (.t 11) (.c (.bool false))), none, 0, false, []⟩,
    ⟨(some 4), (.mv (.t 12)), none, 0, false, []⟩] false
def a92_2 : AC := .seq a92_1 .ret
def a92_3 : AC := .seq a92_0 a92_2
def af92 : AF := { ntmps := 13, res := [(.t 4)], body := a92_3 }
theorem tr92 : trF Try.prog Try.f92 = some af92 := by kernel_rfl
attribute [go_sem] af92 a92_0 a92_1 a92_2 a92_3
def a93_0 : AC := .reg [⟨(some 2), (.mv (.c (.bool false))), none, 0, false, []⟩] false
def a93_1 : AC := .reg [⟨(some 3), (.mv (.c (.int .i64 0))), none, 0, false, []⟩] false
def a93_2 : AC := .reg [⟨(some 4), (.mv (.t 3)), none, 0, false, []⟩,
    ⟨(some 5), (.mv (.t 0)), none, 0, false, []⟩,
    ⟨(some 6), (.len false (.t 5)), none, 0, false, []⟩,
    ⟨(some 7), (.bin 0 .lss (.t 4) (.t 6)), none, 0, false, []⟩] false
def a93_3 : AC := .cond (.t 7) .skip (.exit 0)
def a93_4 : AC := .seq a93_2 a93_3
def a93_5 : AC := .reg [⟨(some 10), (.mv (.t 0)), none, 0, false, []⟩,
    ⟨(some 11), (.mv (.t 3)), none, 0, false, []⟩,
    ⟨(some 12), (.iad 5 (.t 10) (.t 11)), none, 0, false, []⟩,
    ⟨(some 13), (.load true 5 (.t 12)), none, 0, false, []⟩,
    ⟨(some 14), (.call 131 [(.t 13)]), none, 0, false, []⟩,
    ⟨(some 15), (.un .not (.t 14)), none, 0, false, []⟩] false
def a93_6 : AC := .reg [⟨(some 2), (.mv (.c (.bool false))), none, 0, false, []⟩] false
def a93_7 : AC := .seq a93_6 .ret
def a93_8 : AC := .cond (.t 15) a93_7 .skip
def a93_9 : AC := .seq a93_5 a93_8
def a93_10 : AC := .blk 1 a93_9
def a93_11 : AC := .reg [⟨(some 8), (.mv (.t 3)), none, 0, false, []⟩,
    ⟨(some 9), (.bin 0 .add (.t 8) (.c (.int .i64 1))), none, 0, false, []⟩,
    ⟨(some 3), (.mv (.t 9)), none, 0, false, []⟩] false
def a93_12 : AC := .seq a93_10 a93_11
def a93_13 : AC := .seq a93_4 a93_12
def a93_14 : AC := .loop a93_13
def a93_15 : AC := .blk 0 a93_14
def a93_16 : AC := .seq a93_1 a93_15
def a93_17 : AC := .reg [⟨(some 2), (.mv (.c (.bool true))), none, 0, false, []⟩] false
def a93_18 : AC := .seq a93_17 .ret
def a93_19 : AC := .seq a93_16 a93_18
def a93_20 : AC := .seq a93_0 a93_19
def af93 : AF := { ntmps := 16, res := [(.t 2)], body := a93_20 }
theorem tr93 : trF Try.prog Try.f93 = some af93 := by kernel_rfl
attribute [go_sem] af93 a93_0 a93_1 a93_2 a93_3 a93_4 a93_5 a93_6 a93_7 a93_8 a93_9 a93_10 a93_11 a93_12 a93_13 a93_14 a93_15 a93_16 a93_17 a93_18 a93_19 a93_20
def a102_0 : AC := .reg [⟨(some 8), (.new [(.int .i64 0), (.int .i64 0), (.int .i64 0), (.int .i64 0), .nils]), none, 0, false, []⟩] false
def a102_1 : AC := .reg [⟨(some 9), (.mv (.c .nils)), none, 0, false, []⟩] false
def a102_2 : AC := .reg [⟨(some 10), (.mv (.c (.int .i64 0))), none, 0, false, []⟩] false
def a102_3 : AC := .reg [⟨(some 11), (.mv (.t 10)), none, 0, false, []⟩,
    ⟨(some 12), (.mv (.t 3)), none, 0, false, []⟩,
    ⟨(some 13), (.len false (.t 12)), none, 0, false, []⟩,
    ⟨(some 14), (.bin 0 .lss (.t 11) (.t 13)), none, 0, false, []⟩] false
def a102_4 : AC := .cond (.t 14) .skip (.exit 0)
def a102_5 : AC := .seq a102_3 a102_4
def a102_6 : AC := .reg [⟨(some 17), (.mv (.t 9)), none, 0, false, []⟩,
    ⟨(some 18), (.mv (.t 3)), none, 0, false, []⟩,
    ⟨(some 19), (.mv (.t 10)), none, 0, false, []⟩,
    ⟨(some 20), (.iad 5 (.t 18) (.t 19)), none, 0, false, []⟩,
    ⟨(some 21), (.load true 5 (.t 20)), none, 0, false, []⟩,
    ⟨(some 22), (.bslice 5 [(.t 21)]), none, 0, false, []⟩,
    ⟨(some 23), (.app 5 56 (.t 17) (.t 22)), none, 0, false, []⟩,
    ⟨(some 9), (.mv (.t 23)), none, 0, false, []⟩] false
def a102_7 : AC := .blk 1 a102_6
def a102_8 : AC := .reg [⟨(some 15), (.mv (.t 10)), none, 0, false, []⟩,
    ⟨(some 16), (.bin 0 .add (.t 15) (.c (.int .i64 1))), none, 0, false, []⟩,
    ⟨(some 10), (.mv (.t 16)), none, 0, false, []⟩] false
def a102_9 : AC := .seq a102_7 a102_8
def a102_10 : AC := .seq a102_5 a102_9
def a102_11 : AC := .loop a102_10
def a102_12 : AC := .blk 0 a102_11
def a102_13 : AC := .seq a102_2 a102_12
def a102_14 : AC := .reg [⟨(some 24), (.mv (.t 0)), none, 0, false, []⟩,
    ⟨(some 25), (.mv (.t 1)), none, 0, false, []⟩,
    ⟨(some 26), (.mv (.t 2)), none, 0, false, []⟩,
    ⟨(some 27), (.mv (.t 9)), none, 0, false, []⟩,
    ⟨(some 28), (.build [(.int .i64 0), (.int .i64 0), (.int .i64 0), (.int .i64 0), .nils] [(0, (1, (.c (.int .i64 23)))), (3, (1, (.t 24))), (1, (1, (.t 25))), (2, (1, (.t 26))), (4, (1, (.t 27)))]), none, 0, false, []⟩,
    ⟨none, (.store 5 (.t 8) (.t 28)), none, 0, false, []⟩] false
def a102_15 : AC := .seq a102_14 .ret
def a102_16 : AC := .seq a102_13 a102_15
def a102_17 : AC := .seq a102_1 a102_16
def a102_18 : AC := .seq a102_0 a102_17
def af102 : AF := { ntmps := 29, res := [(.cell 8 true 5)], body := a102_18 }
theorem tr102 : trF Try.prog Try.f102 = some af102 := by kernel_rfl
attribute [go_sem] af102 a102_0 a102_1 a102_2 a102_3 a102_4 a102_5 a102_6 a102_7 a102_8 a102_9 a102_10 a102_11 a102_12 a102_13 a102_14 a102_15 a102_16 a102_17 a102_18
def a34_0 : AC := .reg [⟨(some 2), (.new [(.int .i64 0), (.int .i64 0), (.int .i64 0), (.int .i64 0), .nils]), none, 0, false, []⟩] false
def a34_1 : AC := .reg [⟨(some 3), (.mv (.t 0)), none, 0, false, []⟩,
    ⟨(some 4), (.call 92 [(.t 3), (.c (.int .i64 2))]), none, 0, false, []⟩,
    ⟨(some 5), (.un .not (.t 4)), none, 0, false, []⟩] false
def a34_2 : AC := .reg [⟨(some 6), (.build [(.int .i64 0), (.int .i64 0), (.int .i64 0), (.int .i64 0), .nils] []), none, 0, false, []⟩,
    ⟨none, (.store 5 (.t 2) (.t 6)), none, 0, false, []⟩] false
def a34_3 : AC := .seq a34_2 .ret
def a34_4 : AC := .cond (.t 5) a34_3 .skip
def a34_5 : AC := .seq a34_1 a34_4
def a34_6 : AC := .reg [⟨(some 7), (.mv (.t 0)), none, 0, false, []⟩,
    ⟨(some 8), (.call 95 [(.t 7)]), none, 0, false, []⟩,
    ⟨(some 9), (.call 96 [(.c (.int .i64 0))]), none, 0, false, []⟩,
    ⟨(some 10), (.bslice 5 [(.t 8), (.t 9)]), none, 0, false, []⟩,
    ⟨(some 11), (.call 94 [(.c (.int .i64 16)), (.t 10)]), none, 0, false, []⟩,
    ⟨none, (.store 5 (.t 2) (.t 11)), none, 0, false, []⟩] false
def a34_7 : AC := .seq a34_6 .ret
def a34_8 : AC := .seq a34_5 a34_7
def a34_9 : AC := .seq a34_0 a34_8
def af34 : AF := { ntmps := 12, res := [(.cell 2 true 5)], body := a34_9 }
theorem tr34 : trF Try.prog Try.f34 = some af34 := by kernel_rfl
attribute [go_sem] af34 a34_0 a34_1 a34_2 a34_3 a34_4 a34_5 a34_6 a34_7 a34_8 a34_9
def a32_0 : AC := .reg [⟨(some 4), (.box (.t 1)), none, 0, false, []⟩,
    ⟨(some 5), (.box (.t 2)), none, 0, false, []⟩,
    ⟨(some 6), (.new [(.int .i64 0), (.int .i64 0), (.int .i64 0), (.int .i64 0), .nils]), none, 0, false, []⟩] false
def a32_1 : AC := .reg [⟨(some 7), (.mv (.t 0)), none, 0, false, []⟩,
    ⟨(some 8), (.call 92 [(.t 7), (.c (.int .i64 2))]), none, 0, false, []⟩,
    ⟨(some 9), (.un .not (.t 8)), none, 0, false, []⟩,
    ⟨(some 10), (.mv (.t 9)), none, 0, false, []⟩,
    ⟨(some 11), (.load true 5 (.t 4)), (some (10, false)), 0, false, []⟩,
    ⟨(some 12), (.load true 5 (.t 5)), (some (10, false)), 0, false, []⟩,
    ⟨(some 13), (.bslice 5 [(.t 11), (.t 12)]), (some (10, false)), 0, false, []⟩,
    ⟨(some 14), (.call 93 [(.t 13)]), (some (10, false)), 0, false, []⟩,
    ⟨(some 15), (.un .not (.t 14)), (some (10, false)), 0, false, []⟩,
    ⟨(some 16), (.pick (.t 10) (.c (.bool true)) (.t 15)), none, 0, false, []⟩] false
def a32_2 : AC := .reg [⟨(some 17), (.build [(.int .i64 0), (.int .i64 0), (.int .i64 0), (.int .i64 0), .nils] []), none, 0, false, []⟩,
    ⟨none, (.store 5 (.t 6) (.t 17)), none, 0, false, []⟩] false
def a32_3 : AC := .seq a32_2 .ret
def a32_4 : AC := .cond (.t 16) a32_3 .skip
def a32_5 : AC := .seq a32_1 a32_4
def a32_6 : AC := .reg [⟨(some 18), (.mv (.t 0)), none, 0, false, []⟩,
    ⟨(some 19), (.call 95 [(.t 18)]), none, 1, true, []⟩,
    ⟨(some 20), (.call 96 [(.c (.int .i64 0))]), none, 2, true, []⟩,
    ⟨(some 21), (.load true 5 (.t 4)), none, 3, false, [1, 2]⟩,
    ⟨(some 22), (.load true 5 (.t 5)), none, 4, false, [1, 2]⟩,
    ⟨(some 23), (.bslice 5 [(.t 19), (.t 20), (.t 21), (.t 22)]), none, 5, false, []⟩,
    ⟨(some 24), (.call 94 [(.c (.int .i64 17)), (.t 23)]), none, 6, false, []⟩,
    ⟨none, (.store 5 (.t 6) (.t 24)), none, 7, false, []⟩] true
def a32_7 : AC := .seq a32_6 .ret
def a32_8 : AC := .seq a32_5 a32_7
def a32_9 : AC := .seq a32_0 a32_8
def af32 : AF := { ntmps := 25, res := [(.cell 6 true 5)], body := a32_9 }
theorem tr32 : trF Try.prog Try.f32 = some af32 := by kernel_rfl
attribute [go_sem] af32 a32_0 a32_1 a32_2 a32_3 a32_4 a32_5 a32_6 a32_7 a32_8 a32_9
def a94_0 : AC := .reg [⟨(some 4), (.new [(.int .i64 0), (.int .i64 0), (.int .i64 0), (.int .i64 0), .nils]), none, 0, false, []⟩] false
def a94_1 : AC := .reg [⟨(some 5), (.mv (.c .nils)), none, 0, false, []⟩] false
def a94_2 : AC := .reg [⟨(some 6), (.mv (.c (.int .i64 0))), none, 0, false, []⟩] false
def a94_3 : AC := .reg [⟨(some 7), (.mv (.t 6)), none, 0, false, []⟩,
    ⟨(some 8), (.mv (.t 1)), none, 0, false, []⟩,
    ⟨(some 9), (.len false (.t 8)), none, 0, false, []⟩,
    ⟨(some 10), (.bin 0 .lss (.t 7) (.t 9)), none, 0, false, []⟩] false
def a94_4 : AC := .cond (.t 10) .skip (.exit 0)
def a94_5 : AC := .seq a94_3 a94_4
def a94_6 : AC := .reg [⟨(some 13), (.mv (.t 5)), none, 0, false, []⟩,
    ⟨(some 14), (.mv (.t 1)), none, 0, false, []⟩,
    ⟨(some 15), (.mv (.t 6)), none, 0, false, []⟩,
    ⟨(some 16), (.iad 5 (.t 14) (.t 15)), none, 0, false, []⟩,
    ⟨(some 17), (.load true 5 (.t 16)), none, 0, false, []⟩,
    ⟨(some 18), (.bslice 5 [(.t 17)]), none, 0, false, []⟩,
    ⟨(some 19), (.app 5 56 (.t 13) (.t 18)), none, 0, false, []⟩,
    ⟨(some 5), (.mv (.t 19)), none, 0, false, []⟩] false
def a94_7 : AC := .blk 1 a94_6
def a94_8 : AC := .reg [⟨(some 11), (.mv (.t 6)), none, 0, false, []⟩,
    ⟨(some 12), (.bin 0 .add (.t 11) (.c (.int .i64 1))), none, 0, false, []⟩,
    ⟨(some 6), (.mv (.t 12)), none, 0, false, []⟩] false
def a94_9 : AC := .seq a94_7 a94_8
def a94_10 : AC := .seq a94_5 a94_9
def a94_11 : AC := .loop a94_10
def a94_12 : AC := .blk 0 a94_11
def a94_13 : AC := .seq a94_2 a94_12
def a94_14 : AC := .reg [⟨(some 20), (.mv (.t 0)), none, 0, false, []⟩,
    ⟨(some 21), (.mv (.t 5)), none, 0, false, []⟩,
    ⟨(some 22), (.build [(.int .i64 0), (.int .i64 0), (.int .i64 0), (.int .i64 0), .nils] [(0, (1, (.t 20))), (4, (1, (.t 21)))]), none, 0, false, []⟩,
    ⟨none, (.store 5 (.t 4) (.t 22)), none, 0, false, []⟩] false
def a94_15 : AC := .seq a94_14 .ret
def a94_16 : AC := .seq a94_13 a94_15
def a94_17 : AC := .seq a94_1 a94_16
def a94_18 : AC := .seq a94_0 a94_17
def af94 : AF := { ntmps := 23, res := [(.cell 4 true 5)], body := a94_18 }
theorem tr94 : trF Try.prog Try.f94 = some af94 := by kernel_rfl
attribute [go_sem] af94 a94_0 a94_1 a94_2 a94_3 a94_4 a94_5 a94_6 a94_7 a94_8 a94_9 a94_10 a94_11 a94_12 a94_13 a94_14 a94_15 a94_16 a94_17 a94_18
def a95_0 : AC := .reg [⟨(some 2), (.new [(.int .i64 0), (.int .i64 0), (.int .i64 0), (.int .i64 0), .nils]), none, 0, false, []⟩] false
def a95_1 : AC := .reg [⟨(some 3), (.mv (.t 0)), none, 0, false, []⟩,
    ⟨(some 4), (.build [(.int .i64 0), (.int .i64 0), (.int .i64 0), (.int .i64 0), .nils] [(0, (1, (.c (.int .i64 1)))), (1, (1, (.t 3)))]), none, 0, false, []⟩,
    ⟨none, (.store 5 (.t 2) (.t 4)), none, 0, false, []⟩] false
def a95_2 : AC := .seq a95_1 .ret
def a95_3 : AC := .seq a95_0 a95_2
def af95 : AF := { ntmps := 5, res := [(.cell 2 true 5)], body := a95_3 }
theorem tr95 : trF Try.prog Try.f95 = some af95 := by kernel_rfl
attribute [go_sem] af95 a95_0 a95_1 a95_2 a95_3
def a96_0 : AC := .reg [⟨(some 2), (.new [(.int .i64 0), (.int .i64 0), (.int .i64 0), (.int .i64 0), .nils]), none, 0, false, []⟩] false
def a96_1 : AC := .reg [⟨(some 3), (.mv (.t 0)), none, 0, false, []⟩,
    ⟨(some 4), (.build [(.int .i64 0), (.int .i64 0), (.int .i64 0), (.int .i64 0), .nils] [(0, (1, (.c (.int .i64 2)))), (1, (1, (.t 3)))]), none, 0, false, []⟩,
    ⟨none, (.store 5 (.t 2) (.t 4)), none, 0, false, []⟩] false
def a96_2 : AC := .seq a96_1 .ret
def a96_3 : AC := .seq a96_0 a96_2
def af96 : AF := { ntmps := 5, res := [(.cell 2 true 5)], body := a96_3 }
theorem tr96 : trF Try.prog Try.f96 = some af96 := by kernel_rfl
attribute [go_sem] af96 a96_0 a96_1 a96_2 a96_3
def a38_0 : AC := .reg [⟨(some 0), (.mv (.c (.bool false))), none, 0, false, []⟩] false
def a38_1 : AC := .reg [⟨(some 2), (.call 103 [(.c (.int .i64 0))]), none, 0, false, []⟩,
    ⟨(some 3), (.call 103 [(.c (.int .i64 1))]), none, 0, false, []⟩,
    ⟨(some 4), (.call 65 [(.c (.int .i64 0)), (.t 2), (.t 3)]), none, 0, false, []⟩,
    ⟨(some 1), (.new [(.int .i64 0), (.int .i64 0), (.int .i64 0), (.int .i64 0), (.int .i64 0), .nils, (.int .i64 0), (.int .i64 0), (.int .i64 0), (.int .i64 0), .nils, (.int .i64 0), (.int .i64 0), (.int .i64 0), (.int .i64 0), .nils, (.int .i64 0), (.int .i64 0), (.int .i64 0), (.int .i64 0), .nils, (.int .i64 0), (.int .i64 0), (.int .i64 0), (.int .i64 0), .nils]), none, 0, false, []⟩,
    ⟨none, (.store 26 (.t 1) (.t 4)), none, 0, false, []⟩] false
def a38_2 : AC := .reg [⟨(some 5), (.fad 21 (.t 1)), none, 0, false, []⟩,
    ⟨(some 6), (.fad 0 (.t 5)), none, 0, false, []⟩,
    ⟨(some 7), (.load false 1 (.t 6)), none, 0, false, []⟩,
    ⟨(some 8), (.bin 0 .eql (.t 7) (.c (.int .i64 21))), none, 0, false, []⟩,
    ⟨(some 9), (.mv (.t 8)), none, 0, false, []⟩,
    ⟨(some 10), (.load true 26 (.t 1)), (some (9, true)), 0, false, []⟩,
    ⟨(some 11), (.call 35 [(.t 10)]), (some (9, true)), 0, false, []⟩,
    ⟨(some 12), (.fld false 3 1 (.t 11)), (some (9, true)), 0, false, []⟩,
    ⟨(some 13), (.bin 0 .eql (.t 12) (.c (.int .i64 6))), (some (9, true)), 0, false, []⟩,
    ⟨(some 14), (.pick (.t 9) (.t 13) (.c (.bool false))), none, 0, false, []⟩,
    ⟨(some 15), (.mv (.t 14)), none, 0, false, []⟩,
    ⟨(some 16), (.call 33 [(.c (.int .i64 2))]), (some (15, true)), 0, false, []⟩,
    ⟨(some 17), (.fld false 0 1 (.t 16)), (some (15, true)), 0, false, []⟩,
    ⟨(some 18), (.bin 0 .eql (.t 17) (.c (.int .i64 16))), (some (15, true)), 0, false, []⟩,
    ⟨(some 19), (.pick (.t 15) (.t 18) (.c (.bool false))), none, 0, false, []⟩,
    ⟨(some 20), (.mv (.t 19)), none, 0, false, []⟩,
    ⟨(some 21), (.call 33 [(.c (.int .i64 999))]), (some (20, true)), 0, false, []⟩,
    ⟨(some 22), (.fld false 0 1 (.t 21)), (some (20, true)), 0, false, []⟩,
    ⟨(some 23), (.bin 0 .eql (.t 22) (.c (.int .i64 0))), (some (20, true)), 0, false, []⟩,
    ⟨(some 24), (.pick (.t 20) (.t 23) (.c (.bool false))), none, 0, false, []⟩,
    ⟨(some 0), (.mv (.t 24)), none, 0, false, []⟩] false
def a38_3 : AC := .seq a38_2 .ret
def a38_4 : AC := .seq a38_1 a38_3
def a38_5 : AC := .seq a38_0 a38_4
def af38 : AF := { ntmps := 25, res := [(.t 0)], body := a38_5 }
theorem tr38 : trF Try.prog Try.f38 = some af38 := by kernel_rfl
attribute [go_sem] af38 a38_0 a38_1 a38_2 a38_3 a38_4 a38_5
def a65_0 : AC := .reg [⟨(some 4), (.box (.t 1)), none, 0, false, []⟩,
    ⟨(some 5), (.box (.t 2)), none, 0, false, []⟩,
    ⟨(some 6), (.new [(.int .i64 0), (.int .i64 0), (.int .i64 0), (.int .i64 0), (.int .i64 0), .nils, (.int .i64 0), (.int .i64 0), (.int .i64 0), (.int .i64 0), .nils, (.int .i64 0), (.int .i64 0), (.int .i64 0), (.int .i64 0), .nils, (.int .i64 0), (.int .i64 0), (.int .i64 0), (.int .i64 0), .nils, (.int .i64 0), (.int .i64 0), (.int .i64 0), (.int .i64 0), .nils]), none, 0, false, []⟩] false
def a65_1 : AC := .reg [⟨(some 7), (.mv (.t 0)), none, 0, false, []⟩,
    ⟨(some 8), (.call 88 [(.t 7)]), none, 0, false, []⟩,
    ⟨(some 9), (.un .not (.t 8)), none, 0, false, []⟩,
    ⟨(some 10), (.mv (.t 9)), none, 0, false, []⟩,
    ⟨(some 11), (.load true 5 (.t 4)), (some (10, false)), 0, false, []⟩,
    ⟨(some 12), (.load true 5 (.t 5)), (some (10, false)), 0, false, []⟩,
    ⟨(some 13), (.bslice 5 [(.t 11), (.t 12)]), (some (10, false)), 0, false, []⟩,
    ⟨(some 14), (.call 89 [(.t 13)]), (some (10, false)), 0, false, []⟩,
    ⟨(some 15), (.un .not (.t 14)), (some (10, false)), 0, false, []⟩,
    ⟨(some 16), (.pick (.t 10) (.c (.bool true)) (.t 15)), none, 0, false, []⟩] false
def a65_2 : AC := .reg [⟨(some 17), (.build [(.int .i64 0), (.int .i64 0), (.int .i64 0), (.int .i64 0), (.int .i64 0), .nils, (.int .i64 0), (.int .i64 0), (.int .i64 0), (.int .i64 0), .nils, (.int .i64 0), (.int .i64 0), (.int .i64 0), (.int .i64 0), .nils, (.int .i64 0), (.int .i64 0), (.int .i64 0), (.int .i64 0), .nils, (.int .i64 0), (.int .i64 0), (.int .i64 0), (.int .i64 0), .nils] []), none, 0, false, []⟩,
    ⟨none, (.store 26 (.t 6) (.t 17)), none, 0, false, []⟩] false
def a65_3 : AC := .seq a65_2 .ret
def a65_4 : AC := .cond (.t 16) a65_3 .skip
def a65_5 : AC := .seq a65_1 a65_4
def a65_6 : AC := .reg [⟨(some 18), (.mv (.t 0)), none, 0, false, []⟩,
    ⟨(some 19), (.load true 5 (.t 4)), none, 1, true, []⟩,
    ⟨(some 20), (.load true 5 (.t 4)), none, 2, true, []⟩,
    ⟨(some 21), (.load true 5 (.t 5)), none, 3, true, []⟩,
    ⟨(some 22), (.load true 5 (.t 5)), none, 4, true, []⟩,
    ⟨(some 23), (.mv (.t 0)), none, 5, false, []⟩,
    ⟨(some 24), (.call 33 [(.t 23)]), none, 6, true, [1, 2, 3, 4]⟩,
    ⟨(some 25), (.mv (.t 0)), none, 7, false, []⟩,
    ⟨(some 26), (.load true 5 (.t 4)), none, 8, false, [6]⟩,
    ⟨(some 27), (.load true 5 (.t 5)), none, 9, false, [6]⟩,
    ⟨(some 28), (.call 91 [(.t 25), (.t 26), (.t 27)]), none, 10, false, [1, 2, 3, 4]⟩,
    ⟨(some 29), (.bslice 5 [(.t 24), (.t 28)]), none, 11, false, [1, 2, 3, 4]⟩,
    ⟨(some 30), (.call 97 [(.c (.int .i64 21)), (.c (.int .i64 0)), (.c (.int .i64 0)), (.c (.int .i64 0)), (.t 29)]), none, 12, false, [1, 2, 3, 4]⟩,
    ⟨(some 31), (.call 104 [(.t 18), (.t 19), (.t 20), (.t 21), (.t 22), (.t 30)]), none, 13, false, []⟩,
    ⟨none, (.store 26 (.t 6) (.t 31)), none, 14, false, []⟩] true
def a65_7 : AC := .seq a65_6 .ret
def a65_8 : AC := .seq a65_5 a65_7
def a65_9 : AC := .seq a65_0 a65_8
def af65 : AF := { ntmps := 32, res := [(.cell 6 true 26)], body := a65_9 }
theorem tr65 : trF Try.prog Try.f65 = some af65 := by kernel_rfl
attribute [go_sem] af65 a65_0 a65_1 a65_2 a65_3 a65_4 a65_5 a65_6 a65_7 a65_8 a65_9
def a35_0 : AC := .reg [⟨(some 1), (.box (.t 0)), none, 0, false, []⟩,
    ⟨(some 2), (.new [(.int .i64 0), (.int .i64 0), (.int .i64 0), (.int .i64 0), .nils]), none, 0, false, []⟩] false
def a35_1 : AC := .reg [⟨(some 3), (.load true 26 (.t 1)), none, 0, false, []⟩,
    ⟨(some 4), (.call 100 [(.t 3)]), none, 0, false, []⟩,
    ⟨(some 5), (.un .not (.t 4)), none, 0, false, []⟩] false
def a35_2 : AC := .reg [⟨(some 6), (.build [(.int .i64 0), (.int .i64 0), (.int .i64 0), (.int .i64 0), .nils] []), none, 0, false, []⟩,
    ⟨none, (.store 5 (.t 2) (.t 6)), none, 0, false, []⟩] false
def a35_3 : AC := .seq a35_2 .ret
def a35_4 : AC := .cond (.t 5) a35_3 .skip
def a35_5 : AC := .seq a35_1 a35_4
def a35_6 : AC := .reg [⟨(some 7), (.fad 0 (.t 1)), none, 0, false, []⟩,
    ⟨(some 8), (.load false 1 (.t 7)), none, 0, false, []⟩,
    ⟨(some 9), (.fad 1 (.t 1)), none, 0, false, []⟩,
    ⟨(some 10), (.load true 5 (.t 9)), none, 0, false, []⟩,
    ⟨(some 11), (.fad 6 (.t 1)), none, 0, false, []⟩,
    ⟨(some 12), (.load true 5 (.t 11)), none, 0, false, []⟩,
    ⟨(some 13), (.fad 11 (.t 1)), none, 0, false, []⟩,
    ⟨(some 14), (.load true 5 (.t 13)), none, 0, false, []⟩,
    ⟨(some 15), (.fad 16 (.t 1)), none, 0, false, []⟩,
    ⟨(some 16), (.load true 5 (.t 15)), none, 0, false, []⟩,
    ⟨(some 17), (.bslice 5 [(.t 10), (.t 12), (.t 14), (.t 16)]), none, 0, false, []⟩,
    ⟨(some 18), (.call 101 [(.c (.int .i64 6)), (.t 8), (.t 17)]), none, 0, false, []⟩,
    ⟨none, (.store 5 (.t 2) (.t 18)), none, 0, false, []⟩] false
def a35_7 : AC := .seq a35_6 .ret
def a35_8 : AC := .seq a35_5 a35_7
def a35_9 : AC := .seq a35_0 a35_8
def af35 : AF := { ntmps := 19, res := [(.cell 2 true 5)], body := a35_9 }
theorem tr35 : trF Try.prog Try.f35 = some af35 := by kernel_rfl
attribute [go_sem] af35 a35_0 a35_1 a35_2 a35_3 a35_4 a35_5 a35_6 a35_7 a35_8 a35_9
end Go.Proofs.Ytadmdmhocglkfaa.Abs
