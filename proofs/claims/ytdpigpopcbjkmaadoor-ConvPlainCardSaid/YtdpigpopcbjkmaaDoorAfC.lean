/- The abstract code of functions, printed by program; that it is the translation of the model's code is decided by the kernel. -/
import Derived.Test.YtdpigpopcbjkmaaDoorEv
import Derived.Test.YtdpigpopcbjkmaaDoorProg
import Derived.KernelRfl
namespace Go.Proofs.YtdpigpopcbjkmaaDoor.Abs
open Go Go.Proofs Go.Proofs.YtdpigpopcbjkmaaDoor
def a63_0 : AC := .reg [⟨(some 3), (.box (.t 0)), none, 0, false, []⟩,
    ⟨(some 6), (.new [(.int .i64 0), (.int .i64 0), (.int .i64 0), (.int .i64 0), .nils]), none, 0, false, []⟩,
    ⟨(some 7), (.mv (.c (.bool false))), none, 0, false, []⟩] false
def a63_1 : AC := .reg [⟨(some 13), (.fad 0 (.t 3)), none, 0, false, []⟩,
    ⟨(some 14), (.load false 1 (.t 13)), none, 0, false, []⟩,
    ⟨(some 15), (.bin 0 .eql (.t 14) (.c (.int .i64 2))), none, 0, false, []⟩,
    ⟨(some 16), (.mv (.t 15)), none, 0, false, []⟩,
    ⟨(some 17), (.fad 1 (.t 3)), (some (16, true)), 0, false, []⟩,
    ⟨(some 18), (.load false 1 (.t 17)), (some (16, true)), 0, false, []⟩,
    ⟨(some 19), (.mv (.t 2)), (some (16, true)), 0, false, []⟩,
    ⟨(some 20), (.bin 0 .geq (.t 18) (.t 19)), (some (16, true)), 0, false, []⟩,
    ⟨(some 21), (.pick (.t 16) (.t 20) (.c (.bool false))), none, 0, false, []⟩] false
def a63_2 : AC := .reg [⟨(some 22), (.mv (.t 1)), none, 0, false, []⟩,
    ⟨(some 23), (.fad 1 (.t 3)), none, 0, false, []⟩,
    ⟨(some 24), (.load false 1 (.t 23)), none, 0, false, []⟩,
    ⟨(some 25), (.bin 0 .sub (.c (.int .i64 2147483647)) (.t 24)), none, 0, false, []⟩,
    ⟨(some 26), (.bin 0 .gtr (.t 22) (.t 25)), none, 0, false, []⟩] false
def a63_3 : AC := .reg [⟨(some 27), (.build [(.int .i64 0), (.int .i64 0), (.int .i64 0), (.int .i64 0), .nils] []), none, 0, false, []⟩,
    ⟨none, (.store 5 (.t 6) (.t 27)), none, 0, false, []⟩,
    ⟨(some 7), (.mv (.c (.bool false))), none, 0, false, []⟩] false
def a63_4 : AC := .seq a63_3 .ret
def a63_5 : AC := .cond (.t 26) a63_4 .skip
def a63_6 : AC := .seq a63_2 a63_5
def a63_7 : AC := .reg [⟨(some 28), (.fad 1 (.t 3)), none, 0, false, []⟩,
    ⟨(some 29), (.load false 1 (.t 28)), none, 0, false, []⟩,
    ⟨(some 30), (.mv (.t 1)), none, 0, false, []⟩,
    ⟨(some 31), (.bin 0 .add (.t 29) (.t 30)), none, 0, false, []⟩,
    ⟨(some 32), (.fad 1 (.t 3)), none, 0, false, []⟩,
    ⟨none, (.store 1 (.t 32) (.t 31)), none, 0, false, []⟩] false
def a63_8 : AC := .seq a63_6 a63_7
def a63_9 : AC := .cond (.t 21) a63_8 .skip
def a63_10 : AC := .seq a63_1 a63_9
def a63_11 : AC := .reg [⟨(some 33), (.fad 4 (.t 3)), none, 0, false, []⟩,
    ⟨(some 34), (.load false 1 (.t 33)), none, 0, false, []⟩,
    ⟨(some 35), (.len false (.t 34)), none, 0, false, []⟩,
    ⟨(some 36), (.bin 0 .eql (.t 35) (.c (.int .i64 0))), none, 0, false, []⟩] false
def a63_12 : AC := .reg [⟨(some 37), (.fad 4 (.t 3)), none, 0, false, []⟩,
    ⟨none, (.store 1 (.t 37) (.c .nils)), none, 0, false, []⟩] false
def a63_13 : AC := .reg [⟨(some 38), (.load true 5 (.t 3)), none, 0, false, []⟩,
    ⟨none, (.store 5 (.t 6) (.t 38)), none, 0, false, []⟩,
    ⟨(some 7), (.mv (.c (.bool true))), none, 0, false, []⟩] false
def a63_14 : AC := .seq a63_13 .ret
def a63_15 : AC := .seq a63_12 a63_14
def a63_16 : AC := .cond (.t 36) a63_15 .skip
def a63_17 : AC := .seq a63_11 a63_16
def a63_18 : AC := .reg [⟨(some 39), (.fad 4 (.t 3)), none, 0, false, []⟩,
    ⟨(some 40), (.load false 1 (.t 39)), none, 0, false, []⟩,
    ⟨(some 41), (.len false (.t 40)), none, 0, false, []⟩,
    ⟨(some 42), (.mk 5 56 [(.int .i64 0), (.int .i64 0), (.int .i64 0), (.int .i64 0), .nils] (.t 41) (.t 41)), none, 0, false, []⟩,
    ⟨(some 8), (.mv (.t 42)), none, 0, false, []⟩] false
def a63_19 : AC := .reg [⟨(some 43), (.fad 4 (.t 3)), none, 0, false, []⟩,
    ⟨(some 44), (.load false 1 (.t 43)), none, 0, false, []⟩,
    ⟨(some 45), (.len false (.t 44)), none, 0, false, []⟩,
    ⟨(some 46), (.mv (.c (.int .i64 0))), none, 0, false, []⟩] false
def a63_20 : AC := .reg [⟨(some 47), (.bin 0 .lss (.t 46) (.t 45)), none, 0, false, []⟩] false
def a63_21 : AC := .cond (.t 47) .skip (.exit 0)
def a63_22 : AC := .reg [⟨(some 48), (.mv (.t 46)), none, 0, false, []⟩,
    ⟨(some 49), (.iad 5 (.t 44) (.t 46)), none, 0, false, []⟩,
    ⟨(some 50), (.load true 5 (.t 49)), none, 0, false, []⟩,
    ⟨(some 10), (.new [(.int .i64 0), (.int .i64 0), (.int .i64 0), (.int .i64 0), .nils]), none, 0, false, []⟩,
    ⟨(some 9), (.mv (.t 48)), none, 0, false, []⟩,
    ⟨none, (.store 5 (.t 10) (.t 50)), none, 0, false, []⟩] false
def a63_23 : AC := .reg [⟨(some 52), (.load true 5 (.t 10)), none, 0, true, []⟩,
    ⟨(some 53), (.mv (.t 1)), none, 1, false, []⟩,
    ⟨(some 54), (.mv (.t 2)), none, 2, false, []⟩,
    ⟨(some 55), (.fad 0 (.t 3)), none, 3, false, []⟩,
    ⟨(some 56), (.load false 1 (.t 55)), none, 4, true, []⟩,
    ⟨(some 57), (.mv (.t 9)), none, 5, false, []⟩,
    ⟨(some 58), (.call 36 [(.t 56), (.t 57)]), none, 6, true, [0]⟩,
    ⟨(some 59), (.bin 0 .add (.t 54) (.t 58)), none, 7, false, []⟩,
    ⟨(some 60), (.call 63 [(.t 52), (.t 53), (.t 59)]), none, 8, true, []⟩,
    ⟨(some 51), (.mv (.t 60)), none, 9, false, []⟩,
    ⟨(some 61), (.ext (.t 51) 0), none, 10, false, []⟩,
    ⟨(some 62), (.ext (.t 51) 1), none, 11, false, []⟩,
    ⟨(some 11), (.new [(.int .i64 0), (.int .i64 0), (.int .i64 0), (.int .i64 0), .nils]), none, 12, false, [0, 4, 6, 8]⟩,
    ⟨none, (.store 5 (.t 11) (.t 61)), none, 13, false, []⟩,
    ⟨(some 12), (.mv (.t 62)), none, 14, false, []⟩] true
def a63_24 : AC := .reg [⟨(some 63), (.mv (.t 12)), none, 0, false, []⟩,
    ⟨(some 64), (.un .not (.t 63)), none, 0, false, []⟩] false
def a63_25 : AC := .reg [⟨(some 65), (.build [(.int .i64 0), (.int .i64 0), (.int .i64 0), (.int .i64 0), .nils] []), none, 0, false, []⟩,
    ⟨none, (.store 5 (.t 6) (.t 65)), none, 0, false, []⟩,
    ⟨(some 7), (.mv (.c (.bool false))), none, 0, false, []⟩] false
def a63_26 : AC := .seq a63_25 .ret
def a63_27 : AC := .cond (.t 64) a63_26 .skip
def a63_28 : AC := .seq a63_24 a63_27
def a63_29 : AC := .reg [⟨(some 66), (.mv (.t 8)), none, 0, false, []⟩,
    ⟨(some 67), (.mv (.t 9)), none, 0, false, []⟩,
    ⟨(some 68), (.load true 5 (.t 11)), none, 0, false, []⟩,
    ⟨(some 69), (.iad 5 (.t 66) (.t 67)), none, 0, false, []⟩,
    ⟨none, (.store 5 (.t 69) (.t 68)), none, 0, false, []⟩] false
def a63_30 : AC := .seq a63_28 a63_29
def a63_31 : AC := .seq a63_23 a63_30
def a63_32 : AC := .seq a63_22 a63_31
def a63_33 : AC := .blk 1 a63_32
def a63_34 : AC := .reg [⟨(some 70), (.bin 0 .add (.t 46) (.c (.int .i64 1))), none, 0, false, []⟩,
    ⟨(some 46), (.mv (.t 70)), none, 0, false, []⟩] false
def a63_35 : AC := .seq a63_33 a63_34
def a63_36 : AC := .seq a63_21 a63_35
def a63_37 : AC := .seq a63_20 a63_36
def a63_38 : AC := .loop a63_37
def a63_39 : AC := .blk 0 a63_38
def a63_40 : AC := .seq a63_19 a63_39
def a63_41 : AC := .reg [⟨(some 71), (.mv (.t 8)), none, 0, false, []⟩,
    ⟨(some 72), (.fad 4 (.t 3)), none, 0, false, []⟩,
    ⟨none, (.store 1 (.t 72) (.t 71)), none, 0, false, []⟩] false
def a63_42 : AC := .reg [⟨(some 73), (.load true 5 (.t 3)), none, 0, false, []⟩,
    ⟨none, (.store 5 (.t 6) (.t 73)), none, 0, false, []⟩,
    ⟨(some 7), (.mv (.c (.bool true))), none, 0, false, []⟩] false
def a63_43 : AC := .seq a63_42 .ret
def a63_44 : AC := .seq a63_41 a63_43
def a63_45 : AC := .seq a63_40 a63_44
def a63_46 : AC := .seq a63_18 a63_45
def a63_47 : AC := .seq a63_17 a63_46
def a63_48 : AC := .seq a63_10 a63_47
def a63_49 : AC := .seq a63_0 a63_48
def af63 : AF := { ntmps := 74, res := [(.cell 6 true 5), (.t 7)], body := a63_49 }
theorem tr63 : trF Tryd.prog Tryd.f63 = some af63 := by kernel_rfl
attribute [go_sem] af63 a63_0 a63_1 a63_2 a63_3 a63_4 a63_5 a63_6 a63_7 a63_8 a63_9 a63_10 a63_11 a63_12 a63_13 a63_14 a63_15 a63_16 a63_17 a63_18 a63_19 a63_20 a63_21 a63_22 a63_23 a63_24 a63_25 a63_26 a63_27 a63_28 a63_29 a63_30 a63_31 a63_32 a63_33 a63_34 a63_35 a63_36 a63_37 a63_38 a63_39 a63_40 a63_41 a63_42 a63_43 a63_44 a63_45 a63_46 a63_47 a63_48 a63_49
def a36_0 : AC := .reg [⟨(some 4), (.mv (.c (.int .i64 0))), none, 0, false, []⟩] false
def a36_1 : AC := .reg [⟨(some 5), (.mv (.t 0)), none, 0, false, []⟩] false
def a36_2 : AC := .reg [⟨(some 7), (.bin 0 .eql (.t 5) (.c (.int .i64 3))), none, 0, false, []⟩,
    ⟨(some 6), (.mv (.t 7)), none, 0, false, []⟩] false
def a36_3 : AC := .reg [⟨(some 8), (.bin 0 .eql (.t 5) (.c (.int .i64 5))), none, 0, false, []⟩,
    ⟨(some 6), (.mv (.t 8)), none, 0, false, []⟩] false
def a36_4 : AC := .reg [⟨(some 9), (.bin 0 .eql (.t 5) (.c (.int .i64 6))), none, 0, false, []⟩,
    ⟨(some 6), (.mv (.t 9)), none, 0, false, []⟩] false
def a36_5 : AC := .reg [⟨(some 10), (.bin 0 .eql (.t 5) (.c (.int .i64 7))), none, 0, false, []⟩,
    ⟨(some 6), (.mv (.t 10)), none, 0, false, []⟩] false
def a36_6 : AC := .reg [⟨(some 11), (.bin 0 .eql (.t 5) (.c (.int .i64 8))), none, 0, false, []⟩,
    ⟨(some 6), (.mv (.t 11)), none, 0, false, []⟩] false
def a36_7 : AC := .reg [⟨(some 12), (.bin 0 .eql (.t 5) (.c (.int .i64 9))), none, 0, false, []⟩,
    ⟨(some 6), (.mv (.t 12)), none, 0, false, []⟩] false
def a36_8 : AC := .reg [⟨(some 13), (.bin 0 .eql (.t 5) (.c (.int .i64 13))), none, 0, false, []⟩,
    ⟨(some 6), (.mv (.t 13)), none, 0, false, []⟩] false
def a36_9 : AC := .reg [⟨(some 14), (.bin 0 .eql (.t 5) (.c (.int .i64 14))), none, 0, false, []⟩,
    ⟨(some 6), (.mv (.t 14)), none, 0, false, []⟩] false
def a36_10 : AC := .reg [⟨(some 15), (.bin 0 .eql (.t 5) (.c (.int .i64 16))), none, 0, false, []⟩,
    ⟨(some 6), (.mv (.t 15)), none, 0, false, []⟩] false
def a36_11 : AC := .reg [⟨(some 16), (.bin 0 .eql (.t 5) (.c (.int .i64 17))), none, 0, false, []⟩,
    ⟨(some 6), (.mv (.t 16)), none, 0, false, []⟩] false
def a36_12 : AC := .cond (.t 6) .skip a36_11
def a36_13 : AC := .seq a36_10 a36_12
def a36_14 : AC := .cond (.t 6) .skip a36_13
def a36_15 : AC := .seq a36_9 a36_14
def a36_16 : AC := .cond (.t 6) .skip a36_15
def a36_17 : AC := .seq a36_8 a36_16
def a36_18 : AC := .cond (.t 6) .skip a36_17
def a36_19 : AC := .seq a36_7 a36_18
def a36_20 : AC := .cond (.t 6) .skip a36_19
def a36_21 : AC := .seq a36_6 a36_20
def a36_22 : AC := .cond (.t 6) .skip a36_21
def a36_23 : AC := .seq a36_5 a36_22
def a36_24 : AC := .cond (.t 6) .skip a36_23
def a36_25 : AC := .seq a36_4 a36_24
def a36_26 : AC := .cond (.t 6) .skip a36_25
def a36_27 : AC := .seq a36_3 a36_26
def a36_28 : AC := .cond (.t 6) .skip a36_27
def a36_29 : AC := .seq a36_2 a36_28
def a36_30 : AC := .reg [⟨(some 17), (.mv (.t 1)), none, 0, false, []⟩,
    ⟨(some 18), (.bin 0 .eql (.t 17) (.c (.int .i64 1))), none, 0, false, []⟩] false
def a36_31 : AC := .reg [⟨(some 4), (.mv (.c (.int .i64 1))), none, 0, false, []⟩] false
def a36_32 : AC := .seq a36_31 .ret
def a36_33 : AC := .cond (.t 18) a36_32 .skip
def a36_34 : AC := .seq a36_30 a36_33
def a36_35 : AC := .reg [⟨(some 20), (.bin 0 .eql (.t 5) (.c (.int .i64 4))), none, 0, false, []⟩,
    ⟨(some 19), (.mv (.t 20)), none, 0, false, []⟩] false
def a36_36 : AC := .reg [⟨(some 21), (.mv (.t 1)), none, 0, false, []⟩,
    ⟨(some 22), (.bin 0 .eql (.t 21) (.c (.int .i64 1))), none, 0, false, []⟩,
    ⟨(some 23), (.mv (.t 22)), none, 0, false, []⟩,
    ⟨(some 24), (.mv (.t 1)), (some (23, false)), 0, false, []⟩,
    ⟨(some 25), (.bin 0 .eql (.t 24) (.c (.int .i64 2))), (some (23, false)), 0, false, []⟩,
    ⟨(some 26), (.pick (.t 23) (.c (.bool true)) (.t 25)), none, 0, false, []⟩] false
def a36_37 : AC := .reg [⟨(some 4), (.mv (.c (.int .i64 1))), none, 0, false, []⟩] false
def a36_38 : AC := .seq a36_37 .ret
def a36_39 : AC := .cond (.t 26) a36_38 .skip
def a36_40 : AC := .seq a36_36 a36_39
def a36_41 : AC := .reg [⟨(some 28), (.bin 0 .eql (.t 5) (.c (.int .i64 22))), none, 0, false, []⟩,
    ⟨(some 27), (.mv (.t 28)), none, 0, false, []⟩] false
def a36_42 : AC := .reg [⟨(some 29), (.mv (.t 1)), none, 0, false, []⟩,
    ⟨(some 30), (.bin 0 .eql (.t 29) (.c (.int .i64 2))), none, 0, false, []⟩] false
def a36_43 : AC := .reg [⟨(some 4), (.mv (.c (.int .i64 2))), none, 0, false, []⟩] false
def a36_44 : AC := .seq a36_43 .ret
def a36_45 : AC := .cond (.t 30) a36_44 .skip
def a36_46 : AC := .seq a36_42 a36_45
def a36_47 : AC := .cond (.t 27) a36_46 .skip
def a36_48 : AC := .seq a36_41 a36_47
def a36_49 : AC := .cond (.t 19) a36_40 a36_48
def a36_50 : AC := .seq a36_35 a36_49
def a36_51 : AC := .cond (.t 6) a36_34 a36_50
def a36_52 : AC := .seq a36_29 a36_51
def a36_53 : AC := .blk 0 a36_52
def a36_54 : AC := .seq a36_1 a36_53
def a36_55 : AC := .reg [⟨(some 4), (.mv (.c (.int .i64 0))), none, 0, false, []⟩] false
def a36_56 : AC := .seq a36_55 .ret
def a36_57 : AC := .seq a36_54 a36_56
def a36_58 : AC := .seq a36_0 a36_57
def af36 : AF := { ntmps := 31, res := [(.t 4)], body := a36_58 }
theorem tr36 : trF Tryd.prog Tryd.f36 = some af36 := by kernel_rfl
attribute [go_sem] af36 a36_0 a36_1 a36_2 a36_3 a36_4 a36_5 a36_6 a36_7 a36_8 a36_9 a36_10 a36_11 a36_12 a36_13 a36_14 a36_15 a36_16 a36_17 a36_18 a36_19 a36_20 a36_21 a36_22 a36_23 a36_24 a36_25 a36_26 a36_27 a36_28 a36_29 a36_30 a36_31 a36_32 a36_33 a36_34 a36_35 a36_36 a36_37 a36_38 a36_39 a36_40 a36_41 a36_42 a36_43 a36_44 a36_45 a36_46 a36_47 a36_48 a36_49 a36_50 a36_51 a36_52 a36_53 a36_54 a36_55 a36_56 a36_57 a36_58
end Go.Proofs.YtdpigpopcbjkmaaDoor.Abs
