/- The abstract code of functions, printed by program; that it is the translation of the model's code is decided by the kernel. -/
import Derived.Test.YtadmdmhocglkfaaEv
import Derived.Test.YtadmdmhocglkfaaProg
import Derived.KernelRfl
namespace Go.Proofs.Ytadmdmhocglkfaa.Abs
open Go Go.Proofs Go.Proofs.Ytadmdmhocglkfaa
def a142_0 : AC := .reg [⟨(some 1), (.box (.t 0)), none, 0, false, []⟩,
    ⟨(some 2), (.mv (.c (.bool false))), none, 0, false, []⟩] false
def a142_1 : AC := .reg [⟨(some 4), (.fad 0 (.t 1)), none, 0, false, []⟩,
    ⟨(some 5), (.load false 1 (.t 4)), none, 0, false, []⟩,
    ⟨(some 6), (.bin 0 .lss (.t 5) (.c (.int .i64 1))), none, 0, false, []⟩,
    ⟨(some 7), (.mv (.t 6)), none, 0, false, []⟩,
    ⟨(some 8), (.fad 0 (.t 1)), (some (7, false)), 0, false, []⟩,
    ⟨(some 9), (.load false 1 (.t 8)), (some (7, false)), 0, false, []⟩,
    ⟨(some 10), (.bin 0 .gtr (.t 9) (.c (.int .i64 12))), (some (7, false)), 0, false, []⟩,
    ⟨(some 11), (.pick (.t 7) (.c (.bool true)) (.t 10)), none, 0, false, []⟩,
    ⟨(some 12), (.mv (.t 11)), none, 0, false, []⟩,
    ⟨(some 13), (.load true 5 (.t 1)), (some (12, false)), 0, false, []⟩,
    ⟨(some 14), (.call 140 [(.t 13)]), (some (12, false)), 0, false, []⟩,
    ⟨(some 15), (.un .not (.t 14)), (some (12, false)), 0, false, []⟩,
    ⟨(some 16), (.pick (.t 12) (.c (.bool true)) (.t 15)), none, 0, false, []⟩] false
def a142_2 : AC := .reg [⟨(some 2), (.mv (.c (.bool false))), none, 0, false, []⟩] false
def a142_3 : AC := .seq a142_2 .ret
def a142_4 : AC := .cond (.t 16) a142_3 .skip
def a142_5 : AC := .seq a142_1 a142_4
def a142_6 : AC := .reg [⟨(some 3), (.mv (.c (.int .i64 0))), none, 0, false, []⟩] false
def a142_7 : AC := .reg [⟨(some 17), (.mv (.t 3)), none, 0, false, []⟩,
    ⟨(some 18), (.fad 4 (.t 1)), none, 0, false, []⟩,
    ⟨(some 19), (.load false 1 (.t 18)), none, 0, false, []⟩,
    ⟨(some 20), (.len false (.t 19)), none, 0, false, []⟩,
    ⟨(some 21), (.bin 0 .lss (.t 17) (.t 20)), none, 0, false, []⟩] false
def a142_8 : AC := .cond (.t 21) .skip (.exit 0)
def a142_9 : AC := .seq a142_7 a142_8
def a142_10 : AC := .reg [⟨(some 24), (.fad 0 (.t 1)), none, 0, false, []⟩,
    ⟨(some 25), (.load false 1 (.t 24)), none, 0, false, []⟩,
    ⟨(some 26), (.bin 0 .eql (.t 25) (.c (.int .i64 12))), none, 0, false, []⟩,
    ⟨(some 27), (.mv (.t 26)), none, 0, false, []⟩,
    ⟨(some 28), (.mv (.t 3)), (some (27, true)), 0, false, []⟩,
    ⟨(some 29), (.bin 0 .eql (.t 28) (.c (.int .i64 2))), (some (27, true)), 0, false, []⟩,
    ⟨(some 30), (.pick (.t 27) (.t 29) (.c (.bool false))), none, 0, false, []⟩] false
def a142_11 : AC := .reg [⟨(some 31), (.fad 4 (.t 1)), none, 0, false, []⟩,
    ⟨(some 32), (.load false 1 (.t 31)), none, 0, false, []⟩,
    ⟨(some 33), (.mv (.t 3)), none, 0, false, []⟩,
    ⟨(some 34), (.iad 5 (.t 32) (.t 33)), none, 0, false, []⟩,
    ⟨(some 35), (.load true 5 (.t 34)), none, 0, false, []⟩,
    ⟨(some 36), (.call 131 [(.t 35)]), none, 0, false, []⟩,
    ⟨(some 37), (.un .not (.t 36)), none, 0, false, []⟩] false
def a142_12 : AC := .reg [⟨(some 2), (.mv (.c (.bool false))), none, 0, false, []⟩] false
def a142_13 : AC := .seq a142_12 .ret
def a142_14 : AC := .cond (.t 37) a142_13 .skip
def a142_15 : AC := .seq a142_11 a142_14
def a142_16 : AC := .reg [⟨(some 38), (.fad 4 (.t 1)), none, 0, false, []⟩,
    ⟨(some 39), (.load false 1 (.t 38)), none, 0, false, []⟩,
    ⟨(some 40), (.mv (.t 3)), none, 0, false, []⟩,
    ⟨(some 41), (.iad 5 (.t 39) (.t 40)), none, 0, false, []⟩,
    ⟨(some 42), (.load true 5 (.t 41)), none, 0, false, []⟩,
    ⟨(some 43), (.call 142 [(.t 42)]), none, 0, false, []⟩,
    ⟨(some 44), (.un .not (.t 43)), none, 0, false, []⟩] false
def a142_17 : AC := .reg [⟨(some 2), (.mv (.c (.bool false))), none, 0, false, []⟩] false
def a142_18 : AC := .seq a142_17 .ret
def a142_19 : AC := .cond (.t 44) a142_18 .skip
def a142_20 : AC := .seq a142_16 a142_19
def a142_21 : AC := .cond (.t 30) a142_15 a142_20
def a142_22 : AC := .seq a142_10 a142_21
def a142_23 : AC := .blk 1 a142_22
def a142_24 : AC := .reg [⟨(some 22), (.mv (.t 3)), none, 0, false, []⟩,
    ⟨(some 23), (.bin 0 .add (.t 22) (.c (.int .i64 1))), none, 0, false, []⟩,
    ⟨(some 3), (.mv (.t 23)), none, 0, false, []⟩] false
def a142_25 : AC := .seq a142_23 a142_24
def a142_26 : AC := .seq a142_9 a142_25
def a142_27 : AC := .loop a142_26
def a142_28 : AC := .blk 0 a142_27
def a142_29 : AC := .seq a142_6 a142_28
def a142_30 : AC := .reg [⟨(some 2), (.mv (.c (.bool true))), none, 0, false, []⟩] false
def a142_31 : AC := .seq a142_30 .ret
def a142_32 : AC := .seq a142_29 a142_31
def a142_33 : AC := .seq a142_5 a142_32
def a142_34 : AC := .seq a142_0 a142_33
def af142 : AF := { ntmps := 45, res := [(.t 2)], body := a142_34 }
theorem tr142 : trF Try.prog Try.f142 = some af142 := by kernel_rfl
attribute [go_sem] af142 a142_0 a142_1 a142_2 a142_3 a142_4 a142_5 a142_6 a142_7 a142_8 a142_9 a142_10 a142_11 a142_12 a142_13 a142_14 a142_15 a142_16 a142_17 a142_18 a142_19 a142_20 a142_21 a142_22 a142_23 a142_24 a142_25 a142_26 a142_27 a142_28 a142_29 a142_30 a142_31 a142_32 a142_33 a142_34
def a134_0 : AC := .reg [⟨(some 1), (.box (.t 0)), none, 0, false, []⟩,
    ⟨(some 2), (.mv (.c (.bool false))), none, 0, false, []⟩] false
def a134_1 : AC := .reg [⟨(some 3), (.load true 5 (.t 1)), none, 0, false, []⟩,
    ⟨(some 4), (.call 142 [(.t 3)]), none, 0, false, []⟩,
    ⟨(some 5), (.mv (.t 4)), none, 0, false, []⟩,
    ⟨(some 6), (.load true 5 (.t 1)), (some (5, false)), 0, false, []⟩,
    ⟨(some 7), (.call 131 [(.t 6)]), (some (5, false)), 0, false, []⟩,
    ⟨(some 8), (.pick (.t 5) (.c (.bool true)) (.t 7)), none, 0, false, []⟩,
    ⟨(some 2), (.mv (.t 8)), none, 0, false, []⟩] false
def a134_2 : AC := .seq a134_1 .ret
def a134_3 : AC := .seq a134_0 a134_2
def af134 : AF := { ntmps := 9, res := [(.t 2)], body := a134_3 }
theorem tr134 : trF Try.prog Try.f134 = some af134 := by kernel_rfl
attribute [go_sem] af134 a134_0 a134_1 a134_2 a134_3
def a135_0 : AC := .reg [⟨(some 3), (.box (.t 0)), none, 0, false, []⟩,
    ⟨(some 6), (.new [(.int .i64 0), (.int .i64 0), (.int .i64 0), (.int .i64 0), .nils]), none, 0, false, []⟩,
    ⟨(some 7), (.mv (.c (.bool false))), none, 0, false, []⟩] false
def a135_1 : AC := .reg [⟨(some 14), (.fad 0 (.t 3)), none, 0, false, []⟩,
    ⟨(some 15), (.load false 1 (.t 14)), none, 0, false, []⟩,
    ⟨(some 16), (.fad 1 (.t 3)), none, 0, false, []⟩,
    ⟨(some 17), (.load false 1 (.t 16)), none, 0, false, []⟩,
    ⟨(some 18), (.fad 2 (.t 3)), none, 0, false, []⟩,
    ⟨(some 19), (.load false 1 (.t 18)), none, 0, false, []⟩,
    ⟨(some 20), (.fad 3 (.t 3)), none, 0, false, []⟩,
    ⟨(some 21), (.load false 1 (.t 20)), none, 0, false, []⟩,
    ⟨(some 22), (.build [(.int .i64 0), (.int .i64 0), (.int .i64 0), (.int .i64 0), .nils] [(0, (1, (.t 15))), (1, (1, (.t 17))), (2, (1, (.t 19))), (3, (1, (.t 21)))]), none, 0, false, []⟩,
    ⟨(some 8), (.new [(.int .i64 0), (.int .i64 0), (.int .i64 0), (.int .i64 0), .nils]), none, 0, false, []⟩,
    ⟨none, (.store 5 (.t 8) (.t 22)), none, 0, false, []⟩] false
def a135_2 : AC := .reg [⟨(some 23), (.fad 0 (.t 3)), none, 0, false, []⟩,
    ⟨(some 24), (.load false 1 (.t 23)), none, 0, false, []⟩,
    ⟨(some 25), (.bin 0 .eql (.t 24) (.c (.int .i64 2))), none, 0, false, []⟩,
    ⟨(some 26), (.mv (.t 25)), none, 0, false, []⟩,
    ⟨(some 27), (.fad 1 (.t 3)), (some (26, true)), 0, false, []⟩,
    ⟨(some 28), (.load false 1 (.t 27)), (some (26, true)), 0, false, []⟩,
    ⟨(some 29), (.mv (.t 2)), (some (26, true)), 0, false, []⟩,
    ⟨(some 30), (.bin 0 .geq (.t 28) (.t 29)), (some (26, true)), 0, false, []⟩,
    ⟨(some 31), (.pick (.t 26) (.t 30) (.c (.bool false))), none, 0, false, []⟩] false
def a135_3 : AC := .reg [⟨(some 32), (.mv (.t 1)), none, 0, false, []⟩,
    ⟨(some 33), (.fad 1 (.t 3)), none, 0, false, []⟩,
    ⟨(some 34), (.load false 1 (.t 33)), none, 0, false, []⟩,
    ⟨(some 35), (.bin 0 .sub (.c (.int .i64 2147483647)) (.t 34)), none, 0, false, []⟩,
    ⟨(some 36), (.bin 0 .gtr (.t 32) (.t 35)), none, 0, false, []⟩] false
def a135_4 : AC := .reg [⟨(some 37), (.build [(.int .i64 0), (.int .i64 0), (.int .i64 0), (.int .i64 0), .nils] []), none, 0, false, []⟩,
    ⟨none, (.store 5 (.t 6) (.t 37)), none, 0, false, []⟩,
    ⟨(some 7), (.mv (.c (.bool false))), none, 0, false, []⟩] false
def a135_5 : AC := .seq a135_4 .ret
def a135_6 : AC := .cond (.t 36) a135_5 .skip
def a135_7 : AC := .seq a135_3 a135_6
def a135_8 : AC := .reg [⟨(some 38), (.fad 1 (.t 3)), none, 0, false, []⟩,
    ⟨(some 39), (.load false 1 (.t 38)), none, 0, false, []⟩,
    ⟨(some 40), (.mv (.t 1)), none, 0, false, []⟩,
    ⟨(some 41), (.bin 0 .add (.t 39) (.t 40)), none, 0, false, []⟩,
    ⟨(some 42), (.fad 1 (.t 8)), none, 0, false, []⟩,
    ⟨none, (.store 1 (.t 42) (.t 41)), none, 0, false, []⟩] false
def a135_9 : AC := .seq a135_7 a135_8
def a135_10 : AC := .cond (.t 31) a135_9 .skip
def a135_11 : AC := .seq a135_2 a135_10
def a135_12 : AC := .reg [⟨(some 9), (.mv (.c .nils)), none, 0, false, []⟩] false
def a135_13 : AC := .reg [⟨(some 10), (.mv (.c (.int .i64 0))), none, 0, false, []⟩] false
def a135_14 : AC := .reg [⟨(some 43), (.mv (.t 10)), none, 0, false, []⟩,
    ⟨(some 44), (.fad 4 (.t 3)), none, 0, false, []⟩,
    ⟨(some 45), (.load false 1 (.t 44)), none, 0, false, []⟩,
    ⟨(some 46), (.len false (.t 45)), none, 0, false, []⟩,
    ⟨(some 47), (.bin 0 .lss (.t 43) (.t 46)), none, 0, false, []⟩] false
def a135_15 : AC := .cond (.t 47) .skip (.exit 0)
def a135_16 : AC := .seq a135_14 a135_15
def a135_17 : AC := .reg [⟨(some 50), (.fad 0 (.t 3)), none, 0, false, []⟩,
    ⟨(some 51), (.load false 1 (.t 50)), none, 0, false, []⟩,
    ⟨(some 52), (.mv (.t 10)), none, 0, false, []⟩,
    ⟨(some 53), (.call 143 [(.t 51), (.t 52)]), none, 0, false, []⟩,
    ⟨(some 11), (.mv (.t 53)), none, 0, false, []⟩] false
def a135_18 : AC := .reg [⟨(some 54), (.mv (.t 2)), none, 0, false, []⟩,
    ⟨(some 55), (.bin 0 .gtr (.t 54) (.c (.int .i64 4611686018427387904))), none, 0, false, []⟩] false
def a135_19 : AC := .reg [⟨(some 11), (.mv (.c (.int .i64 0))), none, 0, false, []⟩] false
def a135_20 : AC := .cond (.t 55) a135_19 .skip
def a135_21 : AC := .seq a135_18 a135_20
def a135_22 : AC := .reg [⟨(some 57), (.fad 4 (.t 3)), none, 0, false, []⟩,
    ⟨(some 58), (.load false 1 (.t 57)), none, 0, false, []⟩,
    ⟨(some 59), (.mv (.t 10)), none, 0, false, []⟩,
    ⟨(some 60), (.iad 5 (.t 58) (.t 59)), none, 0, false, []⟩,
    ⟨(some 61), (.load true 5 (.t 60)), none, 0, false, []⟩,
    ⟨(some 62), (.mv (.t 1)), none, 0, false, []⟩,
    ⟨(some 63), (.mv (.t 2)), none, 0, false, []⟩,
    ⟨(some 64), (.mv (.t 11)), none, 0, false, []⟩,
    ⟨(some 65), (.bin 0 .add (.t 63) (.t 64)), none, 0, false, []⟩,
    ⟨(some 66), (.call 135 [(.t 61), (.t 62), (.t 65)]), none, 0, false, []⟩,
    ⟨(some 56), (.mv (.t 66)), none, 0, false, []⟩,
    ⟨(some 67), (.ext (.t 56) 0), none, 0, false, []⟩,
    ⟨(some 68), (.ext (.t 56) 1), none, 0, false, []⟩,
    ⟨(some 12), (.new [(.int .i64 0), (.int .i64 0), (.int .i64 0), (.int .i64 0), .nils]), none, 0, false, []⟩,
    ⟨none, (.store 5 (.t 12) (.t 67)), none, 0, false, []⟩,
    ⟨(some 13), (.mv (.t 68)), none, 0, false, []⟩] false
def a135_23 : AC := .reg [⟨(some 69), (.mv (.t 13)), none, 0, false, []⟩,
    ⟨(some 70), (.un .not (.t 69)), none, 0, false, []⟩] false
def a135_24 : AC := .reg [⟨(some 71), (.build [(.int .i64 0), (.int .i64 0), (.int .i64 0), (.int .i64 0), .nils] []), none, 0, false, []⟩,
    ⟨none, (.store 5 (.t 6) (.t 71)), none, 0, false, []⟩,
    ⟨(some 7), (.mv (.c (.bool false))), none, 0, false, []⟩] false
def a135_25 : AC := .seq a135_24 .ret
def a135_26 : AC := .cond (.t 70) a135_25 .skip
def a135_27 : AC := .seq a135_23 a135_26
def a135_28 : AC := .reg [⟨(some 72), (.mv (.t 9)), none, 0, false, []⟩,
    ⟨(some 73), (.load true 5 (.t 12)), none, 0, false, []⟩,
    ⟨(some 74), (.bslice 5 [(.t 73)]), none, 0, false, []⟩,
    ⟨(some 75), (.app 5 56 (.t 72) (.t 74)), none, 0, false, []⟩,
    ⟨(some 9), (.mv (.t 75)), none, 0, false, []⟩] false
def a135_29 : AC := .seq a135_27 a135_28
def a135_30 : AC := .seq a135_22 a135_29
def a135_31 : AC := .seq a135_21 a135_30
def a135_32 : AC := .seq a135_17 a135_31
def a135_33 : AC := .blk 1 a135_32
def a135_34 : AC := .reg [⟨(some 48), (.mv (.t 10)), none, 0, false, []⟩,
    ⟨(some 49), (.bin 0 .add (.t 48) (.c (.int .i64 1))), none, 0, false, []⟩,
    ⟨(some 10), (.mv (.t 49)), none, 0, false, []⟩] false
def a135_35 : AC := .seq a135_33 a135_34
def a135_36 : AC := .seq a135_16 a135_35
def a135_37 : AC := .loop a135_36
def a135_38 : AC := .blk 0 a135_37
def a135_39 : AC := .seq a135_13 a135_38
def a135_40 : AC := .reg [⟨(some 76), (.mv (.t 9)), none, 0, false, []⟩,
    ⟨(some 77), (.fad 4 (.t 8)), none, 0, false, []⟩,
    ⟨none, (.store 1 (.t 77) (.t 76)), none, 0, false, []⟩] false
def a135_41 : AC := .reg [⟨(some 78), (.load true 5 (.t 8)), none, 0, false, []⟩,
    ⟨none, (.store 5 (.t 6) (.t 78)), none, 0, false, []⟩,
    ⟨(some 7), (.mv (.c (.bool true))), none, 0, false, []⟩] false
def a135_42 : AC := .seq a135_41 .ret
def a135_43 : AC := .seq a135_40 a135_42
def a135_44 : AC := .seq a135_39 a135_43
def a135_45 : AC := .seq a135_12 a135_44
def a135_46 : AC := .seq a135_11 a135_45
def a135_47 : AC := .seq a135_1 a135_46
def a135_48 : AC := .seq a135_0 a135_47
def af135 : AF := { ntmps := 79, res := [(.cell 6 true 5), (.t 7)], body := a135_48 }
theorem tr135 : trF Try.prog Try.f135 = some af135 := by kernel_rfl
attribute [go_sem] af135 a135_0 a135_1 a135_2 a135_3 a135_4 a135_5 a135_6 a135_7 a135_8 a135_9 a135_10 a135_11 a135_12 a135_13 a135_14 a135_15 a135_16 a135_17 a135_18 a135_19 a135_20 a135_21 a135_22 a135_23 a135_24 a135_25 a135_26 a135_27 a135_28 a135_29 a135_30 a135_31 a135_32 a135_33 a135_34 a135_35 a135_36 a135_37 a135_38 a135_39 a135_40 a135_41 a135_42 a135_43 a135_44 a135_45 a135_46 a135_47 a135_48
def a121_0 : AC := .reg [⟨(some 3), (.box (.t 0)), none, 0, false, []⟩,
    ⟨(some 6), (.new [(.int .i64 0), (.int .i64 0), (.int .i64 0), (.int .i64 0), .nils]), none, 0, false, []⟩] false
def a121_1 : AC := .reg [⟨(some 9), (.load true 5 (.t 3)), none, 0, false, []⟩,
    ⟨(some 10), (.call 134 [(.t 9)]), none, 0, false, []⟩,
    ⟨(some 11), (.un .not (.t 10)), none, 0, false, []⟩,
    ⟨(some 12), (.mv (.t 11)), none, 0, false, []⟩,
    ⟨(some 13), (.mv (.t 1)), (some (12, false)), 0, false, []⟩,
    ⟨(some 14), (.bin 0 .lss (.t 13) (.c (.int .i64 0))), (some (12, false)), 0, false, []⟩,
    ⟨(some 15), (.pick (.t 12) (.c (.bool true)) (.t 14)), none, 0, false, []⟩,
    ⟨(some 16), (.mv (.t 15)), none, 0, false, []⟩,
    ⟨(some 17), (.mv (.t 2)), (some (16, false)), 0, false, []⟩,
    ⟨(some 18), (.bin 0 .lss (.t 17) (.c (.int .i64 0))), (some (16, false)), 0, false, []⟩,
    ⟨(some 19), (.pick (.t 16) (.c (.bool true)) (.t 18)), none, 0, false, []⟩] false
def a121_2 : AC := .reg [⟨(some 20), (.build [(.int .i64 0), (.int .i64 0), (.int .i64 0), (.int .i64 0), .nils] []), none, 0, false, []⟩,
    ⟨none, (.store 5 (.t 6) (.t 20)), none, 0, false, []⟩] false
def a121_3 : AC := .seq a121_2 .ret
def a121_4 : AC := .cond (.t 19) a121_3 .skip
def a121_5 : AC := .seq a121_1 a121_4
def a121_6 : AC := .reg [⟨(some 22), (.load true 5 (.t 3)), none, 0, false, []⟩,
    ⟨(some 23), (.mv (.t 1)), none, 0, false, []⟩,
    ⟨(some 24), (.mv (.t 2)), none, 0, false, []⟩,
    ⟨(some 25), (.call 135 [(.t 22), (.t 23), (.t 24)]), none, 0, false, []⟩,
    ⟨(some 21), (.mv (.t 25)), none, 0, false, []⟩,
    ⟨(some 26), (.ext (.t 21) 0), none, 0, false, []⟩,
    ⟨(some 27), (.ext (.t 21) 1), none, 0, false, []⟩,
    ⟨(some 7), (.new [(.int .i64 0), (.int .i64 0), (.int .i64 0), (.int .i64 0), .nils]), none, 0, false, []⟩,
    ⟨none, (.store 5 (.t 7) (.t 26)), none, 0, false, []⟩,
    ⟨(some 8), (.mv (.t 27)), none, 0, false, []⟩] false
def a121_7 : AC := .reg [⟨(some 28), (.mv (.t 8)), none, 0, false, []⟩,
    ⟨(some 29), (.un .not (.t 28)), none, 0, false, []⟩] false
def a121_8 : AC := .reg [⟨(some 30), (.build [(.int .i64 0), (.int .i64 0), (.int .i64 0), (.int .i64 0), .nils] []), none, 0, false, []⟩,
    ⟨none, (.store 5 (.t 6) (.t 30)), none, 0, false, []⟩] false
def a121_9 : AC := .seq a121_8 .ret
def a121_10 : AC := .cond (.t 29) a121_9 .skip
def a121_11 : AC := .seq a121_7 a121_10
def a121_12 : AC := .reg [⟨(some 31), (.load true 5 (.t 7)), none, 0, false, []⟩,
    ⟨none, (.store 5 (.t 6) (.t 31)), none, 0, false, []⟩] false
def a121_13 : AC := .seq a121_12 .ret
def a121_14 : AC := .seq a121_11 a121_13
def a121_15 : AC := .seq a121_6 a121_14
def a121_16 : AC := .seq a121_5 a121_15
def a121_17 : AC := .seq a121_0 a121_16
def af121 : AF := { ntmps := 32, res := [(.cell 6 true 5)], body := a121_17 }
theorem tr121 : trF Try.prog Try.f121 = some af121 := by kernel_rfl
attribute [go_sem] af121 a121_0 a121_1 a121_2 a121_3 a121_4 a121_5 a121_6 a121_7 a121_8 a121_9 a121_10 a121_11 a121_12 a121_13 a121_14 a121_15 a121_16 a121_17
def a133_0 : AC := .reg [⟨(some 3), (.box (.t 0)), none, 0, false, []⟩,
    ⟨(some 6), (.new [(.int .i64 0), (.int .i64 0), (.int .i64 0), (.int .i64 0), .nils]), none, 0, false, []⟩,
    ⟨(some 7), (.mv (.c (.bool false))), none, 0, false, []⟩] false
def a133_1 : AC := .reg [⟨(some 13), (.fad 0 (.t 3)), none, 0, false, []⟩,
    ⟨(some 14), (.load false 1 (.t 13)), none, 0, false, []⟩,
    ⟨(some 15), (.bin 0 .eql (.t 14) (.c (.int .i64 2))), none, 0, false, []⟩,
    ⟨(some 16), (.mv (.t 15)), none, 0, false, []⟩,
    ⟨(some 17), (.fad 1 (.t 3)), (some (16, true)), 0, false, []⟩,
    ⟨(some 18), (.load false 1 (.t 17)), (some (16, true)), 0, false, []⟩,
    ⟨(some 19), (.mv (.t 2)), (some (16, true)), 0, false, []⟩,
    ⟨(some 20), (.bin 0 .geq (.t 18) (.t 19)), (some (16, true)), 0, false, []⟩,
    ⟨(some 21), (.pick (.t 16) (.t 20) (.c (.bool false))), none, 0, false, []⟩] false
def a133_2 : AC := .reg [⟨(some 22), (.mv (.t 1)), none, 0, false, []⟩,
    ⟨(some 23), (.fad 1 (.t 3)), none, 0, false, []⟩,
    ⟨(some 24), (.load false 1 (.t 23)), none, 0, false, []⟩,
    ⟨(some 25), (.bin 0 .sub (.c (.int .i64 2147483647)) (.t 24)), none, 0, false, []⟩,
    ⟨(some 26), (.bin 0 .gtr (.t 22) (.t 25)), none, 0, false, []⟩] false
def a133_3 : AC := .reg [⟨(some 27), (.build [(.int .i64 0), (.int .i64 0), (.int .i64 0), (.int .i64 0), .nils] []), none, 0, false, []⟩,
    ⟨none, (.store 5 (.t 6) (.t 27)), none, 0, false, []⟩,
    ⟨(some 7), (.mv (.c (.bool false))), none, 0, false, []⟩] false
def a133_4 : AC := .seq a133_3 .ret
def a133_5 : AC := .cond (.t 26) a133_4 .skip
def a133_6 : AC := .seq a133_2 a133_5
def a133_7 : AC := .reg [⟨(some 28), (.fad 1 (.t 3)), none, 0, false, []⟩,
    ⟨(some 29), (.load false 1 (.t 28)), none, 0, false, []⟩,
    ⟨(some 30), (.mv (.t 1)), none, 0, false, []⟩,
    ⟨(some 31), (.bin 0 .add (.t 29) (.t 30)), none, 0, false, []⟩,
    ⟨(some 32), (.fad 1 (.t 3)), none, 0, false, []⟩,
    ⟨none, (.store 1 (.t 32) (.t 31)), none, 0, false, []⟩] false
def a133_8 : AC := .seq a133_6 a133_7
def a133_9 : AC := .cond (.t 21) a133_8 .skip
def a133_10 : AC := .seq a133_1 a133_9
def a133_11 : AC := .reg [⟨(some 33), (.fad 4 (.t 3)), none, 0, false, []⟩,
    ⟨(some 34), (.load false 1 (.t 33)), none, 0, false, []⟩,
    ⟨(some 35), (.len false (.t 34)), none, 0, false, []⟩,
    ⟨(some 36), (.bin 0 .eql (.t 35) (.c (.int .i64 0))), none, 0, false, []⟩] false
def a133_12 : AC := .reg [⟨(some 37), (.fad 4 (.t 3)), none, 0, false, []⟩,
    ⟨none, (.store 1 (.t 37) (.c .nils)), none, 0, false, []⟩] false
def a133_13 : AC := .reg [⟨(some 38), (.load true 5 (.t 3)), none, 0, false, []⟩,
    ⟨none, (.store 5 (.t 6) (.t 38)), none, 0, false, []⟩,
    ⟨(some 7), (.mv (.c (.bool true))), none, 0, false, []⟩] false
def a133_14 : AC := .seq a133_13 .ret
def a133_15 : AC := .seq a133_12 a133_14
def a133_16 : AC := .cond (.t 36) a133_15 .skip
def a133_17 : AC := .seq a133_11 a133_16
def a133_18 : AC := .reg [⟨(some 39), (.fad 4 (.t 3)), none, 0, false, []⟩,
    ⟨(some 40), (.load false 1 (.t 39)), none, 0, false, []⟩,
    ⟨(some 41), (.len false (.t 40)), none, 0, false, []⟩,
    ⟨(some 42), (.mk 5 56 [(.int .i64 0), (.int .i64 0), (.int .i64 0), (.int .i64 0), .nils] (.t 41) (.t 41)), none, 0, false, []⟩,
    ⟨(some 8), (.mv (.t 42)), none, 0, false, []⟩] false
def a133_19 : AC := .reg [⟨(some 43), (.fad 4 (.t 3)), none, 0, false, []⟩,
    ⟨(some 44), (.load false 1 (.t 43)), none, 0, false, []⟩,
    ⟨(some 45), (.len false (.t 44)), none, 0, false, []⟩,
    ⟨(some 46), (.mv (.c (.int .i64 0))), none, 0, false, []⟩] false
def a133_20 : AC := .reg [⟨(some 47), (.bin 0 .lss (.t 46) (.t 45)), none, 0, false, []⟩] false
def a133_21 : AC := .cond (.t 47) .skip (.exit 0)
def a133_22 : AC := .reg [⟨(some 48), (.mv (.t 46)), none, 0, false, []⟩,
    ⟨(some 49), (.iad 5 (.t 44) (.t 46)), none, 0, false, []⟩,
    ⟨(some 50), (.load true 5 (.t 49)), none, 0, false, []⟩,
    ⟨(some 10), (.new [(.int .i64 0), (.int .i64 0), (.int .i64 0), (.int .i64 0), .nils]), none, 0, false, []⟩,
    ⟨(some 9), (.mv (.t 48)), none, 0, false, []⟩,
    ⟨none, (.store 5 (.t 10) (.t 50)), none, 0, false, []⟩] false
def a133_23 : AC := .reg [⟨(some 52), (.load true 5 (.t 10)), none, 0, true, []⟩,
    ⟨(some 53), (.mv (.t 1)), none, 1, false, []⟩,
    ⟨(some 54), (.mv (.t 2)), none, 2, false, []⟩,
    ⟨(some 55), (.fad 0 (.t 3)), none, 3, false, []⟩,
    ⟨(some 56), (.load false 1 (.t 55)), none, 4, true, []⟩,
    ⟨(some 57), (.mv (.t 9)), none, 5, false, []⟩,
    ⟨(some 58), (.call 141 [(.t 56), (.t 57)]), none, 6, true, [0]⟩,
    ⟨(some 59), (.bin 0 .add (.t 54) (.t 58)), none, 7, false, []⟩,
    ⟨(some 60), (.call 133 [(.t 52), (.t 53), (.t 59)]), none, 8, true, []⟩,
    ⟨(some 51), (.mv (.t 60)), none, 9, false, []⟩,
    ⟨(some 61), (.ext (.t 51) 0), none, 10, false, []⟩,
    ⟨(some 62), (.ext (.t 51) 1), none, 11, false, []⟩,
    ⟨(some 11), (.new [(.int .i64 0), (.int .i64 0), (.int .i64 0), (.int .i64 0), .nils]), none, 12, false, [0, 4, 6, 8]⟩,
    ⟨none, (.store 5 (.t 11) (.t 61)), none, 13, false, []⟩,
    ⟨(some 12), (.mv (.t 62)), none, 14, false, []⟩] true
def a133_24 : AC := .reg [⟨(some 63), (.mv (.t 12)), none, 0, false, []⟩,
    ⟨(some 64), (.un .not (.t 63)), none, 0, false, []⟩] false
def a133_25 : AC := .reg [⟨(some 65), (.build [(.int .i64 0), (.int .i64 0), (.int .i64 0), (.int .i64 0), .nils] []), none, 0, false, []⟩,
    ⟨none, (.store 5 (.t 6) (.t 65)), none, 0, false, []⟩,
    ⟨(some 7), (.mv (.c (.bool false))), none, 0, false, []⟩] false
def a133_26 : AC := .seq a133_25 .ret
def a133_27 : AC := .cond (.t 64) a133_26 .skip
def a133_28 : AC := .seq a133_24 a133_27
def a133_29 : AC := .reg [⟨(some 66), (.mv (.t 8)), none, 0, false, []⟩,
    ⟨(some 67), (.mv (.t 9)), none, 0, false, []⟩,
    ⟨(some 68), (.load true 5 (.t 11)), none, 0, false, []⟩,
    ⟨(some 69), (.iad 5 (.t 66) (.t 67)), none, 0, false, []⟩,
    ⟨none, (.store 5 (.t 69) (.t 68)), none, 0, false, []⟩] false
def a133_30 : AC := .seq a133_28 a133_29
def a133_31 : AC := .seq a133_23 a133_30
def a133_32 : AC := .seq a133_22 a133_31
def a133_33 : AC := .blk 1 a133_32
def a133_34 : AC := .reg [⟨(some 70), (.bin 0 .add (.t 46) (.c (.int .i64 1))), none, 0, false, []⟩,
    ⟨(some 46), (.mv (.t 70)), none, 0, false, []⟩] false
def a133_35 : AC := .seq a133_33 a133_34
def a133_36 : AC := .seq a133_21 a133_35
def a133_37 : AC := .seq a133_20 a133_36
def a133_38 : AC := .loop a133_37
def a133_39 : AC := .blk 0 a133_38
def a133_40 : AC := .seq a133_19 a133_39
def a133_41 : AC := .reg [⟨(some 71), (.mv (.t 8)), none, 0, false, []⟩,
    ⟨(some 72), (.fad 4 (.t 3)), none, 0, false, []⟩,
    ⟨none, (.store 1 (.t 72) (.t 71)), none, 0, false, []⟩] false
def a133_42 : AC := .reg [⟨(some 73), (.load true 5 (.t 3)), none, 0, false, []⟩,
    ⟨none, (.store 5 (.t 6) (.t 73)), none, 0, false, []⟩,
    ⟨(some 7), (.mv (.c (.bool true))), none, 0, false, []⟩] false
def a133_43 : AC := .seq a133_42 .ret
def a133_44 : AC := .seq a133_41 a133_43
def a133_45 : AC := .seq a133_40 a133_44
def a133_46 : AC := .seq a133_18 a133_45
def a133_47 : AC := .seq a133_17 a133_46
def a133_48 : AC := .seq a133_10 a133_47
def a133_49 : AC := .seq a133_0 a133_48
def af133 : AF := { ntmps := 74, res := [(.cell 6 true 5), (.t 7)], body := a133_49 }
theorem tr133 : trF Try.prog Try.f133 = some af133 := by kernel_rfl
attribute [go_sem] af133 a133_0 a133_1 a133_2 a133_3 a133_4 a133_5 a133_6 a133_7 a133_8 a133_9 a133_10 a133_11 a133_12 a133_13 a133_14 a133_15 a133_16 a133_17 a133_18 a133_19 a133_20 a133_21 a133_22 a133_23 a133_24 a133_25 a133_26 a133_27 a133_28 a133_29 a133_30 a133_31 a133_32 a133_33 a133_34 a133_35 a133_36 a133_37 a133_38 a133_39 a133_40 a133_41 a133_42 a133_43 a133_44 a133_45 a133_46 a133_47 a133_48 a133_49
def a120_0 : AC := .reg [⟨(some 3), (.box (.t 0)), none, 0, false, []⟩,
    ⟨(some 6), (.new [(.int .i64 0), (.int .i64 0), (.int .i64 0), (.int .i64 0), .nils]), none, 0, false, []⟩] false
def a120_1 : AC := .reg [⟨(some 9), (.mv (.t 1)), none, 0, false, []⟩,
    ⟨(some 10), (.bin 0 .lss (.t 9) (.c (.int .i64 0))), none, 0, false, []⟩,
    ⟨(some 11), (.mv (.t 10)), none, 0, false, []⟩,
    ⟨(some 12), (.mv (.t 2)), (some (11, false)), 0, false, []⟩,
    ⟨(some 13), (.bin 0 .lss (.t 12) (.c (.int .i64 0))), (some (11, false)), 0, false, []⟩,
    ⟨(some 14), (.pick (.t 11) (.c (.bool true)) (.t 13)), none, 0, false, []⟩,
    ⟨(some 15), (.mv (.t 14)), none, 0, false, []⟩,
    ⟨(some 16), (.load true 5 (.t 3)), (some (15, false)), 0, false, []⟩,
    ⟨(some 17), (.call 132 [(.t 16)]), (some (15, false)), 0, false, []⟩,
    ⟨(some 18), (.un .not (.t 17)), (some (15, false)), 0, false, []⟩,
    ⟨(some 19), (.pick (.t 15) (.c (.bool true)) (.t 18)), none, 0, false, []⟩] false
def a120_2 : AC := .reg [⟨(some 20), (.build [(.int .i64 0), (.int .i64 0), (.int .i64 0), (.int .i64 0), .nils] []), none, 0, false, []⟩,
    ⟨none, (.store 5 (.t 6) (.t 20)), none, 0, false, []⟩] false
def a120_3 : AC := .seq a120_2 .ret
def a120_4 : AC := .cond (.t 19) a120_3 .skip
def a120_5 : AC := .seq a120_1 a120_4
def a120_6 : AC := .reg [⟨(some 22), (.load true 5 (.t 3)), none, 0, false, []⟩,
    ⟨(some 23), (.mv (.t 1)), none, 0, false, []⟩,
    ⟨(some 24), (.mv (.t 2)), none, 0, false, []⟩,
    ⟨(some 25), (.mnx false (.t 24) (.c (.int .i64 2147483648))), none, 0, false, []⟩,
    ⟨(some 26), (.call 133 [(.t 22), (.t 23), (.t 25)]), none, 0, false, []⟩,
    ⟨(some 21), (.mv (.t 26)), none, 0, false, []⟩,
    ⟨(some 27), (.ext (.t 21) 0), none, 0, false, []⟩,
    ⟨(some 28), (.ext (.t 21) 1), none, 0, false, []⟩,
    ⟨(some 7), (.new [(.int .i64 0), (.int .i64 0), (.int .i64 0), (.int .i64 0), .nils]), none, 0, false, []⟩,
    ⟨none, (.store 5 (.t 7) (.t 27)), none, 0, false, []⟩,
    ⟨(some 8), (.mv (.t 28)), none, 0, false, []⟩] false
def a120_7 : AC := .reg [⟨(some 29), (.mv (.t 8)), none, 0, false, []⟩,
    ⟨(some 30), (.un .not (.t 29)), none, 0, false, []⟩] false
def a120_8 : AC := .reg [⟨(some 31), (.build [(.int .i64 0), (.int .i64 0), (.int .i64 0), (.int .i64 0), .nils] []), none, 0, false, []⟩,
    ⟨none, (.store 5 (.t 6) (.t 31)), none, 0, false, []⟩] false
def a120_9 : AC := .seq a120_8 .ret
def a120_10 : AC := .cond (.t 30) a120_9 .skip
def a120_11 : AC := .seq a120_7 a120_10
def a120_12 : AC := .reg [⟨(some 32), (.load true 5 (.t 7)), none, 0, false, []⟩,
    ⟨none, (.store 5 (.t 6) (.t 32)), none, 0, false, []⟩] false
def a120_13 : AC := .seq a120_12 .ret
def a120_14 : AC := .seq a120_11 a120_13
def a120_15 : AC := .seq a120_6 a120_14
def a120_16 : AC := .seq a120_5 a120_15
def a120_17 : AC := .seq a120_0 a120_16
def af120 : AF := { ntmps := 33, res := [(.cell 6 true 5)], body := a120_17 }
theorem tr120 : trF Try.prog Try.f120 = some af120 := by kernel_rfl
attribute [go_sem] af120 a120_0 a120_1 a120_2 a120_3 a120_4 a120_5 a120_6 a120_7 a120_8 a120_9 a120_10 a120_11 a120_12 a120_13 a120_14 a120_15 a120_16 a120_17
def a141_0 : AC := .reg [⟨(some 4), (.mv (.c (.int .i64 0))), none, 0, false, []⟩] false
def a141_1 : AC := .reg [⟨(some 5), (.mv (.t 0)), none, 0, false, []⟩] false
def a141_2 : AC := .reg [⟨(some 7), (.bin 0 .eql (.t 5) (.c (.int .i64 3))), none, 0, false, []⟩,
    ⟨(some 6), (.mv (.t 7)), none, 0, false, []⟩] false
def a141_3 : AC := .reg [⟨(some 8), (.bin 0 .eql (.t 5) (.c (.int .i64 5))), none, 0, false, []⟩,
    ⟨(some 6), (.mv (.t 8)), none, 0, false, []⟩] false
def a141_4 : AC := .reg [⟨(some 9), (.bin 0 .eql (.t 5) (.c (.int .i64 6))), none, 0, false, []⟩,
    ⟨(some 6), (.mv (.t 9)), none, 0, false, []⟩] false
def a141_5 : AC := .reg [⟨(some 10), (.bin 0 .eql (.t 5) (.c (.int .i64 7))), none, 0, false, []⟩,
    ⟨(some 6), (.mv (.t 10)), none, 0, false, []⟩] false
def a141_6 : AC := .reg [⟨(some 11), (.bin 0 .eql (.t 5) (.c (.int .i64 8))), none, 0, false, []⟩,
    ⟨(some 6), (.mv (.t 11)), none, 0, false, []⟩] false
def a141_7 : AC := .reg [⟨(some 12), (.bin 0 .eql (.t 5) (.c (.int .i64 9))), none, 0, false, []⟩,
    ⟨(some 6), (.mv (.t 12)), none, 0, false, []⟩] false
def a141_8 : AC := .reg [⟨(some 13), (.bin 0 .eql (.t 5) (.c (.int .i64 13))), none, 0, false, []⟩,
    ⟨(some 6), (.mv (.t 13)), none, 0, false, []⟩] false
def a141_9 : AC := .reg [⟨(some 14), (.bin 0 .eql (.t 5) (.c (.int .i64 14))), none, 0, false, []⟩,
    ⟨(some 6), (.mv (.t 14)), none, 0, false, []⟩] false
def a141_10 : AC := .reg [⟨(some 15), (.bin 0 .eql (.t 5) (.c (.int .i64 16))), none, 0, false, []⟩,
    ⟨(some 6), (.mv (.t 15)), none, 0, false, []⟩] false
def a141_11 : AC := .reg [⟨(some 16), (.bin 0 .eql (.t 5) (.c (.int .i64 17))), none, 0, false, []⟩,
    ⟨(some 6), (.mv (.t 16)), none, 0, false, []⟩] false
def a141_12 : AC := .cond (.t 6) .skip a141_11
def a141_13 : AC := .seq a141_10 a141_12
def a141_14 : AC := .cond (.t 6) .skip a141_13
def a141_15 : AC := .seq a141_9 a141_14
def a141_16 : AC := .cond (.t 6) .skip a141_15
def a141_17 : AC := .seq a141_8 a141_16
def a141_18 : AC := .cond (.t 6) .skip a141_17
def a141_19 : AC := .seq a141_7 a141_18
def a141_20 : AC := .cond (.t 6) .skip a141_19
def a141_21 : AC := .seq a141_6 a141_20
def a141_22 : AC := .cond (.t 6) .skip a141_21
def a141_23 : AC := .seq a141_5 a141_22
def a141_24 : AC := .cond (.t 6) .skip a141_23
def a141_25 : AC := .seq a141_4 a141_24
def a141_26 : AC := .cond (.t 6) .skip a141_25
def a141_27 : AC := .seq a141_3 a141_26
def a141_28 : AC := .cond (.t 6) .skip a141_27
def a141_29 : AC := .seq a141_2 a141_28
def a141_30 : AC := .reg [⟨(some 17), (.mv (.t 1)), none, 0, false, []⟩,
    ⟨(some 18), (.bin 0 .eql (.t 17) (.c (.int .i64 1))), none, 0, false, []⟩] false
def a141_31 : AC := .reg [⟨(some 4), (.mv (.c (.int .i64 1))), none, 0, false, []⟩] false
def a141_32 : AC := .seq a141_31 .ret
def a141_33 : AC := .cond (.t 18) a141_32 .skip
def a141_34 : AC := .seq a141_30 a141_33
def a141_35 : AC := .reg [⟨(some 20), (.bin 0 .eql (.t 5) (.c (.int .i64 4))), none, 0, false, []⟩,
    ⟨(some 19), (.mv (.t 20)), none, 0, false, []⟩] false
def a141_36 : AC := .reg [⟨(some 21), (.mv (.t 1)), none, 0, false, []⟩,
    ⟨(some 22), (.bin 0 .eql (.t 21) (.c (.int .i64 1))), none, 0, false, []⟩,
    ⟨(some 23), (.mv (.t 22)), none, 0, false, []⟩,
    ⟨(some 24), (.mv (.t 1)), (some (23, false)), 0, false, []⟩,
    ⟨(some 25), (.bin 0 .eql (.t 24) (.c (.int .i64 2))), (some (23, false)), 0, false, []⟩,
    ⟨(some 26), (.pick (.t 23) (.c (.bool true)) (.t 25)), none, 0, false, []⟩] false
def a141_37 : AC := .reg [⟨(some 4), (.mv (.c (.int .i64 1))), none, 0, false, []⟩] false
def a141_38 : AC := .seq a141_37 .ret
def a141_39 : AC := .cond (.t 26) a141_38 .skip
def a141_40 : AC := .seq a141_36 a141_39
def a141_41 : AC := .reg [⟨(some 28), (.bin 0 .eql (.t 5) (.c (.int .i64 22))), none, 0, false, []⟩,
    ⟨(some 27), (.mv (.t 28)), none, 0, false, []⟩] false
def a141_42 : AC := .reg [⟨(some 29), (.mv (.t 1)), none, 0, false, []⟩,
    ⟨(some 30), (.bin 0 .eql (.t 29) (.c (.int .i64 2))), none, 0, false, []⟩] false
def a141_43 : AC := .reg [⟨(some 4), (.mv (.c (.int .i64 2))), none, 0, false, []⟩] false
def a141_44 : AC := .seq a141_43 .ret
def a141_45 : AC := .cond (.t 30) a141_44 .skip
def a141_46 : AC := .seq a141_42 a141_45
def a141_47 : AC := .cond (.t 27) a141_46 .skip
def a141_48 : AC := .seq a141_41 a141_47
def a141_49 : AC := .cond (.t 19) a141_40 a141_48
def a141_50 : AC := .seq a141_35 a141_49
def a141_51 : AC := .cond (.t 6) a141_34 a141_50
def a141_52 : AC := .seq a141_29 a141_51
def a141_53 : AC := .blk 0 a141_52
def a141_54 : AC := .seq a141_1 a141_53
def a141_55 : AC := .reg [⟨(some 4), (.mv (.c (.int .i64 0))), none, 0, false, []⟩] false
def a141_56 : AC := .seq a141_55 .ret
def a141_57 : AC := .seq a141_54 a141_56
def a141_58 : AC := .seq a141_0 a141_57
def af141 : AF := { ntmps := 31, res := [(.t 4)], body := a141_58 }
theorem tr141 : trF Try.prog Try.f141 = some af141 := by kernel_rfl
attribute [go_sem] af141 a141_0 a141_1 a141_2 a141_3 a141_4 a141_5 a141_6 a141_7 a141_8 a141_9 a141_10 a141_11 a141_12 a141_13 a141_14 a141_15 a141_16 a141_17 a141_18 a141_19 a141_20 a141_21 a141_22 a141_23 a141_24 a141_25 a141_26 a141_27 a141_28 a141_29 a141_30 a141_31 a141_32 a141_33 a141_34 a141_35 a141_36 a141_37 a141_38 a141_39 a141_40 a141_41 a141_42 a141_43 a141_44 a141_45 a141_46 a141_47 a141_48 a141_49 a141_50 a141_51 a141_52 a141_53 a141_54 a141_55 a141_56 a141_57 a141_58
def a143_0 : AC := .reg [⟨(some 4), (.mv (.c (.int .i64 0))), none, 0, false, []⟩] false
def a143_1 : AC := .reg [⟨(some 5), (.mv (.t 0)), none, 0, false, []⟩] false
def a143_2 : AC := .reg [⟨(some 7), (.bin 0 .eql (.t 5) (.c (.int .i64 3))), none, 0, false, []⟩,
    ⟨(some 6), (.mv (.t 7)), none, 0, false, []⟩] false
def a143_3 : AC := .reg [⟨(some 8), (.bin 0 .eql (.t 5) (.c (.int .i64 5))), none, 0, false, []⟩,
    ⟨(some 6), (.mv (.t 8)), none, 0, false, []⟩] false
def a143_4 : AC := .reg [⟨(some 9), (.bin 0 .eql (.t 5) (.c (.int .i64 6))), none, 0, false, []⟩,
    ⟨(some 6), (.mv (.t 9)), none, 0, false, []⟩] false
def a143_5 : AC := .reg [⟨(some 10), (.bin 0 .eql (.t 5) (.c (.int .i64 7))), none, 0, false, []⟩,
    ⟨(some 6), (.mv (.t 10)), none, 0, false, []⟩] false
def a143_6 : AC := .reg [⟨(some 11), (.bin 0 .eql (.t 5) (.c (.int .i64 8))), none, 0, false, []⟩,
    ⟨(some 6), (.mv (.t 11)), none, 0, false, []⟩] false
def a143_7 : AC := .reg [⟨(some 12), (.bin 0 .eql (.t 5) (.c (.int .i64 9))), none, 0, false, []⟩,
    ⟨(some 6), (.mv (.t 12)), none, 0, false, []⟩] false
def a143_8 : AC := .reg [⟨(some 13), (.bin 0 .eql (.t 5) (.c (.int .i64 13))), none, 0, false, []⟩,
    ⟨(some 6), (.mv (.t 13)), none, 0, false, []⟩] false
def a143_9 : AC := .reg [⟨(some 14), (.bin 0 .eql (.t 5) (.c (.int .i64 14))), none, 0, false, []⟩,
    ⟨(some 6), (.mv (.t 14)), none, 0, false, []⟩] false
def a143_10 : AC := .reg [⟨(some 15), (.bin 0 .eql (.t 5) (.c (.int .i64 16))), none, 0, false, []⟩,
    ⟨(some 6), (.mv (.t 15)), none, 0, false, []⟩] false
def a143_11 : AC := .reg [⟨(some 16), (.bin 0 .eql (.t 5) (.c (.int .i64 17))), none, 0, false, []⟩,
    ⟨(some 6), (.mv (.t 16)), none, 0, false, []⟩] false
def a143_12 : AC := .cond (.t 6) .skip a143_11
def a143_13 : AC := .seq a143_10 a143_12
def a143_14 : AC := .cond (.t 6) .skip a143_13
def a143_15 : AC := .seq a143_9 a143_14
def a143_16 : AC := .cond (.t 6) .skip a143_15
def a143_17 : AC := .seq a143_8 a143_16
def a143_18 : AC := .cond (.t 6) .skip a143_17
def a143_19 : AC := .seq a143_7 a143_18
def a143_20 : AC := .cond (.t 6) .skip a143_19
def a143_21 : AC := .seq a143_6 a143_20
def a143_22 : AC := .cond (.t 6) .skip a143_21
def a143_23 : AC := .seq a143_5 a143_22
def a143_24 : AC := .cond (.t 6) .skip a143_23
def a143_25 : AC := .seq a143_4 a143_24
def a143_26 : AC := .cond (.t 6) .skip a143_25
def a143_27 : AC := .seq a143_3 a143_26
def a143_28 : AC := .cond (.t 6) .skip a143_27
def a143_29 : AC := .seq a143_2 a143_28
def a143_30 : AC := .reg [⟨(some 17), (.mv (.t 1)), none, 0, false, []⟩,
    ⟨(some 18), (.bin 0 .eql (.t 17) (.c (.int .i64 1))), none, 0, false, []⟩] false
def a143_31 : AC := .reg [⟨(some 4), (.mv (.c (.int .i64 1))), none, 0, false, []⟩] false
def a143_32 : AC := .seq a143_31 .ret
def a143_33 : AC := .cond (.t 18) a143_32 .skip
def a143_34 : AC := .seq a143_30 a143_33
def a143_35 : AC := .reg [⟨(some 20), (.bin 0 .eql (.t 5) (.c (.int .i64 4))), none, 0, false, []⟩,
    ⟨(some 19), (.mv (.t 20)), none, 0, false, []⟩] false
def a143_36 : AC := .reg [⟨(some 21), (.mv (.t 1)), none, 0, false, []⟩,
    ⟨(some 22), (.bin 0 .eql (.t 21) (.c (.int .i64 1))), none, 0, false, []⟩,
    ⟨(some 23), (.mv (.t 22)), none, 0, false, []⟩,
    ⟨(some 24), (.mv (.t 1)), (some (23, false)), 0, false, []⟩,
    ⟨(some 25), (.bin 0 .eql (.t 24) (.c (.int .i64 2))), (some (23, false)), 0, false, []⟩,
    ⟨(some 26), (.pick (.t 23) (.c (.bool true)) (.t 25)), none, 0, false, []⟩] false
def a143_37 : AC := .reg [⟨(some 4), (.mv (.c (.int .i64 1))), none, 0, false, []⟩] false
def a143_38 : AC := .seq a143_37 .ret
def a143_39 : AC := .cond (.t 26) a143_38 .skip
def a143_40 : AC := .seq a143_36 a143_39
def a143_41 : AC := .reg [⟨(some 28), (.bin 0 .eql (.t 5) (.c (.int .i64 22))), none, 0, false, []⟩,
    ⟨(some 27), (.mv (.t 28)), none, 0, false, []⟩] false
def a143_42 : AC := .reg [⟨(some 29), (.mv (.t 1)), none, 0, false, []⟩,
    ⟨(some 30), (.bin 0 .eql (.t 29) (.c (.int .i64 2))), none, 0, false, []⟩] false
def a143_43 : AC := .reg [⟨(some 4), (.mv (.c (.int .i64 2))), none, 0, false, []⟩] false
def a143_44 : AC := .seq a143_43 .ret
def a143_45 : AC := .cond (.t 30) a143_44 .skip
def a143_46 : AC := .seq a143_42 a143_45
def a143_47 : AC := .cond (.t 27) a143_46 .skip
def a143_48 : AC := .seq a143_41 a143_47
def a143_49 : AC := .cond (.t 19) a143_40 a143_48
def a143_50 : AC := .seq a143_35 a143_49
def a143_51 : AC := .cond (.t 6) a143_34 a143_50
def a143_52 : AC := .seq a143_29 a143_51
def a143_53 : AC := .blk 0 a143_52
def a143_54 : AC := .seq a143_1 a143_53
def a143_55 : AC := .reg [⟨(some 4), (.mv (.c (.int .i64 0))), none, 0, false, []⟩] false
def a143_56 : AC := .seq a143_55 .ret
def a143_57 : AC := .seq a143_54 a143_56
def a143_58 : AC := .seq a143_0 a143_57
def af143 : AF := { ntmps := 31, res := [(.t 4)], body := a143_58 }
theorem tr143 : trF Try.prog Try.f143 = some af143 := by kernel_rfl
attribute [go_sem] af143 a143_0 a143_1 a143_2 a143_3 a143_4 a143_5 a143_6 a143_7 a143_8 a143_9 a143_10 a143_11 a143_12 a143_13 a143_14 a143_15 a143_16 a143_17 a143_18 a143_19 a143_20 a143_21 a143_22 a143_23 a143_24 a143_25 a143_26 a143_27 a143_28 a143_29 a143_30 a143_31 a143_32 a143_33 a143_34 a143_35 a143_36 a143_37 a143_38 a143_39 a143_40 a143_41 a143_42 a143_43 a143_44 a143_45 a143_46 a143_47 a143_48 a143_49 a143_50 a143_51 a143_52 a143_53 a143_54 a143_55 a143_56 a143_57 a143_58
def a31_0 : AC := .reg [⟨(some 4), (.box (.t 1)), none, 0, false, []⟩,
    ⟨(some 5), (.box (.t 2)), none, 0, false, []⟩,
    ⟨(some 6), (.new [(.int .i64 0), (.int .i64 0), (.int .i64 0), (.int .i64 0), .nils]), none, 0, false, []⟩] false
def a31_1 : AC := .reg [⟨(some 7), (.mv (.t 0)), none, 0, false, []⟩,
    ⟨(some 8), (.call 88 [(.t 7)]), none, 0, false, []⟩,
    ⟨(some 9), (.un .not (.t 8)), none, 0, false, []⟩,
    ⟨(some 10), (.mv (.t 9)), none, 0, false, []⟩,
    ⟨(some 11), (.load true 5 (.t 4)), (some (10, false)), 0, false, []⟩,
    ⟨(some 12), (.load true 5 (.t 5)), (some (10, false)), 0, false, []⟩,
    ⟨(some 13), (.bslice 5 [(.t 11), (.t 12)]), (some (10, false)), 0, false, []⟩,
    ⟨(some 14), (.call 89 [(.t 13)]), (some (10, false)), 0, false, []⟩,
    ⟨(some 15), (.un .not (.t 14)), (some (10, false)), 0, false, []⟩,
    ⟨(some 16), (.pick (.t 10) (.c (.bool true)) (.t 15)), none, 0, false, []⟩] false
def a31_2 : AC := .reg [⟨(some 17), (.build [(.int .i64 0), (.int .i64 0), (.int .i64 0), (.int .i64 0), .nils] []), none, 0, false, []⟩,
    ⟨none, (.store 5 (.t 6) (.t 17)), none, 0, false, []⟩] false
def a31_3 : AC := .seq a31_2 .ret
def a31_4 : AC := .cond (.t 16) a31_3 .skip
def a31_5 : AC := .seq a31_1 a31_4
def a31_6 : AC := .reg [⟨(some 18), (.mv (.t 0)), none, 0, false, []⟩,
    ⟨(some 19), (.load true 5 (.t 4)), none, 0, false, []⟩,
    ⟨(some 20), (.load true 5 (.t 5)), none, 0, false, []⟩,
    ⟨(some 21), (.call 91 [(.t 18), (.t 19), (.t 20)]), none, 0, false, []⟩,
    ⟨(some 22), (.call 90 [(.t 21)]), none, 0, false, []⟩,
    ⟨none, (.store 5 (.t 6) (.t 22)), none, 0, false, []⟩] false
def a31_7 : AC := .seq a31_6 .ret
def a31_8 : AC := .seq a31_5 a31_7
def a31_9 : AC := .seq a31_0 a31_8
def af31 : AF := { ntmps := 23, res := [(.cell 6 true 5)], body := a31_9 }
theorem tr31 : trF Try.prog Try.f31 = some af31 := by kernel_rfl
attribute [go_sem] af31 a31_0 a31_1 a31_2 a31_3 a31_4 a31_5 a31_6 a31_7 a31_8 a31_9
def a37_0 : AC := .reg [⟨(some 1), (.box (.t 0)), none, 0, false, []⟩,
    ⟨(some 2), (.new [(.int .i64 0), (.int .i64 0), (.int .i64 0), (.int .i64 0), .nils]), none, 0, false, []⟩] false
def a37_1 : AC := .reg [⟨(some 3), (.load true 26 (.t 1)), none, 0, false, []⟩,
    ⟨(some 4), (.call 58 [(.t 3)]), none, 0, false, []⟩,
    ⟨(some 5), (.un .not (.t 4)), none, 0, false, []⟩] false
def a37_2 : AC := .reg [⟨(some 6), (.build [(.int .i64 0), (.int .i64 0), (.int .i64 0), (.int .i64 0), .nils] []), none, 0, false, []⟩,
    ⟨none, (.store 5 (.t 2) (.t 6)), none, 0, false, []⟩] false
def a37_3 : AC := .seq a37_2 .ret
def a37_4 : AC := .cond (.t 5) a37_3 .skip
def a37_5 : AC := .seq a37_1 a37_4
def a37_6 : AC := .reg [⟨(some 7), (.fad 0 (.t 1)), none, 0, false, []⟩,
    ⟨(some 8), (.load false 1 (.t 7)), none, 0, false, []⟩,
    ⟨(some 9), (.fad 1 (.t 1)), none, 0, false, []⟩,
    ⟨(some 10), (.load true 5 (.t 9)), none, 0, false, []⟩,
    ⟨(some 11), (.fad 6 (.t 1)), none, 0, false, []⟩,
    ⟨(some 12), (.load true 5 (.t 11)), none, 0, false, []⟩,
    ⟨(some 13), (.fad 11 (.t 1)), none, 0, false, []⟩,
    ⟨(some 14), (.load true 5 (.t 13)), none, 0, false, []⟩,
    ⟨(some 15), (.fad 16 (.t 1)), none, 0, false, []⟩,
    ⟨(some 16), (.load true 5 (.t 15)), none, 0, false, []⟩,
    ⟨(some 17), (.bslice 5 [(.t 10), (.t 12), (.t 14), (.t 16)]), none, 0, false, []⟩,
    ⟨(some 18), (.call 102 [(.c (.int .i64 6)), (.t 8), (.c (.int .i64 0)), (.t 17)]), none, 0, false, []⟩,
    ⟨none, (.store 5 (.t 2) (.t 18)), none, 0, false, []⟩] false
def a37_7 : AC := .seq a37_6 .ret
def a37_8 : AC := .seq a37_5 a37_7
def a37_9 : AC := .seq a37_0 a37_8
def af37 : AF := { ntmps := 19, res := [(.cell 2 true 5)], body := a37_9 }
theorem tr37 : trF Try.prog Try.f37 = some af37 := by kernel_rfl
attribute [go_sem] af37 a37_0 a37_1 a37_2 a37_3 a37_4 a37_5 a37_6 a37_7 a37_8 a37_9
def a66_0 : AC := .reg [⟨(some 4), (.box (.t 1)), none, 0, false, []⟩,
    ⟨(some 5), (.box (.t 2)), none, 0, false, []⟩,
    ⟨(some 6), (.new [(.int .i64 0), (.int .i64 0), (.int .i64 0), (.int .i64 0), (.int .i64 0), .nils, (.int .i64 0), (.int .i64 0), (.int .i64 0), (.int .i64 0), .nils, (.int .i64 0), (.int .i64 0), (.int .i64 0), (.int .i64 0), .nils, (.int .i64 0), (.int .i64 0), (.int .i64 0), (.int .i64 0), .nils, (.int .i64 0), (.int .i64 0), (.int .i64 0), (.int .i64 0), .nils]), none, 0, false, []⟩] false
def a66_1 : AC := .reg [⟨(some 7), (.mv (.t 0)), none, 0, false, []⟩,
    ⟨(some 8), (.call 92 [(.t 7), (.c (.int .i64 2))]), none, 0, false, []⟩,
    ⟨(some 9), (.un .not (.t 8)), none, 0, false, []⟩,
    ⟨(some 10), (.mv (.t 9)), none, 0, false, []⟩,
    ⟨(some 11), (.load true 5 (.t 4)), (some (10, false)), 0, false, []⟩,
    ⟨(some 12), (.load true 5 (.t 5)), (some (10, false)), 0, false, []⟩,
    ⟨(some 13), (.bslice 5 [(.t 11), (.t 12)]), (some (10, false)), 0, false, []⟩,
    ⟨(some 14), (.call 93 [(.t 13)]), (some (10, false)), 0, false, []⟩,
    ⟨(some 15), (.un .not (.t 14)), (some (10, false)), 0, false, []⟩,
    ⟨(some 16), (.pick (.t 10) (.c (.bool true)) (.t 15)), none, 0, false, []⟩] false
def a66_2 : AC := .reg [⟨(some 17), (.build [(.int .i64 0), (.int .i64 0), (.int .i64 0), (.int .i64 0), (.int .i64 0), .nils, (.int .i64 0), (.int .i64 0), (.int .i64 0), (.int .i64 0), .nils, (.int .i64 0), (.int .i64 0), (.int .i64 0), (.int .i64 0), .nils, (.int .i64 0), (.int .i64 0), (.int .i64 0), (.int .i64 0), .nils, (.int .i64 0), (.int .i64 0), (.int .i64 0), (.int .i64 0), .nils] []), none, 0, false, []⟩,
    ⟨none, (.store 26 (.t 6) (.t 17)), none, 0, false, []⟩] false
def a66_3 : AC := .seq a66_2 .ret
def a66_4 : AC := .cond (.t 16) a66_3 .skip
def a66_5 : AC := .seq a66_1 a66_4
def a66_6 : AC := .reg [⟨(some 18), (.mv (.t 0)), none, 0, false, []⟩,
    ⟨(some 19), (.load true 5 (.t 4)), none, 1, true, []⟩,
    ⟨(some 20), (.load true 5 (.t 4)), none, 2, true, []⟩,
    ⟨(some 21), (.load true 5 (.t 5)), none, 3, true, []⟩,
    ⟨(some 22), (.load true 5 (.t 5)), none, 4, true, []⟩,
    ⟨(some 23), (.mv (.t 0)), none, 5, false, []⟩,
    ⟨(some 24), (.call 34 [(.t 23)]), none, 6, true, [1, 2, 3, 4]⟩,
    ⟨(some 25), (.mv (.t 0)), none, 7, false, []⟩,
    ⟨(some 26), (.load true 5 (.t 4)), none, 8, false, [6]⟩,
    ⟨(some 27), (.load true 5 (.t 5)), none, 9, false, [6]⟩,
    ⟨(some 28), (.call 32 [(.t 25), (.t 26), (.t 27)]), none, 10, false, [1, 2, 3, 4]⟩,
    ⟨(some 29), (.bslice 5 [(.t 24), (.t 28)]), none, 11, false, [1, 2, 3, 4]⟩,
    ⟨(some 30), (.call 94 [(.c (.int .i64 21)), (.t 29)]), none, 12, false, [1, 2, 3, 4]⟩,
    ⟨(some 31), (.build [(.int .i64 0), (.int .i64 0), (.int .i64 0), (.int .i64 0), (.int .i64 0), .nils, (.int .i64 0), (.int .i64 0), (.int .i64 0), (.int .i64 0), .nils, (.int .i64 0), (.int .i64 0), (.int .i64 0), (.int .i64 0), .nils, (.int .i64 0), (.int .i64 0), (.int .i64 0), (.int .i64 0), .nils, (.int .i64 0), (.int .i64 0), (.int .i64 0), (.int .i64 0), .nils] [(0, (1, (.t 18))), (1, (5, (.t 19))), (6, (5, (.t 20))), (11, (5, (.t 21))), (16, (5, (.t 22))), (21, (5, (.t 30)))]), none, 13, false, []⟩,
    ⟨none, (.store 26 (.t 6) (.t 31)), none, 14, false, []⟩] true
def a66_7 : AC := .seq a66_6 .ret
def a66_8 : AC := .seq a66_5 a66_7
def a66_9 : AC := .seq a66_0 a66_8
def af66 : AF := { ntmps := 32, res := [(.cell 6 true 26)], body := a66_9 }
theorem tr66 : trF Try.prog Try.f66 = some af66 := by kernel_rfl
attribute [go_sem] af66 a66_0 a66_1 a66_2 a66_3 a66_4 a66_5 a66_6 a66_7 a66_8 a66_9
def a59_0 : AC := .reg [⟨(some 1), (.box (.t 0)), none, 0, false, []⟩,
    ⟨(some 2), (.new [(.int .i64 0), (.int .i64 0), (.int .i64 0), (.int .i64 0), (.int .i64 0), .nils, (.int .i64 0), (.int .i64 0), (.int .i64 0), (.int .i64 0), .nils, (.int .i64 0), (.int .i64 0), (.int .i64 0), (.int .i64 0), .nils, (.int .i64 0), (.int .i64 0), (.int .i64 0), (.int .i64 0), .nils, (.int .i64 0), (.int .i64 0), (.int .i64 0), (.int .i64 0), .nils]), none, 0, false, []⟩] false
def a59_1 : AC := .reg [⟨(some 3), (.load true 26 (.t 1)), none, 0, false, []⟩,
    ⟨(some 4), (.call 100 [(.t 3)]), none, 0, false, []⟩,
    ⟨(some 5), (.un .not (.t 4)), none, 0, false, []⟩] false
def a59_2 : AC := .reg [⟨(some 6), (.build [(.int .i64 0), (.int .i64 0), (.int .i64 0), (.int .i64 0), (.int .i64 0), .nils, (.int .i64 0), (.int .i64 0), (.int .i64 0), (.int .i64 0), .nils, (.int .i64 0), (.int .i64 0), (.int .i64 0), (.int .i64 0), .nils, (.int .i64 0), (.int .i64 0), (.int .i64 0), (.int .i64 0), .nils, (.int .i64 0), (.int .i64 0), (.int .i64 0), (.int .i64 0), .nils] []), none, 0, false, []⟩,
    ⟨none, (.store 26 (.t 2) (.t 6)), none, 0, false, []⟩] false
def a59_3 : AC := .seq a59_2 .ret
def a59_4 : AC := .cond (.t 5) a59_3 .skip
def a59_5 : AC := .seq a59_1 a59_4
def a59_6 : AC := .reg [⟨(some 7), (.fad 0 (.t 1)), none, 0, false, []⟩,
    ⟨(some 8), (.load false 1 (.t 7)), none, 1, true, []⟩,
    ⟨(some 9), (.fad 6 (.t 1)), none, 2, false, []⟩,
    ⟨(some 10), (.load true 5 (.t 9)), none, 3, true, []⟩,
    ⟨(some 11), (.fad 1 (.t 1)), none, 4, false, []⟩,
    ⟨(some 12), (.load true 5 (.t 11)), none, 5, true, []⟩,
    ⟨(some 13), (.fad 16 (.t 1)), none, 6, false, []⟩,
    ⟨(some 14), (.load true 5 (.t 13)), none, 7, true, []⟩,
    ⟨(some 15), (.fad 11 (.t 1)), none, 8, false, []⟩,
    ⟨(some 16), (.load true 5 (.t 15)), none, 9, true, []⟩,
    ⟨(some 17), (.fad 0 (.t 1)), none, 10, false, []⟩,
    ⟨(some 18), (.load false 1 (.t 17)), none, 11, true, []⟩,
    ⟨(some 19), (.bin 0 .add (.t 18) (.c (.int .i64 1))), none, 12, false, []⟩,
    ⟨(some 20), (.fad 0 (.t 1)), none, 13, false, []⟩,
    ⟨(some 21), (.load false 1 (.t 20)), none, 14, false, []⟩,
    ⟨(some 22), (.call 33 [(.t 21)]), none, 15, true, [1, 3, 5, 7, 9, 11]⟩,
    ⟨(some 23), (.fad 0 (.t 1)), none, 16, false, []⟩,
    ⟨(some 24), (.load false 1 (.t 23)), none, 17, false, [15]⟩,
    ⟨(some 25), (.fad 1 (.t 1)), none, 18, false, []⟩,
    ⟨(some 26), (.load true 5 (.t 25)), none, 19, false, [15]⟩,
    ⟨(some 27), (.fad 11 (.t 1)), none, 20, false, []⟩,
    ⟨(some 28), (.load true 5 (.t 27)), none, 21, false, [15]⟩,
    ⟨(some 29), (.call 91 [(.t 24), (.t 26), (.t 28)]), none, 22, true, [1, 3, 5, 7, 9, 11]⟩,
    ⟨(some 30), (.fad 0 (.t 1)), none, 23, false, []⟩,
    ⟨(some 31), (.load false 1 (.t 30)), none, 24, false, [15, 22]⟩,
    ⟨(some 32), (.fad 6 (.t 1)), none, 25, false, []⟩,
    ⟨(some 33), (.load true 5 (.t 32)), none, 26, false, [15, 22]⟩,
    ⟨(some 34), (.fad 16 (.t 1)), none, 27, false, []⟩,
    ⟨(some 35), (.load true 5 (.t 34)), none, 28, false, [15, 22]⟩,
    ⟨(some 36), (.call 91 [(.t 31), (.t 33), (.t 35)]), none, 29, true, [1, 3, 5, 7, 9, 11]⟩,
    ⟨(some 37), (.fad 21 (.t 1)), none, 30, false, []⟩,
    ⟨(some 38), (.load true 5 (.t 37)), none, 31, false, [15, 22, 29]⟩,
    ⟨(some 39), (.bslice 5 [(.t 22), (.t 29), (.t 36), (.t 38)]), none, 32, false, [1, 3, 5, 7, 9, 11]⟩,
    ⟨(some 40), (.call 97 [(.c (.int .i64 23)), (.t 19), (.c (.int .i64 0)), (.c (.int .i64 3)), (.t 39)]), none, 33, false, [1, 3, 5, 7, 9]⟩,
    ⟨(some 41), (.call 104 [(.t 8), (.t 10), (.t 12), (.t 14), (.t 16), (.t 40)]), none, 34, false, []⟩,
    ⟨none, (.store 26 (.t 2) (.t 41)), none, 35, false, []⟩] true
def a59_7 : AC := .seq a59_6 .ret
def a59_8 : AC := .seq a59_5 a59_7
def a59_9 : AC := .seq a59_0 a59_8
def af59 : AF := { ntmps := 42, res := [(.cell 2 true 26)], body := a59_9 }
theorem tr59 : trF Try.prog Try.f59 = some af59 := by kernel_rfl
attribute [go_sem] af59 a59_0 a59_1 a59_2 a59_3 a59_4 a59_5 a59_6 a59_7 a59_8 a59_9
def a60_0 : AC := .reg [⟨(some 1), (.box (.t 0)), none, 0, false, []⟩,
    ⟨(some 2), (.new [(.int .i64 0), (.int .i64 0), (.int .i64 0), (.int .i64 0), (.int .i64 0), .nils, (.int .i64 0), (.int .i64 0), (.int .i64 0), (.int .i64 0), .nils, (.int .i64 0), (.int .i64 0), (.int .i64 0), (.int .i64 0), .nils, (.int .i64 0), (.int .i64 0), (.int .i64 0), (.int .i64 0), .nils, (.int .i64 0), (.int .i64 0), (.int .i64 0), (.int .i64 0), .nils]), none, 0, false, []⟩] false
def a60_1 : AC := .reg [⟨(some 3), (.load true 26 (.t 1)), none, 0, false, []⟩,
    ⟨(some 4), (.call 58 [(.t 3)]), none, 0, false, []⟩,
    ⟨(some 5), (.un .not (.t 4)), none, 0, false, []⟩] false
def a60_2 : AC := .reg [⟨(some 6), (.build [(.int .i64 0), (.int .i64 0), (.int .i64 0), (.int .i64 0), (.int .i64 0), .nils, (.int .i64 0), (.int .i64 0), (.int .i64 0), (.int .i64 0), .nils, (.int .i64 0), (.int .i64 0), (.int .i64 0), (.int .i64 0), .nils, (.int .i64 0), (.int .i64 0), (.int .i64 0), (.int .i64 0), .nils, (.int .i64 0), (.int .i64 0), (.int .i64 0), (.int .i64 0), .nils] []), none, 0, false, []⟩,
    ⟨none, (.store 26 (.t 2) (.t 6)), none, 0, false, []⟩] false
def a60_3 : AC := .seq a60_2 .ret
def a60_4 : AC := .cond (.t 5) a60_3 .skip
def a60_5 : AC := .seq a60_1 a60_4
def a60_6 : AC := .reg [⟨(some 7), (.fad 0 (.t 1)), none, 0, false, []⟩,
    ⟨(some 8), (.load false 1 (.t 7)), none, 1, true, []⟩,
    ⟨(some 9), (.fad 6 (.t 1)), none, 2, false, []⟩,
    ⟨(some 10), (.load true 5 (.t 9)), none, 3, true, []⟩,
    ⟨(some 11), (.fad 1 (.t 1)), none, 4, false, []⟩,
    ⟨(some 12), (.load true 5 (.t 11)), none, 5, true, []⟩,
    ⟨(some 13), (.fad 16 (.t 1)), none, 6, false, []⟩,
    ⟨(some 14), (.load true 5 (.t 13)), none, 7, true, []⟩,
    ⟨(some 15), (.fad 11 (.t 1)), none, 8, false, []⟩,
    ⟨(some 16), (.load true 5 (.t 15)), none, 9, true, []⟩,
    ⟨(some 17), (.fad 0 (.t 1)), none, 10, false, []⟩,
    ⟨(some 18), (.load false 1 (.t 17)), none, 11, true, []⟩,
    ⟨(some 19), (.bin 0 .add (.t 18) (.c (.int .i64 1))), none, 12, false, []⟩,
    ⟨(some 20), (.fad 0 (.t 1)), none, 13, false, []⟩,
    ⟨(some 21), (.load false 1 (.t 20)), none, 14, false, []⟩,
    ⟨(some 22), (.call 34 [(.t 21)]), none, 15, true, [1, 3, 5, 7, 9, 11]⟩,
    ⟨(some 23), (.fad 0 (.t 1)), none, 16, false, []⟩,
    ⟨(some 24), (.load false 1 (.t 23)), none, 17, false, [15]⟩,
    ⟨(some 25), (.fad 1 (.t 1)), none, 18, false, []⟩,
    ⟨(some 26), (.load true 5 (.t 25)), none, 19, false, [15]⟩,
    ⟨(some 27), (.fad 11 (.t 1)), none, 20, false, []⟩,
    ⟨(some 28), (.load true 5 (.t 27)), none, 21, false, [15]⟩,
    ⟨(some 29), (.call 32 [(.t 24), (.t 26), (.t 28)]), none, 22, true, [1, 3, 5, 7, 9, 11]⟩,
    ⟨(some 30), (.fad 0 (.t 1)), none, 23, false, []⟩,
    ⟨(some 31), (.load false 1 (.t 30)), none, 24, false, [15, 22]⟩,
    ⟨(some 32), (.fad 6 (.t 1)), none, 25, false, []⟩,
    ⟨(some 33), (.load true 5 (.t 32)), none, 26, false, [15, 22]⟩,
    ⟨(some 34), (.fad 16 (.t 1)), none, 27, false, []⟩,
    ⟨(some 35), (.load true 5 (.t 34)), none, 28, false, [15, 22]⟩,
    ⟨(some 36), (.call 32 [(.t 31), (.t 33), (.t 35)]), none, 29, true, [1, 3, 5, 7, 9, 11]⟩,
    ⟨(some 37), (.fad 21 (.t 1)), none, 30, false, []⟩,
    ⟨(some 38), (.load true 5 (.t 37)), none, 31, false, [15, 22, 29]⟩,
    ⟨(some 39), (.bslice 5 [(.t 22), (.t 29), (.t 36), (.t 38)]), none, 32, false, [1, 3, 5, 7, 9, 11]⟩,
    ⟨(some 40), (.call 102 [(.c (.int .i64 3)), (.t 19), (.c (.int .i64 0)), (.t 39)]), none, 33, false, [1, 3, 5, 7, 9]⟩,
    ⟨(some 41), (.build [(.int .i64 0), (.int .i64 0), (.int .i64 0), (.int .i64 0), (.int .i64 0), .nils, (.int .i64 0), (.int .i64 0), (.int .i64 0), (.int .i64 0), .nils, (.int .i64 0), (.int .i64 0), (.int .i64 0), (.int .i64 0), .nils, (.int .i64 0), (.int .i64 0), (.int .i64 0), (.int .i64 0), .nils, (.int .i64 0), (.int .i64 0), (.int .i64 0), (.int .i64 0), .nils] [(0, (1, (.t 8))), (1, (5, (.t 10))), (6, (5, (.t 12))), (11, (5, (.t 14))), (16, (5, (.t 16))), (21, (5, (.t 40)))]), none, 34, false, []⟩,
    ⟨none, (.store 26 (.t 2) (.t 41)), none, 35, false, []⟩] true
def a60_7 : AC := .seq a60_6 .ret
def a60_8 : AC := .seq a60_5 a60_7
def a60_9 : AC := .seq a60_0 a60_8
def af60 : AF := { ntmps := 42, res := [(.cell 2 true 26)], body := a60_9 }
theorem tr60 : trF Try.prog Try.f60 = some af60 := by kernel_rfl
attribute [go_sem] af60 a60_0 a60_1 a60_2 a60_3 a60_4 a60_5 a60_6 a60_7 a60_8 a60_9
def a61_0 : AC := .reg [⟨(some 1), (.box (.t 0)), none, 0, false, []⟩,
    ⟨(some 2), (.new [(.int .i64 0), (.int .i64 0), (.int .i64 0), (.int .i64 0), .nils]), none, 0, false, []⟩] false
def a61_1 : AC := .reg [⟨(some 3), (.load true 26 (.t 1)), none, 0, false, []⟩,
    ⟨(some 4), (.call 100 [(.t 3)]), none, 0, false, []⟩,
    ⟨(some 5), (.un .not (.t 4)), none, 0, false, []⟩] false
def a61_2 : AC := .reg [⟨(some 6), (.build [(.int .i64 0), (.int .i64 0), (.int .i64 0), (.int .i64 0), .nils] []), none, 0, false, []⟩,
    ⟨none, (.store 5 (.t 2) (.t 6)), none, 0, false, []⟩] false
def a61_3 : AC := .seq a61_2 .ret
def a61_4 : AC := .cond (.t 5) a61_3 .skip
def a61_5 : AC := .seq a61_1 a61_4
def a61_6 : AC := .reg [⟨(some 7), (.fad 0 (.t 1)), none, 0, false, []⟩,
    ⟨(some 8), (.load false 1 (.t 7)), none, 0, false, []⟩,
    ⟨(some 9), (.fad 1 (.t 1)), none, 0, false, []⟩,
    ⟨(some 10), (.load true 5 (.t 9)), none, 0, false, []⟩,
    ⟨(some 11), (.fad 11 (.t 1)), none, 0, false, []⟩,
    ⟨(some 12), (.load true 5 (.t 11)), none, 0, false, []⟩,
    ⟨(some 13), (.fad 16 (.t 1)), none, 0, false, []⟩,
    ⟨(some 14), (.load true 5 (.t 13)), none, 0, false, []⟩,
    ⟨(some 15), (.fad 21 (.t 1)), none, 0, false, []⟩,
    ⟨(some 16), (.load true 5 (.t 15)), none, 0, false, []⟩,
    ⟨(some 17), (.bslice 5 [(.t 10), (.t 12), (.t 14), (.t 16)]), none, 0, false, []⟩,
    ⟨(some 18), (.call 101 [(.c (.int .i64 10)), (.t 8), (.t 17)]), none, 0, false, []⟩,
    ⟨none, (.store 5 (.t 2) (.t 18)), none, 0, false, []⟩] false
def a61_7 : AC := .seq a61_6 .ret
def a61_8 : AC := .seq a61_5 a61_7
def a61_9 : AC := .seq a61_0 a61_8
def af61 : AF := { ntmps := 19, res := [(.cell 2 true 5)], body := a61_9 }
theorem tr61 : trF Try.prog Try.f61 = some af61 := by kernel_rfl
attribute [go_sem] af61 a61_0 a61_1 a61_2 a61_3 a61_4 a61_5 a61_6 a61_7 a61_8 a61_9
def a62_0 : AC := .reg [⟨(some 1), (.box (.t 0)), none, 0, false, []⟩,
    ⟨(some 2), (.new [(.int .i64 0), (.int .i64 0), (.int .i64 0), (.int .i64 0), .nils]), none, 0, false, []⟩] false
def a62_1 : AC := .reg [⟨(some 3), (.load true 26 (.t 1)), none, 0, false, []⟩,
    ⟨(some 4), (.call 58 [(.t 3)]), none, 0, false, []⟩,
    ⟨(some 5), (.un .not (.t 4)), none, 0, false, []⟩] false
def a62_2 : AC := .reg [⟨(some 6), (.build [(.int .i64 0), (.int .i64 0), (.int .i64 0), (.int .i64 0), .nils] []), none, 0, false, []⟩,
    ⟨none, (.store 5 (.t 2) (.t 6)), none, 0, false, []⟩] false
def a62_3 : AC := .seq a62_2 .ret
def a62_4 : AC := .cond (.t 5) a62_3 .skip
def a62_5 : AC := .seq a62_1 a62_4
def a62_6 : AC := .reg [⟨(some 7), (.fad 0 (.t 1)), none, 0, false, []⟩,
    ⟨(some 8), (.load false 1 (.t 7)), none, 0, false, []⟩,
    ⟨(some 9), (.fad 1 (.t 1)), none, 0, false, []⟩,
    ⟨(some 10), (.load true 5 (.t 9)), none, 0, false, []⟩,
    ⟨(some 11), (.fad 11 (.t 1)), none, 0, false, []⟩,
    ⟨(some 12), (.load true 5 (.t 11)), none, 0, false, []⟩,
    ⟨(some 13), (.fad 16 (.t 1)), none, 0, false, []⟩,
    ⟨(some 14), (.load true 5 (.t 13)), none, 0, false, []⟩,
    ⟨(some 15), (.fad 21 (.t 1)), none, 0, false, []⟩,
    ⟨(some 16), (.load true 5 (.t 15)), none, 0, false, []⟩,
    ⟨(some 17), (.bslice 5 [(.t 10), (.t 12), (.t 14), (.t 16)]), none, 0, false, []⟩,
    ⟨(some 18), (.call 102 [(.c (.int .i64 10)), (.t 8), (.c (.int .i64 0)), (.t 17)]), none, 0, false, []⟩,
    ⟨none, (.store 5 (.t 2) (.t 18)), none, 0, false, []⟩] false
def a62_7 : AC := .seq a62_6 .ret
def a62_8 : AC := .seq a62_5 a62_7
def a62_9 : AC := .seq a62_0 a62_8
def af62 : AF := { ntmps := 19, res := [(.cell 2 true 5)], body := a62_9 }
theorem tr62 : trF Try.prog Try.f62 = some af62 := by kernel_rfl
attribute [go_sem] af62 a62_0 a62_1 a62_2 a62_3 a62_4 a62_5 a62_6 a62_7 a62_8 a62_9
def a63_0 : AC := .reg [⟨(some 2), (.box (.t 0)), none, 0, false, []⟩,
    ⟨(some 4), (.new [(.int .i64 0), (.int .i64 0), (.int .i64 0), (.int .i64 0), (.int .i64 0), .nils, (.int .i64 0), (.int .i64 0), (.int .i64 0), (.int .i64 0), .nils, (.int .i64 0), (.int .i64 0), (.int .i64 0), (.int .i64 0), .nils, (.int .i64 0), (.int .i64 0), (.int .i64 0), (.int .i64 0), .nils, (.int .i64 0), (.int .i64 0), (.int .i64 0), (.int .i64 0), .nils]), none, 0, false, []⟩] false
def a63_1 : AC := .reg [⟨(some 6), (.load true 26 (.t 2)), none, 0, false, []⟩,
    ⟨(some 7), (.call 100 [(.t 6)]), none, 0, false, []⟩,
    ⟨(some 8), (.un .not (.t 7)), none, 0, false, []⟩,
    ⟨(some 9), (.mv (.t 8)), none, 0, false, []⟩,
    ⟨(some 10), (.mv (.t 1)), (some (9, false)), 0, false, []⟩,
    ⟨(some 11), (.bin 0 .lss (.t 10) (.c (.int .i64 0))), (some (9, false)), 0, false, []⟩,
    ⟨(some 12), (.pick (.t 9) (.c (.bool true)) (.t 11)), none, 0, false, []⟩] false
def a63_2 : AC := .reg [⟨(some 13), (.build [(.int .i64 0), (.int .i64 0), (.int .i64 0), (.int .i64 0), (.int .i64 0), .nils, (.int .i64 0), (.int .i64 0), (.int .i64 0), (.int .i64 0), .nils, (.int .i64 0), (.int .i64 0), (.int .i64 0), (.int .i64 0), .nils, (.int .i64 0), (.int .i64 0), (.int .i64 0), (.int .i64 0), .nils, (.int .i64 0), (.int .i64 0), (.int .i64 0), (.int .i64 0), .nils] []), none, 0, false, []⟩,
    ⟨none, (.store 26 (.t 4) (.t 13)), none, 0, false, []⟩] false
def a63_3 : AC := .seq a63_2 .ret
def a63_4 : AC := .cond (.t 12) a63_3 .skip
def a63_5 : AC := .seq a63_1 a63_4
def a63_6 : AC := .reg [⟨(some 14), (.fad 0 (.t 2)), none, 0, false, []⟩,
    ⟨(some 15), (.load false 1 (.t 14)), none, 1, true, []⟩,
    ⟨(some 16), (.fad 1 (.t 2)), none, 2, false, []⟩,
    ⟨(some 17), (.load true 5 (.t 16)), none, 3, true, []⟩,
    ⟨(some 18), (.mv (.t 1)), none, 4, false, []⟩,
    ⟨(some 19), (.call 120 [(.t 17), (.t 18), (.c (.int .i64 0))]), none, 5, true, [1]⟩,
    ⟨(some 20), (.fad 6 (.t 2)), none, 6, false, []⟩,
    ⟨(some 21), (.load true 5 (.t 20)), none, 7, true, [5]⟩,
    ⟨(some 22), (.mv (.t 1)), none, 8, false, []⟩,
    ⟨(some 23), (.call 120 [(.t 21), (.t 22), (.c (.int .i64 0))]), none, 9, true, [1]⟩,
    ⟨(some 24), (.fad 11 (.t 2)), none, 10, false, []⟩,
    ⟨(some 25), (.load true 5 (.t 24)), none, 11, true, [5, 9]⟩,
    ⟨(some 26), (.mv (.t 1)), none, 12, false, []⟩,
    ⟨(some 27), (.call 120 [(.t 25), (.t 26), (.c (.int .i64 0))]), none, 13, true, [1]⟩,
    ⟨(some 28), (.fad 16 (.t 2)), none, 14, false, []⟩,
    ⟨(some 29), (.load true 5 (.t 28)), none, 15, true, [5, 9, 13]⟩,
    ⟨(some 30), (.mv (.t 1)), none, 16, false, []⟩,
    ⟨(some 31), (.call 120 [(.t 29), (.t 30), (.c (.int .i64 0))]), none, 17, true, [1]⟩,
    ⟨(some 32), (.fad 21 (.t 2)), none, 18, false, []⟩,
    ⟨(some 33), (.load true 5 (.t 32)), none, 19, true, [5, 9, 13, 17]⟩,
    ⟨(some 34), (.mv (.t 1)), none, 20, false, []⟩,
    ⟨(some 35), (.call 120 [(.t 33), (.t 34), (.c (.int .i64 0))]), none, 21, true, [1]⟩,
    ⟨(some 36), (.build [(.int .i64 0), (.int .i64 0), (.int .i64 0), (.int .i64 0), (.int .i64 0), .nils, (.int .i64 0), (.int .i64 0), (.int .i64 0), (.int .i64 0), .nils, (.int .i64 0), (.int .i64 0), (.int .i64 0), (.int .i64 0), .nils, (.int .i64 0), (.int .i64 0), (.int .i64 0), (.int .i64 0), .nils, (.int .i64 0), (.int .i64 0), (.int .i64 0), (.int .i64 0), .nils] [(0, (1, (.t 15))), (1, (5, (.t 19))), (6, (5, (.t 23))), (11, (5, (.t 27))), (16, (5, (.t 31))), (21, (5, (.t 35)))]), none, 22, false, []⟩,
    ⟨(some 5), (.new [(.int .i64 0), (.int .i64 0), (.int .i64 0), (.int .i64 0), (.int .i64 0), .nils, (.int .i64 0), (.int .i64 0), (.int .i64 0), (.int .i64 0), .nils, (.int .i64 0), (.int .i64 0), (.int .i64 0), (.int .i64 0), .nils, (.int .i64 0), (.int .i64 0), (.int .i64 0), (.int .i64 0), .nils, (.int .i64 0), (.int .i64 0), (.int .i64 0), (.int .i64 0), .nils]), none, 23, false, [1, 3, 5, 7, 9, 11, 13, 15, 17, 19, 21]⟩,
    ⟨none, (.store 26 (.t 5) (.t 36)), none, 24, false, []⟩] true
def a63_7 : AC := .reg [⟨(some 37), (.load true 26 (.t 5)), none, 0, false, []⟩,
    ⟨(some 38), (.call 100 [(.t 37)]), none, 0, false, []⟩,
    ⟨(some 39), (.un .not (.t 38)), none, 0, false, []⟩] false
def a63_8 : AC := .reg [⟨(some 40), (.build [(.int .i64 0), (.int .i64 0), (.int .i64 0), (.int .i64 0), (.int .i64 0), .nils, (.int .i64 0), (.int .i64 0), (.int .i64 0), (.int .i64 0), .nils, (.int .i64 0), (.int .i64 0), (.int .i64 0), (.int .i64 0), .nils, (.int .i64 0), (.int .i64 0), (.int .i64 0), (.int .i64 0), .nils, (.int .i64 0), (.int .i64 0), (.int .i64 0), (.int .i64 0), .nils] []), none, 0, false, []⟩,
    ⟨none, (.store 26 (.t 4) (.t 40)), none, 0, false, []⟩] false
def a63_9 : AC := .seq a63_8 .ret
def a63_10 : AC := .cond (.t 39) a63_9 .skip
def a63_11 : AC := .seq a63_7 a63_10
def a63_12 : AC := .reg [⟨(some 41), (.load true 26 (.t 5)), none, 0, false, []⟩,
    ⟨none, (.store 26 (.t 4) (.t 41)), none, 0, false, []⟩] false
def a63_13 : AC := .seq a63_12 .ret
def a63_14 : AC := .seq a63_11 a63_13
def a63_15 : AC := .seq a63_6 a63_14
def a63_16 : AC := .seq a63_5 a63_15
def a63_17 : AC := .seq a63_0 a63_16
def af63 : AF := { ntmps := 42, res := [(.cell 4 true 26)], body := a63_17 }
theorem tr63 : trF Try.prog Try.f63 = some af63 := by kernel_rfl
attribute [go_sem] af63 a63_0 a63_1 a63_2 a63_3 a63_4 a63_5 a63_6 a63_7 a63_8 a63_9 a63_10 a63_11 a63_12 a63_13 a63_14 a63_15 a63_16 a63_17
def a64_0 : AC := .reg [⟨(some 2), (.box (.t 0)), none, 0, false, []⟩,
    ⟨(some 4), (.new [(.int .i64 0), (.int .i64 0), (.int .i64 0), (.int .i64 0), (.int .i64 0), .nils, (.int .i64 0), (.int .i64 0), (.int .i64 0), (.int .i64 0), .nils, (.int .i64 0), (.int .i64 0), (.int .i64 0), (.int .i64 0), .nils, (.int .i64 0), (.int .i64 0), (.int .i64 0), (.int .i64 0), .nils, (.int .i64 0), (.int .i64 0), (.int .i64 0), (.int .i64 0), .nils]), none, 0, false, []⟩] false
def a64_1 : AC := .reg [⟨(some 9), (.load true 26 (.t 2)), none, 0, false, []⟩,
    ⟨(some 10), (.call 58 [(.t 9)]), none, 0, false, []⟩,
    ⟨(some 11), (.un .not (.t 10)), none, 0, false, []⟩,
    ⟨(some 12), (.mv (.t 11)), none, 0, false, []⟩,
    ⟨(some 13), (.mv (.t 1)), (some (12, false)), 0, false, []⟩,
    ⟨(some 14), (.bin 0 .lss (.t 13) (.c (.int .i64 0))), (some (12, false)), 0, false, []⟩,
    ⟨(some 15), (.pick (.t 12) (.c (.bool true)) (.t 14)), none, 0, false, []⟩] false
def a64_2 : AC := .reg [⟨(some 16), (.build [(.int .i64 0), (.int .i64 0), (.int .i64 0), (.int .i64 0), (.int .i64 0), .nils, (.int .i64 0), (.int .i64 0), (.int .i64 0), (.int .i64 0), .nils, (.int .i64 0), (.int .i64 0), (.int .i64 0), (.int .i64 0), .nils, (.int .i64 0), (.int .i64 0), (.int .i64 0), (.int .i64 0), .nils, (.int .i64 0), (.int .i64 0), (.int .i64 0), (.int .i64 0), .nils] []), none, 0, false, []⟩,
    ⟨none, (.store 26 (.t 4) (.t 16)), none, 0, false, []⟩] false
def a64_3 : AC := .seq a64_2 .ret
def a64_4 : AC := .cond (.t 15) a64_3 .skip
def a64_5 : AC := .seq a64_1 a64_4
def a64_6 : AC := .reg [⟨(some 17), (.fad 1 (.t 2)), none, 0, false, []⟩,
    ⟨(some 18), (.load true 5 (.t 17)), none, 0, false, []⟩,
    ⟨(some 19), (.fad 6 (.t 2)), none, 0, false, []⟩,
    ⟨(some 20), (.load true 5 (.t 19)), none, 0, false, []⟩,
    ⟨(some 21), (.fad 11 (.t 2)), none, 0, false, []⟩,
    ⟨(some 22), (.load true 5 (.t 21)), none, 0, false, []⟩,
    ⟨(some 23), (.fad 16 (.t 2)), none, 0, false, []⟩,
    ⟨(some 24), (.load true 5 (.t 23)), none, 0, false, []⟩,
    ⟨(some 25), (.fad 21 (.t 2)), none, 0, false, []⟩,
    ⟨(some 26), (.load true 5 (.t 25)), none, 0, false, []⟩,
    ⟨(some 27), (.bslice 5 [(.t 18), (.t 20), (.t 22), (.t 24), (.t 26)]), none, 0, false, []⟩,
    ⟨(some 5), (.mv (.t 27)), none, 0, false, []⟩] false
def a64_7 : AC := .reg [⟨(some 6), (.mv (.c .nils)), none, 0, false, []⟩] false
def a64_8 : AC := .reg [⟨(some 7), (.mv (.c (.int .i64 0))), none, 0, false, []⟩] false
def a64_9 : AC := .reg [⟨(some 28), (.mv (.t 7)), none, 0, false, []⟩,
    ⟨(some 29), (.mv (.t 5)), none, 0, false, []⟩,
    ⟨(some 30), (.len false (.t 29)), none, 0, false, []⟩,
    ⟨(some 31), (.bin 0 .lss (.t 28) (.t 30)), none, 0, false, []⟩] false
def a64_10 : AC := .cond (.t 31) .skip (.exit 0)
def a64_11 : AC := .seq a64_9 a64_10
def a64_12 : AC := .reg [⟨(some 34), (.mv (.t 5)), none, 0, false, []⟩,
    ⟨(some 35), (.mv (.t 7)), none, 0, false, []⟩,
    ⟨(some 36), (.iad 5 (.t 34) (.t 35)), none, 0, false, []⟩,
    ⟨(some 37), (.load true 5 (.t 36)), none, 0, false, []⟩,
    ⟨(some 38), (.mv (.t 1)), none, 0, false, []⟩,
    ⟨(some 39), (.call 121 [(.t 37), (.t 38), (.c (.int .i64 0))]), none, 0, false, []⟩,
    ⟨(some 8), (.new [(.int .i64 0), (.int .i64 0), (.int .i64 0), (.int .i64 0), .nils]), none, 0, false, []⟩,
    ⟨none, (.store 5 (.t 8) (.t 39)), none, 0, false, []⟩] false
def a64_13 : AC := .reg [⟨(some 40), (.fad 0 (.t 8)), none, 0, false, []⟩,
    ⟨(some 41), (.load false 1 (.t 40)), none, 0, false, []⟩,
    ⟨(some 42), (.bin 0 .eql (.t 41) (.c (.int .i64 0))), none, 0, false, []⟩] false
def a64_14 : AC := .reg [⟨(some 43), (.build [(.int .i64 0), (.int .i64 0), (.int .i64 0), (.int .i64 0), (.int .i64 0), .nils, (.int .i64 0), (.int .i64 0), (.int .i64 0), (.int .i64 0), .nils, (.int .i64 0), (.int .i64 0), (.int .i64 0), (.int .i64 0), .nils, (.int .i64 0), (.int .i64 0), (.int .i64 0), (.int .i64 0), .nils, (.int .i64 0), (.int .i64 0), (.int .i64 0), (.int .i64 0), .nils] []), none, 0, false, []⟩,
    ⟨none, (.store 26 (.t 4) (.t 43)), none, 0, false, []⟩] false
def a64_15 : AC := .seq a64_14 .ret
def a64_16 : AC := .cond (.t 42) a64_15 .skip
def a64_17 : AC := .seq a64_13 a64_16
def a64_18 : AC := .reg [⟨(some 44), (.mv (.t 6)), none, 0, false, []⟩,
    ⟨(some 45), (.load true 5 (.t 8)), none, 0, false, []⟩,
    ⟨(some 46), (.bslice 5 [(.t 45)]), none, 0, false, []⟩,
    ⟨(some 47), (.app 5 56 (.t 44) (.t 46)), none, 0, false, []⟩,
    ⟨(some 6), (.mv (.t 47)), none, 0, false, []⟩] false
def a64_19 : AC := .seq a64_17 a64_18
def a64_20 : AC := .seq a64_12 a64_19
def a64_21 : AC := .blk 1 a64_20
def a64_22 : AC := .reg [⟨(some 32), (.mv (.t 7)), none, 0, false, []⟩,
    ⟨(some 33), (.bin 0 .add (.t 32) (.c (.int .i64 1))), none, 0, false, []⟩,
    ⟨(some 7), (.mv (.t 33)), none, 0, false, []⟩] false
def a64_23 : AC := .seq a64_21 a64_22
def a64_24 : AC := .seq a64_11 a64_23
def a64_25 : AC := .loop a64_24
def a64_26 : AC := .blk 0 a64_25
def a64_27 : AC := .seq a64_8 a64_26
def a64_28 : AC := .reg [⟨(some 48), (.fad 0 (.t 2)), none, 0, false, []⟩,
    ⟨(some 49), (.load false 1 (.t 48)), none, 1, false, []⟩,
    ⟨(some 50), (.mv (.t 6)), none, 2, false, []⟩,
    ⟨(some 51), (.iad 5 (.t 50) (.c (.int .i64 0))), none, 3, false, []⟩,
    ⟨(some 52), (.load true 5 (.t 51)), none, 4, false, []⟩,
    ⟨(some 53), (.mv (.t 6)), none, 5, false, []⟩,
    ⟨(some 54), (.iad 5 (.t 53) (.c (.int .i64 1))), none, 6, false, []⟩,
    ⟨(some 55), (.load true 5 (.t 54)), none, 7, false, []⟩,
    ⟨(some 56), (.mv (.t 6)), none, 8, false, []⟩,
    ⟨(some 57), (.iad 5 (.t 56) (.c (.int .i64 2))), none, 9, false, []⟩,
    ⟨(some 58), (.load true 5 (.t 57)), none, 10, false, []⟩,
    ⟨(some 59), (.mv (.t 6)), none, 11, false, []⟩,
    ⟨(some 60), (.iad 5 (.t 59) (.c (.int .i64 3))), none, 12, false, []⟩,
    ⟨(some 61), (.load true 5 (.t 60)), none, 13, false, []⟩,
    ⟨(some 62), (.mv (.t 6)), none, 14, false, []⟩,
    ⟨(some 63), (.iad 5 (.t 62) (.c (.int .i64 4))), none, 15, false, []⟩,
    ⟨(some 64), (.load true 5 (.t 63)), none, 16, false, []⟩,
    ⟨(some 65), (.build [(.int .i64 0), (.int .i64 0), (.int .i64 0), (.int .i64 0), (.int .i64 0), .nils, (.int .i64 0), (.int .i64 0), (.int .i64 0), (.int .i64 0), .nils, (.int .i64 0), (.int .i64 0), (.int .i64 0), (.int .i64 0), .nils, (.int .i64 0), (.int .i64 0), (.int .i64 0), (.int .i64 0), .nils, (.int .i64 0), (.int .i64 0), (.int .i64 0), (.int .i64 0), .nils] [(0, (1, (.t 49))), (1, (5, (.t 52))), (6, (5, (.t 55))), (11, (5, (.t 58))), (16, (5, (.t 61))), (21, (5, (.t 64)))]), none, 17, false, []⟩,
    ⟨none, (.store 26 (.t 4) (.t 65)), none, 18, false, []⟩] true
def a64_29 : AC := .seq a64_28 .ret
def a64_30 : AC := .seq a64_27 a64_29
def a64_31 : AC := .seq a64_7 a64_30
def a64_32 : AC := .seq a64_6 a64_31
def a64_33 : AC := .seq a64_5 a64_32
def a64_34 : AC := .seq a64_0 a64_33
def af64 : AF := { ntmps := 66, res := [(.cell 4 true 26)], body := a64_34 }
theorem tr64 : trF Try.prog Try.f64 = some af64 := by kernel_rfl
attribute [go_sem] af64 a64_0 a64_1 a64_2 a64_3 a64_4 a64_5 a64_6 a64_7 a64_8 a64_9 a64_10 a64_11 a64_12 a64_13 a64_14 a64_15 a64_16 a64_17 a64_18 a64_19 a64_20 a64_21 a64_22 a64_23 a64_24 a64_25 a64_26 a64_27 a64_28 a64_29 a64_30 a64_31 a64_32 a64_33 a64_34
def a67_0 : AC := .reg [⟨(some 6), (.box (.t 1)), none, 0, false, []⟩,
    ⟨(some 7), (.box (.t 2)), none, 0, false, []⟩,
    ⟨(some 8), (.box (.t 3)), none, 0, false, []⟩,
    ⟨(some 9), (.box (.t 4)), none, 0, false, []⟩,
    ⟨(some 10), (.new [(.int .i64 0), (.int .i64 0), (.int .i64 0), (.int .i64 0), (.int .i64 0), .nils, (.int .i64 0), (.int .i64 0), (.int .i64 0), (.int .i64 0), .nils, (.int .i64 0), (.int .i64 0), (.int .i64 0), (.int .i64 0), .nils, (.int .i64 0), (.int .i64 0), (.int .i64 0), (.int .i64 0), .nils, (.int .i64 0), (.int .i64 0), (.int .i64 0), (.int .i64 0), .nils]), none, 0, false, []⟩] false
def a67_1 : AC := .reg [⟨(some 11), (.mv (.t 0)), none, 0, false, []⟩,
    ⟨(some 12), (.call 88 [(.t 11)]), none, 0, false, []⟩,
    ⟨(some 13), (.un .not (.t 12)), none, 0, false, []⟩,
    ⟨(some 14), (.mv (.t 13)), none, 0, false, []⟩,
    ⟨(some 15), (.load true 5 (.t 6)), (some (14, false)), 0, false, []⟩,
    ⟨(some 16), (.load true 5 (.t 7)), (some (14, false)), 0, false, []⟩,
    ⟨(some 17), (.load true 5 (.t 8)), (some (14, false)), 0, false, []⟩,
    ⟨(some 18), (.load true 5 (.t 9)), (some (14, false)), 0, false, []⟩,
    ⟨(some 19), (.bslice 5 [(.t 15), (.t 16), (.t 17), (.t 18)]), (some (14, false)), 0, false, []⟩,
    ⟨(some 20), (.call 89 [(.t 19)]), (some (14, false)), 0, false, []⟩,
    ⟨(some 21), (.un .not (.t 20)), (some (14, false)), 0, false, []⟩,
    ⟨(some 22), (.pick (.t 14) (.c (.bool true)) (.t 21)), none, 0, false, []⟩] false
def a67_2 : AC := .reg [⟨(some 23), (.build [(.int .i64 0), (.int .i64 0), (.int .i64 0), (.int .i64 0), (.int .i64 0), .nils, (.int .i64 0), (.int .i64 0), (.int .i64 0), (.int .i64 0), .nils, (.int .i64 0), (.int .i64 0), (.int .i64 0), (.int .i64 0), .nils, (.int .i64 0), (.int .i64 0), (.int .i64 0), (.int .i64 0), .nils, (.int .i64 0), (.int .i64 0), (.int .i64 0), (.int .i64 0), .nils] []), none, 0, false, []⟩,
    ⟨none, (.store 26 (.t 10) (.t 23)), none, 0, false, []⟩] false
def a67_3 : AC := .seq a67_2 .ret
def a67_4 : AC := .cond (.t 22) a67_3 .skip
def a67_5 : AC := .seq a67_1 a67_4
def a67_6 : AC := .reg [⟨(some 24), (.mv (.t 0)), none, 0, false, []⟩,
    ⟨(some 25), (.load true 5 (.t 6)), none, 1, true, []⟩,
    ⟨(some 26), (.load true 5 (.t 6)), none, 2, true, []⟩,
    ⟨(some 27), (.load true 5 (.t 7)), none, 3, true, []⟩,
    ⟨(some 28), (.load true 5 (.t 8)), none, 4, true, []⟩,
    ⟨(some 29), (.mv (.t 0)), none, 5, false, []⟩,
    ⟨(some 30), (.load true 5 (.t 6)), none, 6, false, []⟩,
    ⟨(some 31), (.load true 5 (.t 7)), none, 7, false, []⟩,
    ⟨(some 32), (.load true 5 (.t 8)), none, 8, false, []⟩,
    ⟨(some 33), (.load true 5 (.t 9)), none, 9, false, []⟩,
    ⟨(some 34), (.bslice 5 [(.t 30), (.t 31), (.t 32), (.t 33)]), none, 10, false, [1, 2, 3, 4]⟩,
    ⟨(some 35), (.call 97 [(.c (.int .i64 23)), (.t 29), (.c (.int .i64 0)), (.c (.int .i64 11)), (.t 34)]), none, 11, false, [1, 2, 3, 4]⟩,
    ⟨(some 36), (.call 104 [(.t 24), (.t 25), (.t 26), (.t 27), (.t 28), (.t 35)]), none, 12, false, []⟩,
    ⟨none, (.store 26 (.t 10) (.t 36)), none, 13, false, []⟩] true
def a67_7 : AC := .seq a67_6 .ret
def a67_8 : AC := .seq a67_5 a67_7
def a67_9 : AC := .seq a67_0 a67_8
def af67 : AF := { ntmps := 37, res := [(.cell 10 true 26)], body := a67_9 }
theorem tr67 : trF Try.prog Try.f67 = some af67 := by kernel_rfl
attribute [go_sem] af67 a67_0 a67_1 a67_2 a67_3 a67_4 a67_5 a67_6 a67_7 a67_8 a67_9
def a68_0 : AC := .reg [⟨(some 6), (.box (.t 1)), none, 0, false, []⟩,
    ⟨(some 7), (.box (.t 2)), none, 0, false, []⟩,
    ⟨(some 8), (.box (.t 3)), none, 0, false, []⟩,
    ⟨(some 9), (.box (.t 4)), none, 0, false, []⟩,
    ⟨(some 10), (.new [(.int .i64 0), (.int .i64 0), (.int .i64 0), (.int .i64 0), (.int .i64 0), .nils, (.int .i64 0), (.int .i64 0), (.int .i64 0), (.int .i64 0), .nils, (.int .i64 0), (.int .i64 0), (.int .i64 0), (.int .i64 0), .nils, (.int .i64 0), (.int .i64 0), (.int .i64 0), (.int .i64 0), .nils, (.int .i64 0), (.int .i64 0), (.int .i64 0), (.int .i64 0), .nils]), none, 0, false, []⟩] false
def a68_1 : AC := .reg [⟨(some 11), (.mv (.t 0)), none, 0, false, []⟩,
    ⟨(some 12), (.call 92 [(.t 11), (.c (.int .i64 2))]), none, 0, false, []⟩,
    ⟨(some 13), (.un .not (.t 12)), none, 0, false, []⟩,
    ⟨(some 14), (.mv (.t 13)), none, 0, false, []⟩,
    ⟨(some 15), (.load true 5 (.t 6)), (some (14, false)), 0, false, []⟩,
    ⟨(some 16), (.load true 5 (.t 7)), (some (14, false)), 0, false, []⟩,
    ⟨(some 17), (.load true 5 (.t 8)), (some (14, false)), 0, false, []⟩,
    ⟨(some 18), (.load true 5 (.t 9)), (some (14, false)), 0, false, []⟩,
    ⟨(some 19), (.bslice 5 [(.t 15), (.t 16), (.t 17), (.t 18)]), (some (14, false)), 0, false, []⟩,
    ⟨(some 20), (.call 93 [(.t 19)]), (some (14, false)), 0, false, []⟩,
    ⟨(some 21), (.un .not (.t 20)), (some (14, false)), 0, false, []⟩,
    ⟨(some 22), (.pick (.t 14) (.c (.bool true)) (.t 21)), none, 0, false, []⟩] false
def a68_2 : AC := .reg [⟨(some 23), (.build [(.int .i64 0), (.int .i64 0), (.int .i64 0), (.int .i64 0), (.int .i64 0), .nils, (.int .i64 0), (.int .i64 0), (.int .i64 0), (.int .i64 0), .nils, (.int .i64 0), (.int .i64 0), (.int .i64 0), (.int .i64 0), .nils, (.int .i64 0), (.int .i64 0), (.int .i64 0), (.int .i64 0), .nils, (.int .i64 0), (.int .i64 0), (.int .i64 0), (.int .i64 0), .nils] []), none, 0, false, []⟩,
    ⟨none, (.store 26 (.t 10) (.t 23)), none, 0, false, []⟩] false
def a68_3 : AC := .seq a68_2 .ret
def a68_4 : AC := .cond (.t 22) a68_3 .skip
def a68_5 : AC := .seq a68_1 a68_4
def a68_6 : AC := .reg [⟨(some 24), (.mv (.t 0)), none, 0, false, []⟩,
    ⟨(some 25), (.load true 5 (.t 6)), none, 1, true, []⟩,
    ⟨(some 26), (.load true 5 (.t 6)), none, 2, true, []⟩,
    ⟨(some 27), (.load true 5 (.t 7)), none, 3, true, []⟩,
    ⟨(some 28), (.load true 5 (.t 8)), none, 4, true, []⟩,
    ⟨(some 29), (.mv (.t 0)), none, 5, false, []⟩,
    ⟨(some 30), (.load true 5 (.t 6)), none, 6, false, []⟩,
    ⟨(some 31), (.load true 5 (.t 7)), none, 7, false, []⟩,
    ⟨(some 32), (.load true 5 (.t 8)), none, 8, false, []⟩,
    ⟨(some 33), (.load true 5 (.t 9)), none, 9, false, []⟩,
    ⟨(some 34), (.bslice 5 [(.t 30), (.t 31), (.t 32), (.t 33)]), none, 10, false, [1, 2, 3, 4]⟩,
    ⟨(some 35), (.call 102 [(.c (.int .i64 11)), (.t 29), (.c (.int .i64 0)), (.t 34)]), none, 11, false, [1, 2, 3, 4]⟩,
    ⟨(some 36), (.build [(.int .i64 0), (.int .i64 0), (.int .i64 0), (.int .i64 0), (.int .i64 0), .nils, (.int .i64 0), (.int .i64 0), (.int .i64 0), (.int .i64 0), .nils, (.int .i64 0), (.int .i64 0), (.int .i64 0), (.int .i64 0), .nils, (.int .i64 0), (.int .i64 0), (.int .i64 0), (.int .i64 0), .nils, (.int .i64 0), (.int .i64 0), (.int .i64 0), (.int .i64 0), .nils] [(0, (1, (.t 24))), (1, (5, (.t 25))), (6, (5, (.t 26))), (11, (5, (.t 27))), (16, (5, (.t 28))), (21, (5, (.t 35)))]), none, 12, false, []⟩,
    ⟨none, (.store 26 (.t 10) (.t 36)), none, 13, false, []⟩] true
def a68_7 : AC := .seq a68_6 .ret
def a68_8 : AC := .seq a68_5 a68_7
def a68_9 : AC := .seq a68_0 a68_8
def af68 : AF := { ntmps := 37, res := [(.cell 10 true 26)], body := a68_9 }
theorem tr68 : trF Try.prog Try.f68 = some af68 := by kernel_rfl
attribute [go_sem] af68 a68_0 a68_1 a68_2 a68_3 a68_4 a68_5 a68_6 a68_7 a68_8 a68_9
def a69_0 : AC := .reg [⟨(some 6), (.box (.t 1)), none, 0, false, []⟩,
    ⟨(some 7), (.box (.t 2)), none, 0, false, []⟩,
    ⟨(some 8), (.box (.t 3)), none, 0, false, []⟩,
    ⟨(some 9), (.box (.t 4)), none, 0, false, []⟩,
    ⟨(some 10), (.new [(.int .i64 0), (.int .i64 0), (.int .i64 0), (.int .i64 0), (.int .i64 0), .nils, (.int .i64 0), (.int .i64 0), (.int .i64 0), (.int .i64 0), .nils, (.int .i64 0), (.int .i64 0), (.int .i64 0), (.int .i64 0), .nils, (.int .i64 0), (.int .i64 0), (.int .i64 0), (.int .i64 0), .nils, (.int .i64 0), (.int .i64 0), (.int .i64 0), (.int .i64 0), .nils]), none, 0, false, []⟩] false
def a69_1 : AC := .reg [⟨(some 11), (.mv (.t 0)), none, 0, false, []⟩,
    ⟨(some 12), (.call 88 [(.t 11)]), none, 0, false, []⟩,
    ⟨(some 13), (.un .not (.t 12)), none, 0, false, []⟩,
    ⟨(some 14), (.mv (.t 13)), none, 0, false, []⟩,
    ⟨(some 15), (.load true 5 (.t 6)), (some (14, false)), 0, false, []⟩,
    ⟨(some 16), (.load true 5 (.t 7)), (some (14, false)), 0, false, []⟩,
    ⟨(some 17), (.load true 5 (.t 8)), (some (14, false)), 0, false, []⟩,
    ⟨(some 18), (.load true 5 (.t 9)), (some (14, false)), 0, false, []⟩,
    ⟨(some 19), (.bslice 5 [(.t 15), (.t 16), (.t 17), (.t 18)]), (some (14, false)), 0, false, []⟩,
    ⟨(some 20), (.call 89 [(.t 19)]), (some (14, false)), 0, false, []⟩,
    ⟨(some 21), (.un .not (.t 20)), (some (14, false)), 0, false, []⟩,
    ⟨(some 22), (.pick (.t 14) (.c (.bool true)) (.t 21)), none, 0, false, []⟩] false
def a69_2 : AC := .reg [⟨(some 23), (.build [(.int .i64 0), (.int .i64 0), (.int .i64 0), (.int .i64 0), (.int .i64 0), .nils, (.int .i64 0), (.int .i64 0), (.int .i64 0), (.int .i64 0), .nils, (.int .i64 0), (.int .i64 0), (.int .i64 0), (.int .i64 0), .nils, (.int .i64 0), (.int .i64 0), (.int .i64 0), (.int .i64 0), .nils, (.int .i64 0), (.int .i64 0), (.int .i64 0), (.int .i64 0), .nils] []), none, 0, false, []⟩,
    ⟨none, (.store 26 (.t 10) (.t 23)), none, 0, false, []⟩] false
def a69_3 : AC := .seq a69_2 .ret
def a69_4 : AC := .cond (.t 22) a69_3 .skip
def a69_5 : AC := .seq a69_1 a69_4
def a69_6 : AC := .reg [⟨(some 24), (.mv (.t 0)), none, 0, false, []⟩,
    ⟨(some 25), (.load true 5 (.t 6)), none, 1, true, []⟩,
    ⟨(some 26), (.load true 5 (.t 7)), none, 2, true, []⟩,
    ⟨(some 27), (.load true 5 (.t 9)), none, 3, true, []⟩,
    ⟨(some 28), (.mv (.t 0)), none, 4, false, []⟩,
    ⟨(some 29), (.load true 5 (.t 6)), none, 5, true, []⟩,
    ⟨(some 30), (.load true 5 (.t 7)), none, 6, true, []⟩,
    ⟨(some 31), (.load true 5 (.t 8)), none, 7, true, []⟩,
    ⟨(some 32), (.load true 5 (.t 9)), none, 8, true, []⟩,
    ⟨(some 33), (.bslice 5 [(.t 29), (.t 30), (.t 31), (.t 32)]), none, 9, true, [1, 2, 3]⟩,
    ⟨(some 34), (.call 97 [(.c (.int .i64 23)), (.t 28), (.c (.int .i64 0)), (.c (.int .i64 5)), (.t 33)]), none, 10, true, [1, 2, 3]⟩,
    ⟨(some 35), (.mv (.t 0)), none, 11, false, []⟩,
    ⟨(some 36), (.load true 5 (.t 6)), none, 12, false, [9, 10]⟩,
    ⟨(some 37), (.load true 5 (.t 7)), none, 13, false, [9, 10]⟩,
    ⟨(some 38), (.load true 5 (.t 8)), none, 14, false, [9, 10]⟩,
    ⟨(some 39), (.load true 5 (.t 9)), none, 15, false, [9, 10]⟩,
    ⟨(some 40), (.bslice 5 [(.t 36), (.t 37), (.t 38), (.t 39)]), none, 16, false, [1, 2, 3, 5, 6, 7, 8, 9, 10]⟩,
    ⟨(some 41), (.call 97 [(.c (.int .i64 23)), (.t 35), (.c (.int .i64 0)), (.c (.int .i64 8)), (.t 40)]), none, 17, false, [1, 2, 3]⟩,
    ⟨(some 42), (.call 104 [(.t 24), (.t 25), (.t 26), (.t 27), (.t 34), (.t 41)]), none, 18, false, []⟩,
    ⟨none, (.store 26 (.t 10) (.t 42)), none, 19, false, []⟩] true
def a69_7 : AC := .seq a69_6 .ret
def a69_8 : AC := .seq a69_5 a69_7
def a69_9 : AC := .seq a69_0 a69_8
def af69 : AF := { ntmps := 43, res := [(.cell 10 true 26)], body := a69_9 }
theorem tr69 : trF Try.prog Try.f69 = some af69 := by kernel_rfl
attribute [go_sem] af69 a69_0 a69_1 a69_2 a69_3 a69_4 a69_5 a69_6 a69_7 a69_8 a69_9
def a70_0 : AC := .reg [⟨(some 6), (.box (.t 1)), none, 0, false, []⟩,
    ⟨(some 7), (.box (.t 2)), none, 0, false, []⟩,
    ⟨(some 8), (.box (.t 3)), none, 0, false, []⟩,
    ⟨(some 9), (.box (.t 4)), none, 0, false, []⟩,
    ⟨(some 10), (.new [(.int .i64 0), (.int .i64 0), (.int .i64 0), (.int .i64 0), (.int .i64 0), .nils, (.int .i64 0), (.int .i64 0), (.int .i64 0), (.int .i64 0), .nils, (.int .i64 0), (.int .i64 0), (.int .i64 0), (.int .i64 0), .nils, (.int .i64 0), (.int .i64 0), (.int .i64 0), (.int .i64 0), .nils, (.int .i64 0), (.int .i64 0), (.int .i64 0), (.int .i64 0), .nils]), none, 0, false, []⟩] false
def a70_1 : AC := .reg [⟨(some 11), (.mv (.t 0)), none, 0, false, []⟩,
    ⟨(some 12), (.call 92 [(.t 11), (.c (.int .i64 2))]), none, 0, false, []⟩,
    ⟨(some 13), (.un .not (.t 12)), none, 0, false, []⟩,
    ⟨(some 14), (.mv (.t 13)), none, 0, false, []⟩,
    ⟨(some 15), (.load true 5 (.t 6)), (some (14, false)), 0, false, []⟩,
    ⟨(some 16), (.load true 5 (.t 7)), (some (14, false)), 0, false, []⟩,
    ⟨(some 17), (.load true 5 (.t 8)), (some (14, false)), 0, false, []⟩,
    ⟨(some 18), (.load true 5 (.t 9)), (some (14, false)), 0, false, []⟩,
    ⟨(some 19), (.bslice 5 [(.t 15), (.t 16), (.t 17), (.t 18)]), (some (14, false)), 0, false, []⟩,
    ⟨(some 20), (.call 93 [(.t 19)]), (some (14, false)), 0, false, []⟩,
    ⟨(some 21), (.un .not (.t 20)), (some (14, false)), 0, false, []⟩,
    ⟨(some 22), (.pick (.t 14) (.c (.bool true)) (.t 21)), none, 0, false, []⟩] false
def a70_2 : AC := .reg [⟨(some 23), (.build [(.int .i64 0), (.int .i64 0), (.int .i64 0), (.int .i64 0), (.int .i64 0), .nils, (.int .i64 0), (.int .i64 0), (.int .i64 0), (.int .i64 0), .nils, (.int .i64 0), (.int .i64 0), (.int .i64 0), (.int .i64 0), .nils, (.int .i64 0), (.int .i64 0), (.int .i64 0), (.int .i64 0), .nils, (.int .i64 0), (.int .i64 0), (.int .i64 0), (.int .i64 0), .nils] []), none, 0, false, []⟩,
    ⟨none, (.store 26 (.t 10) (.t 23)), none, 0, false, []⟩] false
def a70_3 : AC := .seq a70_2 .ret
def a70_4 : AC := .cond (.t 22) a70_3 .skip
def a70_5 : AC := .seq a70_1 a70_4
def a70_6 : AC := .reg [⟨(some 24), (.mv (.t 0)), none, 0, false, []⟩,
    ⟨(some 25), (.load true 5 (.t 6)), none, 1, true, []⟩,
    ⟨(some 26), (.load true 5 (.t 7)), none, 2, true, []⟩,
    ⟨(some 27), (.load true 5 (.t 9)), none, 3, true, []⟩,
    ⟨(some 28), (.mv (.t 0)), none, 4, false, []⟩,
    ⟨(some 29), (.load true 5 (.t 6)), none, 5, true, []⟩,
    ⟨(some 30), (.load true 5 (.t 7)), none, 6, true, []⟩,
    ⟨(some 31), (.load true 5 (.t 8)), none, 7, true, []⟩,
    ⟨(some 32), (.load true 5 (.t 9)), none, 8, true, []⟩,
    ⟨(some 33), (.bslice 5 [(.t 29), (.t 30), (.t 31), (.t 32)]), none, 9, true, [1, 2, 3]⟩,
    ⟨(some 34), (.call 102 [(.c (.int .i64 5)), (.t 28), (.c (.int .i64 0)), (.t 33)]), none, 10, true, [1, 2, 3]⟩,
    ⟨(some 35), (.mv (.t 0)), none, 11, false, []⟩,
    ⟨(some 36), (.load true 5 (.t 6)), none, 12, false, [9, 10]⟩,
    ⟨(some 37), (.load true 5 (.t 7)), none, 13, false, [9, 10]⟩,
    ⟨(some 38), (.load true 5 (.t 8)), none, 14, false, [9, 10]⟩,
    ⟨(some 39), (.load true 5 (.t 9)), none, 15, false, [9, 10]⟩,
    ⟨(some 40), (.bslice 5 [(.t 36), (.t 37), (.t 38), (.t 39)]), none, 16, false, [1, 2, 3, 5, 6, 7, 8, 9, 10]⟩,
    ⟨(some 41), (.call 102 [(.c (.int .i64 8)), (.t 35), (.c (.int .i64 0)), (.t 40)]), none, 17, false, [1, 2, 3]⟩,
    ⟨(some 42), (.build [(.int .i64 0), (.int .i64 0), (.int .i64 0), (.int .i64 0), (.int .i64 0), .nils, (.int .i64 0), (.int .i64 0), (.int .i64 0), (.int .i64 0), .nils, (.int .i64 0), (.int .i64 0), (.int .i64 0), (.int .i64 0), .nils, (.int .i64 0), (.int .i64 0), (.int .i64 0), (.int .i64 0), .nils, (.int .i64 0), (.int .i64 0), (.int .i64 0), (.int .i64 0), .nils] [(0, (1, (.t 24))), (1, (5, (.t 25))), (6, (5, (.t 26))), (11, (5, (.t 27))), (16, (5, (.t 34))), (21, (5, (.t 41)))]), none, 18, false, []⟩,
    ⟨none, (.store 26 (.t 10) (.t 42)), none, 19, false, []⟩] true
def a70_7 : AC := .seq a70_6 .ret
def a70_8 : AC := .seq a70_5 a70_7
def a70_9 : AC := .seq a70_0 a70_8
def af70 : AF := { ntmps := 43, res := [(.cell 10 true 26)], body := a70_9 }
theorem tr70 : trF Try.prog Try.f70 = some af70 := by kernel_rfl
attribute [go_sem] af70 a70_0 a70_1 a70_2 a70_3 a70_4 a70_5 a70_6 a70_7 a70_8 a70_9
def a8_0 : AC := .reg [⟨(some 5), (.box (.t 1)), none, 0, false, []⟩,
    ⟨(some 6), (.box (.t 2)), none, 0, false, []⟩,
    ⟨(some 7), (.box (.t 3)), none, 0, false, []⟩,
    ⟨(some 8), (.mv (.c (.bool false))), none, 0, false, []⟩] false
def a8_1 : AC := .reg [⟨(some 9), (.load true 5 (.t 5)), none, 0, false, []⟩,
    ⟨(some 10), (.call 28 [(.t 9), (.c (.int .i64 120))]), none, 0, false, []⟩,
    ⟨(some 11), (.mv (.t 10)), none, 0, false, []⟩,
    ⟨(some 12), (.load true 5 (.t 6)), (some (11, false)), 0, false, []⟩,
    ⟨(some 13), (.call 28 [(.t 12), (.c (.int .i64 120))]), (some (11, false)), 0, false, []⟩,
    ⟨(some 14), (.pick (.t 11) (.c (.bool true)) (.t 13)), none, 0, false, []⟩,
    ⟨(some 15), (.mv (.t 14)), none, 0, false, []⟩,
    ⟨(some 16), (.load true 26 (.t 7)), (some (15, false)), 0, false, []⟩,
    ⟨(some 17), (.call 29 [(.t 16)]), (some (15, false)), 0, false, []⟩,
    ⟨(some 18), (.pick (.t 15) (.c (.bool true)) (.t 17)), none, 0, false, []⟩] false
def a8_2 : AC := .reg [⟨(some 8), (.mv (.c (.bool true))), none, 0, false, []⟩] false
def a8_3 : AC := .seq a8_2 .ret
def a8_4 : AC := .cond (.t 18) a8_3 .skip
def a8_5 : AC := .seq a8_1 a8_4
def a8_6 : AC := .reg [⟨(some 19), (.mv (.t 0)), none, 0, false, []⟩,
    ⟨(some 20), (.load true 5 (.t 5)), none, 1, false, []⟩,
    ⟨(some 21), (.load true 5 (.t 6)), none, 2, false, []⟩,
    ⟨(some 22), (.call 31 [(.t 19), (.t 20), (.t 21)]), none, 3, true, []⟩,
    ⟨(some 23), (.mv (.t 0)), none, 4, false, []⟩,
    ⟨(some 24), (.load true 5 (.t 5)), none, 5, false, [3]⟩,
    ⟨(some 25), (.load true 5 (.t 6)), none, 6, false, [3]⟩,
    ⟨(some 26), (.call 32 [(.t 23), (.t 24), (.t 25)]), none, 7, false, []⟩,
    ⟨(some 27), (.call 30 [(.t 22), (.t 26)]), none, 8, false, []⟩,
    ⟨(some 28), (.mv (.t 27)), none, 9, false, []⟩,
    ⟨(some 29), (.mv (.t 0)), (some (28, true)), 10, false, []⟩,
    ⟨(some 30), (.call 33 [(.t 29)]), (some (28, true)), 11, false, []⟩,
    ⟨(some 31), (.mv (.t 0)), (some (28, true)), 12, false, []⟩,
    ⟨(some 32), (.call 34 [(.t 31)]), (some (28, true)), 13, false, []⟩,
    ⟨(some 33), (.call 30 [(.t 30), (.t 32)]), (some (28, true)), 14, false, []⟩,
    ⟨(some 34), (.pick (.t 28) (.t 33) (.c (.bool false))), none, 15, false, []⟩,
    ⟨(some 35), (.mv (.t 34)), none, 16, false, []⟩,
    ⟨(some 36), (.load true 26 (.t 7)), (some (35, true)), 17, false, []⟩,
    ⟨(some 37), (.call 36 [(.t 36)]), (some (35, true)), 18, true, []⟩,
    ⟨(some 38), (.call 35 [(.t 37)]), (some (35, true)), 19, true, []⟩,
    ⟨(some 39), (.load true 26 (.t 7)), (some (35, true)), 20, false, [18, 19]⟩,
    ⟨(some 40), (.call 37 [(.t 39)]), (some (35, true)), 21, false, []⟩,
    ⟨(some 41), (.call 30 [(.t 38), (.t 40)]), (some (35, true)), 22, false, []⟩,
    ⟨(some 42), (.pick (.t 35) (.t 41) (.c (.bool false))), none, 23, false, []⟩,
    ⟨(some 43), (.mv (.t 42)), none, 24, false, []⟩,
    ⟨(some 44), (.call 38 []), (some (43, true)), 25, false, []⟩,
    ⟨(some 45), (.pick (.t 43) (.t 44) (.c (.bool false))), none, 26, false, []⟩,
    ⟨(some 8), (.mv (.t 45)), none, 27, false, []⟩] true
def a8_7 : AC := .seq a8_6 .ret
def a8_8 : AC := .seq a8_5 a8_7
def a8_9 : AC := .seq a8_0 a8_8
def af8 : AF := { ntmps := 46, res := [(.t 8)], body := a8_9 }
theorem tr8 : trF Try.prog Try.f8 = some af8 := by kernel_rfl
attribute [go_sem] af8 a8_0 a8_1 a8_2 a8_3 a8_4 a8_5 a8_6 a8_7 a8_8 a8_9
def a12_0 : AC := .reg [⟨(some 2), (.box (.t 0)), none, 0, false, []⟩,
    ⟨(some 3), (.box (.t 1)), none, 0, false, []⟩,
    ⟨(some 4), (.mv (.c (.bool false))), none, 0, false, []⟩] false
def a12_1 : AC := .reg [⟨(some 8), (.load true 26 (.t 2)), none, 0, false, []⟩,
    ⟨(some 9), (.call 29 [(.t 8)]), none, 0, false, []⟩,
    ⟨(some 10), (.mv (.t 9)), none, 0, false, []⟩,
    ⟨(some 11), (.load true 26 (.t 3)), (some (10, false)), 0, false, []⟩,
    ⟨(some 12), (.call 29 [(.t 11)]), (some (10, false)), 0, false, []⟩,
    ⟨(some 13), (.pick (.t 10) (.c (.bool true)) (.t 12)), none, 0, false, []⟩,
    ⟨(some 14), (.mv (.t 13)), none, 0, false, []⟩,
    ⟨(some 15), (.load true 26 (.t 2)), (some (14, false)), 0, false, []⟩,
    ⟨(some 16), (.call 58 [(.t 15)]), (some (14, false)), 0, false, []⟩,
    ⟨(some 17), (.un .not (.t 16)), (some (14, false)), 0, false, []⟩,
    ⟨(some 18), (.pick (.t 14) (.c (.bool true)) (.t 17)), none, 0, false, []⟩,
    ⟨(some 19), (.mv (.t 18)), none, 0, false, []⟩,
    ⟨(some 20), (.load true 26 (.t 3)), (some (19, false)), 0, false, []⟩,
    ⟨(some 21), (.call 58 [(.t 20)]), (some (19, false)), 0, false, []⟩,
    ⟨(some 22), (.un .not (.t 21)), (some (19, false)), 0, false, []⟩,
    ⟨(some 23), (.pick (.t 19) (.c (.bool true)) (.t 22)), none, 0, false, []⟩,
    ⟨(some 24), (.mv (.t 23)), none, 0, false, []⟩,
    ⟨(some 25), (.fad 0 (.t 2)), (some (24, false)), 0, false, []⟩,
    ⟨(some 26), (.load false 1 (.t 25)), (some (24, false)), 0, false, []⟩,
    ⟨(some 27), (.fad 0 (.t 3)), (some (24, false)), 0, false, []⟩,
    ⟨(some 28), (.load false 1 (.t 27)), (some (24, false)), 0, false, []⟩,
    ⟨(some 29), (.bin 0 .neq (.t 26) (.t 28)), (some (24, false)), 0, false, []⟩,
    ⟨(some 30), (.pick (.t 24) (.c (.bool true)) (.t 29)), none, 0, false, []⟩] false
def a12_2 : AC := .reg [⟨(some 4), (.mv (.c (.bool true))), none, 0, false, []⟩] false
def a12_3 : AC := .seq a12_2 .ret
def a12_4 : AC := .cond (.t 30) a12_3 .skip
def a12_5 : AC := .seq a12_1 a12_4
def a12_6 : AC := .reg [⟨(some 31), (.load true 26 (.t 2)), none, 0, true, []⟩,
    ⟨(some 32), (.call 36 [(.t 31)]), none, 1, true, []⟩,
    ⟨(some 33), (.call 59 [(.t 32)]), none, 2, true, []⟩,
    ⟨(some 34), (.load true 26 (.t 2)), none, 3, true, [1, 2]⟩,
    ⟨(some 35), (.call 36 [(.t 34)]), none, 4, true, []⟩,
    ⟨(some 36), (.load true 26 (.t 3)), none, 5, true, [1, 2, 4]⟩,
    ⟨(some 37), (.call 36 [(.t 36)]), none, 6, true, []⟩,
    ⟨(some 38), (.call 40 [(.t 35), (.t 37)]), none, 7, true, []⟩,
    ⟨(some 5), (.new [(.int .i64 0), (.int .i64 0), (.int .i64 0), (.int .i64 0), (.int .i64 0), .nils, (.int .i64 0), (.int .i64 0), (.int .i64 0), (.int .i64 0), .nils, (.int .i64 0), (.int .i64 0), (.int .i64 0), (.int .i64 0), .nils, (.int .i64 0), (.int .i64 0), (.int .i64 0), (.int .i64 0), .nils, (.int .i64 0), (.int .i64 0), (.int .i64 0), (.int .i64 0), .nils]), none, 8, true, [0, 1, 2, 3, 4, 5, 6, 7]⟩,
    ⟨(some 6), (.new [(.int .i64 0), (.int .i64 0), (.int .i64 0), (.int .i64 0), (.int .i64 0), .nils, (.int .i64 0), (.int .i64 0), (.int .i64 0), (.int .i64 0), .nils, (.int .i64 0), (.int .i64 0), (.int .i64 0), (.int .i64 0), .nils, (.int .i64 0), (.int .i64 0), (.int .i64 0), (.int .i64 0), .nils, (.int .i64 0), (.int .i64 0), (.int .i64 0), (.int .i64 0), .nils]), none, 9, false, [0, 1, 2, 3, 4, 5, 6, 7, 8]⟩,
    ⟨none, (.store 26 (.t 5) (.t 33)), none, 10, false, []⟩,
    ⟨none, (.store 26 (.t 6) (.t 38)), none, 11, false, []⟩] true
def a12_7 : AC := .reg [⟨(some 39), (.load true 26 (.t 5)), none, 0, false, []⟩,
    ⟨(some 40), (.call 59 [(.t 39)]), none, 0, false, []⟩,
    ⟨(some 7), (.new [(.int .i64 0), (.int .i64 0), (.int .i64 0), (.int .i64 0), (.int .i64 0), .nils, (.int .i64 0), (.int .i64 0), (.int .i64 0), (.int .i64 0), .nils, (.int .i64 0), (.int .i64 0), (.int .i64 0), (.int .i64 0), .nils, (.int .i64 0), (.int .i64 0), (.int .i64 0), (.int .i64 0), .nils, (.int .i64 0), (.int .i64 0), (.int .i64 0), (.int .i64 0), .nils]), none, 0, false, []⟩,
    ⟨none, (.store 26 (.t 7) (.t 40)), none, 0, false, []⟩] false
def a12_8 : AC := .reg [⟨(some 41), (.fad 11 (.t 5)), none, 0, false, []⟩,
    ⟨(some 42), (.load true 5 (.t 41)), none, 0, false, []⟩,
    ⟨(some 43), (.fad 16 (.t 2)), none, 0, false, []⟩,
    ⟨(some 44), (.load true 5 (.t 43)), none, 0, false, []⟩,
    ⟨(some 45), (.call 30 [(.t 42), (.t 44)]), none, 0, false, []⟩,
    ⟨(some 46), (.mv (.t 45)), none, 0, false, []⟩,
    ⟨(some 47), (.fad 16 (.t 5)), (some (46, true)), 0, false, []⟩,
    ⟨(some 48), (.load true 5 (.t 47)), (some (46, true)), 0, false, []⟩,
    ⟨(some 49), (.fad 11 (.t 2)), (some (46, true)), 0, false, []⟩,
    ⟨(some 50), (.load true 5 (.t 49)), (some (46, true)), 0, false, []⟩,
    ⟨(some 51), (.call 30 [(.t 48), (.t 50)]), (some (46, true)), 0, false, []⟩,
    ⟨(some 52), (.pick (.t 46) (.t 51) (.c (.bool false))), none, 0, false, []⟩,
    ⟨(some 53), (.mv (.t 52)), none, 0, false, []⟩,
    ⟨(some 54), (.fad 1 (.t 5)), (some (53, true)), 0, false, []⟩,
    ⟨(some 55), (.load true 5 (.t 54)), (some (53, true)), 0, false, []⟩,
    ⟨(some 56), (.fad 6 (.t 2)), (some (53, true)), 0, false, []⟩,
    ⟨(some 57), (.load true 5 (.t 56)), (some (53, true)), 0, false, []⟩,
    ⟨(some 58), (.call 30 [(.t 55), (.t 57)]), (some (53, true)), 0, false, []⟩,
    ⟨(some 59), (.pick (.t 53) (.t 58) (.c (.bool false))), none, 0, false, []⟩,
    ⟨(some 60), (.mv (.t 59)), none, 0, false, []⟩,
    ⟨(some 61), (.fad 6 (.t 5)), (some (60, true)), 0, false, []⟩,
    ⟨(some 62), (.load true 5 (.t 61)), (some (60, true)), 0, false, []⟩,
    ⟨(some 63), (.fad 1 (.t 2)), (some (60, true)), 0, false, []⟩,
    ⟨(some 64), (.load true 5 (.t 63)), (some (60, true)), 0, false, []⟩,
    ⟨(some 65), (.call 30 [(.t 62), (.t 64)]), (some (60, true)), 0, false, []⟩,
    ⟨(some 66), (.pick (.t 60) (.t 65) (.c (.bool false))), none, 0, false, []⟩,
    ⟨(some 67), (.mv (.t 66)), none, 0, false, []⟩,
    ⟨(some 68), (.fad 11 (.t 7)), (some (67, true)), 0, false, []⟩,
    ⟨(some 69), (.load true 5 (.t 68)), (some (67, true)), 0, false, []⟩,
    ⟨(some 70), (.fad 11 (.t 2)), (some (67, true)), 0, false, []⟩,
    ⟨(some 71), (.load true 5 (.t 70)), (some (67, true)), 0, false, []⟩,
    ⟨(some 72), (.call 30 [(.t 69), (.t 71)]), (some (67, true)), 0, false, []⟩,
    ⟨(some 73), (.pick (.t 67) (.t 72) (.c (.bool false))), none, 0, false, []⟩,
    ⟨(some 74), (.mv (.t 73)), none, 0, false, []⟩,
    ⟨(some 75), (.fad 16 (.t 7)), (some (74, true)), 0, false, []⟩,
    ⟨(some 76), (.load true 5 (.t 75)), (some (74, true)), 0, false, []⟩,
    ⟨(some 77), (.fad 16 (.t 2)), (some (74, true)), 0, false, []⟩,
    ⟨(some 78), (.load true 5 (.t 77)), (some (74, true)), 0, false, []⟩,
    ⟨(some 79), (.call 30 [(.t 76), (.t 78)]), (some (74, true)), 0, false, []⟩,
    ⟨(some 80), (.pick (.t 74) (.t 79) (.c (.bool false))), none, 0, false, []⟩,
    ⟨(some 81), (.mv (.t 80)), none, 0, false, []⟩,
    ⟨(some 82), (.fad 11 (.t 6)), (some (81, true)), 0, false, []⟩,
    ⟨(some 83), (.load true 5 (.t 82)), (some (81, true)), 0, false, []⟩,
    ⟨(some 84), (.fad 11 (.t 2)), (some (81, true)), 0, false, []⟩,
    ⟨(some 85), (.load true 5 (.t 84)), (some (81, true)), 0, false, []⟩,
    ⟨(some 86), (.call 30 [(.t 83), (.t 85)]), (some (81, true)), 0, false, []⟩,
    ⟨(some 87), (.pick (.t 81) (.t 86) (.c (.bool false))), none, 0, false, []⟩,
    ⟨(some 88), (.mv (.t 87)), none, 0, false, []⟩,
    ⟨(some 89), (.fad 16 (.t 6)), (some (88, true)), 0, false, []⟩,
    ⟨(some 90), (.load true 5 (.t 89)), (some (88, true)), 0, false, []⟩,
    ⟨(some 91), (.fad 16 (.t 3)), (some (88, true)), 0, false, []⟩,
    ⟨(some 92), (.load true 5 (.t 91)), (some (88, true)), 0, false, []⟩,
    ⟨(some 93), (.call 30 [(.t 90), (.t 92)]), (some (88, true)), 0, false, []⟩,
    ⟨(some 94), (.pick (.t 88) (.t 93) (.c (.bool false))), none, 0, false, []⟩,
    ⟨(some 95), (.mv (.t 94)), none, 0, false, []⟩,
    ⟨(some 96), (.fad 1 (.t 6)), (some (95, true)), 0, false, []⟩,
    ⟨(some 97), (.load true 5 (.t 96)), (some (95, true)), 0, false, []⟩,
    ⟨(some 98), (.fad 1 (.t 2)), (some (95, true)), 0, false, []⟩,
    ⟨(some 99), (.load true 5 (.t 98)), (some (95, true)), 0, false, []⟩,
    ⟨(some 100), (.call 30 [(.t 97), (.t 99)]), (some (95, true)), 0, false, []⟩,
    ⟨(some 101), (.pick (.t 95) (.t 100) (.c (.bool false))), none, 0, false, []⟩,
    ⟨(some 102), (.mv (.t 101)), none, 0, false, []⟩,
    ⟨(some 103), (.fad 6 (.t 6)), (some (102, true)), 0, false, []⟩,
    ⟨(some 104), (.load true 5 (.t 103)), (some (102, true)), 0, false, []⟩,
    ⟨(some 105), (.fad 6 (.t 3)), (some (102, true)), 0, false, []⟩,
    ⟨(some 106), (.load true 5 (.t 105)), (some (102, true)), 0, false, []⟩,
    ⟨(some 107), (.call 30 [(.t 104), (.t 106)]), (some (102, true)), 0, false, []⟩,
    ⟨(some 108), (.pick (.t 102) (.t 107) (.c (.bool false))), none, 0, false, []⟩,
    ⟨(some 109), (.mv (.t 108)), none, 0, false, []⟩,
    ⟨(some 110), (.fad 0 (.t 5)), (some (109, true)), 0, false, []⟩,
    ⟨(some 111), (.load false 1 (.t 110)), (some (109, true)), 0, false, []⟩,
    ⟨(some 112), (.fad 0 (.t 2)), (some (109, true)), 0, false, []⟩,
    ⟨(some 113), (.load false 1 (.t 112)), (some (109, true)), 0, false, []⟩,
    ⟨(some 114), (.bin 0 .eql (.t 111) (.t 113)), (some (109, true)), 0, false, []⟩,
    ⟨(some 115), (.pick (.t 109) (.t 114) (.c (.bool false))), none, 0, false, []⟩,
    ⟨(some 116), (.mv (.t 115)), none, 0, false, []⟩,
    ⟨(some 117), (.fad 0 (.t 6)), (some (116, true)), 0, false, []⟩,
    ⟨(some 118), (.load false 1 (.t 117)), (some (116, true)), 0, false, []⟩,
    ⟨(some 119), (.fad 0 (.t 2)), (some (116, true)), 0, false, []⟩,
    ⟨(some 120), (.load false 1 (.t 119)), (some (116, true)), 0, false, []⟩,
    ⟨(some 121), (.bin 0 .eql (.t 118) (.t 120)), (some (116, true)), 0, false, []⟩,
    ⟨(some 122), (.pick (.t 116) (.t 121) (.c (.bool false))), none, 0, false, []⟩,
    ⟨(some 123), (.mv (.t 122)), none, 0, false, []⟩,
    ⟨(some 124), (.call 38 []), (some (123, true)), 0, false, []⟩,
    ⟨(some 125), (.pick (.t 123) (.t 124) (.c (.bool false))), none, 0, false, []⟩,
    ⟨(some 4), (.mv (.t 125)), none, 0, false, []⟩] false
def a12_9 : AC := .seq a12_8 .ret
def a12_10 : AC := .seq a12_7 a12_9
def a12_11 : AC := .seq a12_6 a12_10
def a12_12 : AC := .seq a12_5 a12_11
def a12_13 : AC := .seq a12_0 a12_12
def af12 : AF := { ntmps := 126, res := [(.t 4)], body := a12_13 }
theorem tr12 : trF Try.prog Try.f12 = some af12 := by kernel_rfl
attribute [go_sem] af12 a12_0 a12_1 a12_2 a12_3 a12_4 a12_5 a12_6 a12_7 a12_8 a12_9 a12_10 a12_11 a12_12 a12_13
def a13_0 : AC := .reg [⟨(some 3), (.box (.t 0)), none, 0, false, []⟩,
    ⟨(some 6), (.mv (.c (.bool false))), none, 0, false, []⟩] false
def a13_1 : AC := .reg [⟨(some 8), (.load true 26 (.t 3)), none, 0, false, []⟩,
    ⟨(some 9), (.call 29 [(.t 8)]), none, 0, false, []⟩] false
def a13_2 : AC := .reg [⟨(some 6), (.mv (.c (.bool true))), none, 0, false, []⟩] false
def a13_3 : AC := .seq a13_2 .ret
def a13_4 : AC := .cond (.t 9) a13_3 .skip
def a13_5 : AC := .seq a13_1 a13_4
def a13_6 : AC := .reg [⟨(some 10), (.load true 26 (.t 3)), none, 0, false, []⟩,
    ⟨(some 11), (.call 36 [(.t 10)]), none, 0, false, []⟩,
    ⟨(some 7), (.new [(.int .i64 0), (.int .i64 0), (.int .i64 0), (.int .i64 0), (.int .i64 0), .nils, (.int .i64 0), (.int .i64 0), (.int .i64 0), (.int .i64 0), .nils, (.int .i64 0), (.int .i64 0), (.int .i64 0), (.int .i64 0), .nils, (.int .i64 0), (.int .i64 0), (.int .i64 0), (.int .i64 0), .nils, (.int .i64 0), (.int .i64 0), (.int .i64 0), (.int .i64 0), .nils]), none, 0, false, []⟩,
    ⟨none, (.store 26 (.t 7) (.t 11)), none, 0, false, []⟩] false
def a13_7 : AC := .reg [⟨(some 12), (.load true 26 (.t 7)), none, 0, false, []⟩,
    ⟨(some 13), (.call 59 [(.t 12)]), none, 1, true, []⟩,
    ⟨(some 14), (.load true 26 (.t 3)), none, 2, false, [1]⟩,
    ⟨(some 15), (.call 60 [(.t 14)]), none, 3, false, []⟩,
    ⟨(some 16), (.call 39 [(.t 13), (.t 15)]), none, 4, false, []⟩,
    ⟨(some 17), (.un .not (.t 16)), none, 5, false, []⟩,
    ⟨(some 18), (.mv (.t 17)), none, 6, false, []⟩,
    ⟨(some 19), (.load true 26 (.t 7)), (some (18, false)), 7, false, []⟩,
    ⟨(some 20), (.call 61 [(.t 19)]), (some (18, false)), 8, true, []⟩,
    ⟨(some 21), (.load true 26 (.t 3)), (some (18, false)), 9, false, [8]⟩,
    ⟨(some 22), (.call 62 [(.t 21)]), (some (18, false)), 10, false, []⟩,
    ⟨(some 23), (.call 30 [(.t 20), (.t 22)]), (some (18, false)), 11, false, []⟩,
    ⟨(some 24), (.un .not (.t 23)), (some (18, false)), 12, false, []⟩,
    ⟨(some 25), (.pick (.t 18) (.c (.bool true)) (.t 24)), none, 13, false, []⟩,
    ⟨(some 26), (.mv (.t 25)), none, 14, false, []⟩,
    ⟨(some 27), (.load true 26 (.t 7)), (some (26, false)), 15, false, []⟩,
    ⟨(some 28), (.mv (.t 2)), (some (26, false)), 16, false, []⟩,
    ⟨(some 29), (.call 63 [(.t 27), (.t 28)]), (some (26, false)), 17, true, []⟩,
    ⟨(some 30), (.load true 26 (.t 3)), (some (26, false)), 18, false, [17]⟩,
    ⟨(some 31), (.mv (.t 2)), (some (26, false)), 19, false, []⟩,
    ⟨(some 32), (.call 64 [(.t 30), (.t 31)]), (some (26, false)), 20, false, []⟩,
    ⟨(some 33), (.call 39 [(.t 29), (.t 32)]), (some (26, false)), 21, false, []⟩,
    ⟨(some 34), (.un .not (.t 33)), (some (26, false)), 22, false, []⟩,
    ⟨(some 35), (.pick (.t 26) (.c (.bool true)) (.t 34)), none, 23, false, []⟩] true
def a13_8 : AC := .reg [⟨(some 6), (.mv (.c (.bool false))), none, 0, false, []⟩] false
def a13_9 : AC := .seq a13_8 .ret
def a13_10 : AC := .cond (.t 35) a13_9 .skip
def a13_11 : AC := .seq a13_7 a13_10
def a13_12 : AC := .reg [⟨(some 36), (.mv (.t 1)), none, 0, false, []⟩,
    ⟨(some 37), (.fad 1 (.t 3)), none, 1, false, []⟩,
    ⟨(some 38), (.load true 5 (.t 37)), none, 2, false, []⟩,
    ⟨(some 39), (.fad 11 (.t 3)), none, 3, false, []⟩,
    ⟨(some 40), (.load true 5 (.t 39)), none, 4, false, []⟩,
    ⟨(some 41), (.call 65 [(.t 36), (.t 38), (.t 40)]), none, 5, true, []⟩,
    ⟨(some 42), (.mv (.t 1)), none, 6, false, []⟩,
    ⟨(some 43), (.fad 1 (.t 3)), none, 7, false, []⟩,
    ⟨(some 44), (.load true 5 (.t 43)), none, 8, false, [5]⟩,
    ⟨(some 45), (.fad 11 (.t 3)), none, 9, false, []⟩,
    ⟨(some 46), (.load true 5 (.t 45)), none, 10, false, [5]⟩,
    ⟨(some 47), (.call 66 [(.t 42), (.t 44), (.t 46)]), none, 11, false, []⟩,
    ⟨(some 48), (.call 39 [(.t 41), (.t 47)]), none, 12, false, []⟩,
    ⟨(some 49), (.mv (.t 48)), none, 13, false, []⟩,
    ⟨(some 50), (.mv (.t 1)), (some (49, true)), 14, false, []⟩,
    ⟨(some 51), (.fad 1 (.t 3)), (some (49, true)), 15, false, []⟩,
    ⟨(some 52), (.load true 5 (.t 51)), (some (49, true)), 16, false, []⟩,
    ⟨(some 53), (.fad 11 (.t 3)), (some (49, true)), 17, false, []⟩,
    ⟨(some 54), (.load true 5 (.t 53)), (some (49, true)), 18, false, []⟩,
    ⟨(some 55), (.fad 16 (.t 3)), (some (49, true)), 19, false, []⟩,
    ⟨(some 56), (.load true 5 (.t 55)), (some (49, true)), 20, false, []⟩,
    ⟨(some 57), (.fad 21 (.t 3)), (some (49, true)), 21, false, []⟩,
    ⟨(some 58), (.load true 5 (.t 57)), (some (49, true)), 22, false, []⟩,
    ⟨(some 59), (.call 67 [(.t 50), (.t 52), (.t 54), (.t 56), (.t 58)]), (some (49, true)), 23, true, []⟩,
    ⟨(some 60), (.mv (.t 1)), (some (49, true)), 24, false, []⟩,
    ⟨(some 61), (.fad 1 (.t 3)), (some (49, true)), 25, false, []⟩,
    ⟨(some 62), (.load true 5 (.t 61)), (some (49, true)), 26, false, [23]⟩,
    ⟨(some 63), (.fad 11 (.t 3)), (some (49, true)), 27, false, []⟩,
    ⟨(some 64), (.load true 5 (.t 63)), (some (49, true)), 28, false, [23]⟩,
    ⟨(some 65), (.fad 16 (.t 3)), (some (49, true)), 29, false, []⟩,
    ⟨(some 66), (.load true 5 (.t 65)), (some (49, true)), 30, false, [23]⟩,
    ⟨(some 67), (.fad 21 (.t 3)), (some (49, true)), 31, false, []⟩,
    ⟨(some 68), (.load true 5 (.t 67)), (some (49, true)), 32, false, [23]⟩,
    ⟨(some 69), (.call 68 [(.t 60), (.t 62), (.t 64), (.t 66), (.t 68)]), (some (49, true)), 33, false, []⟩,
    ⟨(some 70), (.call 39 [(.t 59), (.t 69)]), (some (49, true)), 34, false, []⟩,
    ⟨(some 71), (.pick (.t 49) (.t 70) (.c (.bool false))), none, 35, false, []⟩,
    ⟨(some 72), (.mv (.t 71)), none, 36, false, []⟩,
    ⟨(some 73), (.mv (.t 1)), (some (72, true)), 37, false, []⟩,
    ⟨(some 74), (.fad 1 (.t 3)), (some (72, true)), 38, false, []⟩,
    ⟨(some 75), (.load true 5 (.t 74)), (some (72, true)), 39, false, []⟩,
    ⟨(some 76), (.fad 6 (.t 3)), (some (72, true)), 40, false, []⟩,
    ⟨(some 77), (.load true 5 (.t 76)), (some (72, true)), 41, false, []⟩,
    ⟨(some 78), (.fad 21 (.t 3)), (some (72, true)), 42, false, []⟩,
    ⟨(some 79), (.load true 5 (.t 78)), (some (72, true)), 43, false, []⟩,
    ⟨(some 80), (.fad 11 (.t 3)), (some (72, true)), 44, false, []⟩,
    ⟨(some 81), (.load true 5 (.t 80)), (some (72, true)), 45, false, []⟩,
    ⟨(some 82), (.call 69 [(.t 73), (.t 75), (.t 77), (.t 79), (.t 81)]), (some (72, true)), 46, true, []⟩,
    ⟨(some 83), (.mv (.t 1)), (some (72, true)), 47, false, []⟩,
    ⟨(some 84), (.fad 1 (.t 3)), (some (72, true)), 48, false, []⟩,
    ⟨(some 85), (.load true 5 (.t 84)), (some (72, true)), 49, false, [46]⟩,
    ⟨(some 86), (.fad 6 (.t 3)), (some (72, true)), 50, false, []⟩,
    ⟨(some 87), (.load true 5 (.t 86)), (some (72, true)), 51, false, [46]⟩,
    ⟨(some 88), (.fad 21 (.t 3)), (some (72, true)), 52, false, []⟩,
    ⟨(some 89), (.load true 5 (.t 88)), (some (72, true)), 53, false, [46]⟩,
    ⟨(some 90), (.fad 11 (.t 3)), (some (72, true)), 54, false, []⟩,
    ⟨(some 91), (.load true 5 (.t 90)), (some (72, true)), 55, false, [46]⟩,
    ⟨(some 92), (.call 70 [(.t 83), (.t 85), (.t 87), (.t 89), (.t 91)]), (some (72, true)), 56, false, []⟩,
    ⟨(some 93), (.call 39 [(.t 82), (.t 92)]), (some (72, true)), 57, false, []⟩,
    ⟨(some 94), (.pick (.t 72) (.t 93) (.c (.bool false))), none, 58, false, []⟩,
    ⟨(some 95), (.mv (.t 94)), none, 59, false, []⟩,
    ⟨(some 96), (.call 38 []), (some (95, true)), 60, false, []⟩,
    ⟨(some 97), (.pick (.t 95) (.t 96) (.c (.bool false))), none, 61, false, []⟩,
    ⟨(some 6), (.mv (.t 97)), none, 62, false, []⟩] true
def a13_13 : AC := .seq a13_12 .ret
def a13_14 : AC := .seq a13_11 a13_13
def a13_15 : AC := .seq a13_6 a13_14
def a13_16 : AC := .seq a13_5 a13_15
def a13_17 : AC := .seq a13_0 a13_16
def af13 : AF := { ntmps := 98, res := [(.t 6)], body := a13_17 }
theorem tr13 : trF Try.prog Try.f13 = some af13 := by kernel_rfl
attribute [go_sem] af13 a13_0 a13_1 a13_2 a13_3 a13_4 a13_5 a13_6 a13_7 a13_8 a13_9 a13_10 a13_11 a13_12 a13_13 a13_14 a13_15 a13_16 a13_17
end Go.Proofs.Ytadmdmhocglkfaa.Abs
