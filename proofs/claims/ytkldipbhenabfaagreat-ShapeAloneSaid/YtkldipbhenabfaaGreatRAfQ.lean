/- The abstract code of functions, printed by program; that it is the translation of the model's code is decided by the kernel. -/
import Derived.Test.YtkldipbhenabfaaGreatREv
import Derived.Test.YtkldipbhenabfaaGreatProg
import Derived.KernelRfl
namespace Go.Proofs.YtkldipbhenabfaaGreat.Abs
open Go Go.Proofs Go.Proofs.YtkldipbhenabfaaGreat
def a64_0 : AC := .reg [⟨(some 1), (.box (.t 0)), none, 0, false, []⟩,
    ⟨(some 2), (.new [(.int .i64 0), (.int .i64 0), (.int .i64 0), (.int .i64 0), .nils]), none, 0, false, []⟩] false
def a64_1 : AC := .reg [⟨(some 6), (.fad 0 (.t 1)), none, 0, false, []⟩,
    ⟨(some 7), (.load false 1 (.t 6)), none, 0, false, []⟩,
    ⟨(some 8), (.bin 0 .eql (.t 7) (.c (.int .i64 12))), none, 0, false, []⟩] false
def a64_2 : AC := .cond (.t 8) .skip (.exit 0)
def a64_3 : AC := .seq a64_1 a64_2
def a64_4 : AC := .reg [⟨(some 9), (.fad 4 (.t 1)), none, 0, false, []⟩,
    ⟨(some 10), (.load false 1 (.t 9)), none, 0, false, []⟩,
    ⟨(some 11), (.iad 5 (.t 10) (.c (.int .i64 3))), none, 0, false, []⟩,
    ⟨(some 12), (.load true 5 (.t 11)), none, 0, false, []⟩,
    ⟨none, (.store 5 (.t 1) (.t 12)), none, 0, false, []⟩] false
def a64_5 : AC := .blk 1 a64_4
def a64_6 : AC := .seq a64_3 a64_5
def a64_7 : AC := .loop a64_6
def a64_8 : AC := .blk 0 a64_7
def a64_9 : AC := .reg [⟨(some 13), (.fad 4 (.t 1)), none, 0, false, []⟩,
    ⟨(some 14), (.load false 1 (.t 13)), none, 0, false, []⟩,
    ⟨(some 15), (.len false (.t 14)), none, 0, false, []⟩,
    ⟨(some 16), (.bin 0 .eql (.t 15) (.c (.int .i64 0))), none, 0, false, []⟩] false
def a64_10 : AC := .reg [⟨(some 17), (.fad 4 (.t 1)), none, 0, false, []⟩,
    ⟨none, (.store 1 (.t 17) (.c .nils)), none, 0, false, []⟩] false
def a64_11 : AC := .reg [⟨(some 18), (.load true 5 (.t 1)), none, 0, false, []⟩,
    ⟨none, (.store 5 (.t 2) (.t 18)), none, 0, false, []⟩] false
def a64_12 : AC := .seq a64_11 .ret
def a64_13 : AC := .seq a64_10 a64_12
def a64_14 : AC := .cond (.t 16) a64_13 .skip
def a64_15 : AC := .seq a64_9 a64_14
def a64_16 : AC := .reg [⟨(some 19), (.fad 4 (.t 1)), none, 0, false, []⟩,
    ⟨(some 20), (.load false 1 (.t 19)), none, 0, false, []⟩,
    ⟨(some 21), (.len false (.t 20)), none, 0, false, []⟩,
    ⟨(some 22), (.mk 5 56 [(.int .i64 0), (.int .i64 0), (.int .i64 0), (.int .i64 0), .nils] (.t 21) (.t 21)), none, 0, false, []⟩,
    ⟨(some 3), (.mv (.t 22)), none, 0, false, []⟩] false
def a64_17 : AC := .reg [⟨(some 23), (.fad 4 (.t 1)), none, 0, false, []⟩,
    ⟨(some 24), (.load false 1 (.t 23)), none, 0, false, []⟩,
    ⟨(some 25), (.len false (.t 24)), none, 0, false, []⟩,
    ⟨(some 26), (.mv (.c (.int .i64 0))), none, 0, false, []⟩] false
def a64_18 : AC := .reg [⟨(some 27), (.bin 0 .lss (.t 26) (.t 25)), none, 0, false, []⟩] false
def a64_19 : AC := .cond (.t 27) .skip (.exit 2)
def a64_20 : AC := .reg [⟨(some 28), (.mv (.t 26)), none, 0, false, []⟩,
    ⟨(some 29), (.iad 5 (.t 24) (.t 26)), none, 0, false, []⟩,
    ⟨(some 30), (.load true 5 (.t 29)), none, 0, false, []⟩,
    ⟨(some 5), (.new [(.int .i64 0), (.int .i64 0), (.int .i64 0), (.int .i64 0), .nils]), none, 0, false, []⟩,
    ⟨(some 4), (.mv (.t 28)), none, 0, false, []⟩,
    ⟨none, (.store 5 (.t 5) (.t 30)), none, 0, false, []⟩] false
def a64_21 : AC := .reg [⟨(some 31), (.mv (.t 3)), none, 0, false, []⟩,
    ⟨(some 32), (.mv (.t 4)), none, 0, false, []⟩,
    ⟨(some 33), (.load true 5 (.t 5)), none, 0, false, []⟩,
    ⟨(some 34), (.call 64 [(.t 33)]), none, 0, false, []⟩,
    ⟨(some 35), (.iad 5 (.t 31) (.t 32)), none, 0, false, []⟩,
    ⟨none, (.store 5 (.t 35) (.t 34)), none, 0, false, []⟩] false
def a64_22 : AC := .seq a64_20 a64_21
def a64_23 : AC := .blk 3 a64_22
def a64_24 : AC := .reg [⟨(some 36), (.bin 0 .add (.t 26) (.c (.int .i64 1))), none, 0, false, []⟩,
    ⟨(some 26), (.mv (.t 36)), none, 0, false, []⟩] false
def a64_25 : AC := .seq a64_23 a64_24
def a64_26 : AC := .seq a64_19 a64_25
def a64_27 : AC := .seq a64_18 a64_26
def a64_28 : AC := .loop a64_27
def a64_29 : AC := .blk 2 a64_28
def a64_30 : AC := .seq a64_17 a64_29
def a64_31 : AC := .reg [⟨(some 37), (.mv (.t 3)), none, 0, false, []⟩,
    ⟨(some 38), (.fad 4 (.t 1)), none, 0, false, []⟩,
    ⟨none, (.store 1 (.t 38) (.t 37)), none, 0, false, []⟩] false
def a64_32 : AC := .reg [⟨(some 39), (.load true 5 (.t 1)), none, 0, false, []⟩,
    ⟨none, (.store 5 (.t 2) (.t 39)), none, 0, false, []⟩] false
def a64_33 : AC := .seq a64_32 .ret
def a64_34 : AC := .seq a64_31 a64_33
def a64_35 : AC := .seq a64_30 a64_34
def a64_36 : AC := .seq a64_16 a64_35
def a64_37 : AC := .seq a64_15 a64_36
def a64_38 : AC := .seq a64_8 a64_37
def a64_39 : AC := .seq a64_0 a64_38
def af64 : AF := { ntmps := 40, res := [(.cell 2 true 5)], body := a64_39 }
theorem tr64 : trF Tryz.prog Tryz.f64 = some af64 := by kernel_rfl
attribute [go_sem] af64 a64_0 a64_1 a64_2 a64_3 a64_4 a64_5 a64_6 a64_7 a64_8 a64_9 a64_10 a64_11 a64_12 a64_13 a64_14 a64_15 a64_16 a64_17 a64_18 a64_19 a64_20 a64_21 a64_22 a64_23 a64_24 a64_25 a64_26 a64_27 a64_28 a64_29 a64_30 a64_31 a64_32 a64_33 a64_34 a64_35 a64_36 a64_37 a64_38 a64_39
def a66_0 : AC := .reg [⟨(some 2), (.mv (.c (.bool false))), none, 0, false, []⟩] false
def a66_1 : AC := .reg [⟨(some 5), (.mv (.t 0)), none, 0, false, []⟩,
    ⟨(some 6), (.len false (.t 5)), none, 0, false, []⟩,
    ⟨(some 7), (.mv (.c (.int .i64 0))), none, 0, false, []⟩] false
def a66_2 : AC := .reg [⟨(some 8), (.bin 0 .lss (.t 7) (.t 6)), none, 0, false, []⟩] false
def a66_3 : AC := .cond (.t 8) .skip (.exit 0)
def a66_4 : AC := .reg [⟨(some 9), (.mv (.t 7)), none, 0, false, []⟩,
    ⟨(some 10), (.iad 6 (.t 5) (.t 7)), none, 0, false, []⟩,
    ⟨(some 11), (.load true 6 (.t 10)), none, 0, false, []⟩,
    ⟨(some 4), (.new [(.int .i64 0), (.int .i64 0), (.int .i64 0), (.int .i64 0), .nils, (.int .i64 0)]), none, 0, false, []⟩,
    ⟨(some 3), (.mv (.t 9)), none, 0, false, []⟩,
    ⟨none, (.store 6 (.t 4) (.t 11)), none, 0, false, []⟩] false
def a66_5 : AC := .reg [⟨(some 12), (.fad 5 (.t 4)), none, 0, false, []⟩,
    ⟨(some 13), (.load false 1 (.t 12)), none, 0, false, []⟩,
    ⟨(some 14), (.bin 0 .lss (.t 13) (.c (.int .i64 0))), none, 0, false, []⟩,
    ⟨(some 15), (.mv (.t 14)), none, 0, false, []⟩,
    ⟨(some 16), (.fad 5 (.t 4)), (some (15, false)), 0, false, []⟩,
    ⟨(some 17), (.load false 1 (.t 16)), (some (15, false)), 0, false, []⟩,
    ⟨(some 18), (.bin 0 .gtr (.t 17) (.c (.int .i64 1000))), (some (15, false)), 0, false, []⟩,
    ⟨(some 19), (.pick (.t 15) (.c (.bool true)) (.t 18)), none, 0, false, []⟩,
    ⟨(some 20), (.mv (.t 19)), none, 0, false, []⟩,
    ⟨(some 21), (.fad 0 (.t 4)), (some (20, false)), 0, false, []⟩,
    ⟨(some 22), (.load true 5 (.t 21)), (some (20, false)), 0, false, []⟩,
    ⟨(some 23), (.call 54 [(.t 22)]), (some (20, false)), 0, false, []⟩,
    ⟨(some 24), (.un .not (.t 23)), (some (20, false)), 0, false, []⟩,
    ⟨(some 25), (.pick (.t 20) (.c (.bool true)) (.t 24)), none, 0, false, []⟩,
    ⟨(some 26), (.mv (.t 25)), none, 0, false, []⟩,
    ⟨(some 27), (.fad 0 (.t 4)), (some (26, false)), 0, false, []⟩,
    ⟨(some 28), (.load true 5 (.t 27)), (some (26, false)), 0, false, []⟩,
    ⟨(some 29), (.call 80 [(.t 28)]), (some (26, false)), 0, false, []⟩,
    ⟨(some 30), (.mv (.t 3)), (some (26, false)), 0, false, []⟩,
    ⟨(some 31), (.bin 0 .gtr (.t 29) (.t 30)), (some (26, false)), 0, false, []⟩,
    ⟨(some 32), (.pick (.t 26) (.c (.bool true)) (.t 31)), none, 0, false, []⟩] false
def a66_6 : AC := .reg [⟨(some 2), (.mv (.c (.bool false))), none, 0, false, []⟩] false
def a66_7 : AC := .seq a66_6 .ret
def a66_8 : AC := .cond (.t 32) a66_7 .skip
def a66_9 : AC := .seq a66_5 a66_8
def a66_10 : AC := .seq a66_4 a66_9
def a66_11 : AC := .blk 1 a66_10
def a66_12 : AC := .reg [⟨(some 33), (.bin 0 .add (.t 7) (.c (.int .i64 1))), none, 0, false, []⟩,
    ⟨(some 7), (.mv (.t 33)), none, 0, false, []⟩] false
def a66_13 : AC := .seq a66_11 a66_12
def a66_14 : AC := .seq a66_3 a66_13
def a66_15 : AC := .seq a66_2 a66_14
def a66_16 : AC := .loop a66_15
def a66_17 : AC := .blk 0 a66_16
def a66_18 : AC := .seq a66_1 a66_17
def a66_19 : AC := .reg [⟨(some 2), (.mv (.c (.bool true))), none, 0, false, []⟩] false
def a66_20 : AC := .seq a66_19 .ret
def a66_21 : AC := .seq a66_18 a66_20
def a66_22 : AC := .seq a66_0 a66_21
def af66 : AF := { ntmps := 34, res := [(.t 2)], body := a66_22 }
theorem tr66 : trF Tryz.prog Tryz.f66 = some af66 := by kernel_rfl
attribute [go_sem] af66 a66_0 a66_1 a66_2 a66_3 a66_4 a66_5 a66_6 a66_7 a66_8 a66_9 a66_10 a66_11 a66_12 a66_13 a66_14 a66_15 a66_16 a66_17 a66_18 a66_19 a66_20 a66_21 a66_22
def a67_0 : AC := .reg [⟨(some 2), (.box (.t 0)), none, 0, false, []⟩,
    ⟨(some 4), (.mv (.c (.bool false))), none, 0, false, []⟩] false
def a67_1 : AC := .reg [⟨(some 7), (.fad 0 (.t 2)), none, 0, false, []⟩,
    ⟨(some 8), (.load false 1 (.t 7)), none, 0, false, []⟩,
    ⟨(some 9), (.bin 0 .neq (.t 8) (.c (.int .i64 2))), none, 0, false, []⟩,
    ⟨(some 10), (.mv (.t 9)), none, 0, false, []⟩,
    ⟨(some 11), (.fad 1 (.t 2)), (some (10, true)), 0, false, []⟩,
    ⟨(some 12), (.load false 1 (.t 11)), (some (10, true)), 0, false, []⟩,
    ⟨(some 13), (.mv (.t 1)), (some (10, true)), 0, false, []⟩,
    ⟨(some 14), (.bin 0 .gtr (.t 12) (.t 13)), (some (10, true)), 0, false, []⟩,
    ⟨(some 15), (.mv (.t 14)), (some (10, true)), 0, false, []⟩,
    ⟨(some 16), (.fad 2 (.t 2)), (some (15, false)), 0, false, []⟩,
    ⟨(some 17), (.load false 1 (.t 16)), (some (15, false)), 0, false, []⟩,
    ⟨(some 18), (.mv (.t 1)), (some (15, false)), 0, false, []⟩,
    ⟨(some 19), (.bin 0 .gtr (.t 17) (.t 18)), (some (15, false)), 0, false, []⟩,
    ⟨(some 20), (.pick (.t 15) (.c (.bool true)) (.t 19)), (some (10, true)), 0, false, []⟩,
    ⟨(some 21), (.pick (.t 10) (.t 20) (.c (.bool false))), none, 0, false, []⟩] false
def a67_2 : AC := .reg [⟨(some 4), (.mv (.c (.bool false))), none, 0, false, []⟩] false
def a67_3 : AC := .seq a67_2 .ret
def a67_4 : AC := .cond (.t 21) a67_3 .skip
def a67_5 : AC := .seq a67_1 a67_4
def a67_6 : AC := .reg [⟨(some 22), (.fad 4 (.t 2)), none, 0, false, []⟩,
    ⟨(some 23), (.load false 1 (.t 22)), none, 0, false, []⟩,
    ⟨(some 24), (.len false (.t 23)), none, 0, false, []⟩,
    ⟨(some 25), (.mv (.c (.int .i64 0))), none, 0, false, []⟩] false
def a67_7 : AC := .reg [⟨(some 26), (.bin 0 .lss (.t 25) (.t 24)), none, 0, false, []⟩] false
def a67_8 : AC := .cond (.t 26) .skip (.exit 0)
def a67_9 : AC := .reg [⟨(some 27), (.iad 5 (.t 23) (.t 25)), none, 0, false, []⟩,
    ⟨(some 28), (.load true 5 (.t 27)), none, 0, false, []⟩,
    ⟨(some 6), (.new [(.int .i64 0), (.int .i64 0), (.int .i64 0), (.int .i64 0), .nils]), none, 0, false, []⟩,
    ⟨none, (.store 5 (.t 6) (.t 28)), none, 0, false, []⟩] false
def a67_10 : AC := .reg [⟨(some 29), (.load true 5 (.t 6)), none, 0, false, []⟩,
    ⟨(some 30), (.mv (.t 1)), none, 0, false, []⟩,
    ⟨(some 31), (.call 67 [(.t 29), (.t 30)]), none, 0, false, []⟩,
    ⟨(some 32), (.un .not (.t 31)), none, 0, false, []⟩] false
def a67_11 : AC := .reg [⟨(some 4), (.mv (.c (.bool false))), none, 0, false, []⟩] false
def a67_12 : AC := .seq a67_11 .ret
def a67_13 : AC := .cond (.t 32) a67_12 .skip
def a67_14 : AC := .seq a67_10 a67_13
def a67_15 : AC := .seq a67_9 a67_14
def a67_16 : AC := .blk 1 a67_15
def a67_17 : AC := .reg [⟨(some 33), (.bin 0 .add (.t 25) (.c (.int .i64 1))), none, 0, false, []⟩,
    ⟨(some 25), (.mv (.t 33)), none, 0, false, []⟩] false
def a67_18 : AC := .seq a67_16 a67_17
def a67_19 : AC := .seq a67_8 a67_18
def a67_20 : AC := .seq a67_7 a67_19
def a67_21 : AC := .loop a67_20
def a67_22 : AC := .blk 0 a67_21
def a67_23 : AC := .seq a67_6 a67_22
def a67_24 : AC := .reg [⟨(some 4), (.mv (.c (.bool true))), none, 0, false, []⟩] false
def a67_25 : AC := .seq a67_24 .ret
def a67_26 : AC := .seq a67_23 a67_25
def a67_27 : AC := .seq a67_5 a67_26
def a67_28 : AC := .seq a67_0 a67_27
def af67 : AF := { ntmps := 34, res := [(.t 4)], body := a67_28 }
theorem tr67 : trF Tryz.prog Tryz.f67 = some af67 := by kernel_rfl
attribute [go_sem] af67 a67_0 a67_1 a67_2 a67_3 a67_4 a67_5 a67_6 a67_7 a67_8 a67_9 a67_10 a67_11 a67_12 a67_13 a67_14 a67_15 a67_16 a67_17 a67_18 a67_19 a67_20 a67_21 a67_22 a67_23 a67_24 a67_25 a67_26 a67_27 a67_28
def a80_0 : AC := .reg [⟨(some 1), (.box (.t 0)), none, 0, false, []⟩,
    ⟨(some 2), (.mv (.c (.int .i64 0))), none, 0, false, []⟩] false
def a80_1 : AC := .reg [⟨(some 3), (.load true 5 (.t 1)), none, 0, false, []⟩,
    ⟨(some 4), (.call 88 [(.t 3)]), none, 0, false, []⟩,
    ⟨(some 5), (.un .not (.t 4)), none, 0, false, []⟩] false
def a80_2 : AC := .reg [⟨(some 2), (.mv (.c (.int .i64 0))), none, 0, false, []⟩] false
def a80_3 : AC := .seq a80_2 .ret
def a80_4 : AC := .cond (.t 5) a80_3 .skip
def a80_5 : AC := .seq a80_1 a80_4
def a80_6 : AC := .reg [⟨(some 6), (.load true 5 (.t 1)), none, 0, false, []⟩,
    ⟨(some 7), (.call 111 [(.t 6), (.c (.int .i64 0))]), none, 0, false, []⟩,
    ⟨(some 2), (.mv (.t 7)), none, 0, false, []⟩] false
def a80_7 : AC := .seq a80_6 .ret
def a80_8 : AC := .seq a80_5 a80_7
def a80_9 : AC := .seq a80_0 a80_8
def af80 : AF := { ntmps := 8, res := [(.t 2)], body := a80_9 }
theorem tr80 : trF Tryz.prog Tryz.f80 = some af80 := by kernel_rfl
attribute [go_sem] af80 a80_0 a80_1 a80_2 a80_3 a80_4 a80_5 a80_6 a80_7 a80_8 a80_9
def a111_0 : AC := .reg [⟨(some 2), (.box (.t 0)), none, 0, false, []⟩,
    ⟨(some 4), (.mv (.c (.int .i64 0))), none, 0, false, []⟩] false
def a111_1 : AC := .reg [⟨(some 8), (.fad 0 (.t 2)), none, 0, false, []⟩,
    ⟨(some 9), (.load false 1 (.t 8)), none, 0, false, []⟩,
    ⟨(some 10), (.bin 0 .eql (.t 9) (.c (.int .i64 2))), none, 0, false, []⟩] false
def a111_2 : AC := .reg [⟨(some 11), (.fad 1 (.t 2)), none, 0, false, []⟩,
    ⟨(some 12), (.load false 1 (.t 11)), none, 0, false, []⟩,
    ⟨(some 13), (.bin 0 .add (.t 12) (.c (.int .i64 1))), none, 0, false, []⟩,
    ⟨(some 14), (.mv (.t 1)), none, 0, false, []⟩,
    ⟨(some 15), (.bin 0 .sub (.t 13) (.t 14)), none, 0, false, []⟩,
    ⟨(some 16), (.mnx true (.t 15) (.c (.int .i64 0))), none, 0, false, []⟩,
    ⟨(some 4), (.mv (.t 16)), none, 0, false, []⟩] false
def a111_3 : AC := .seq a111_2 .ret
def a111_4 : AC := .cond (.t 10) a111_3 .skip
def a111_5 : AC := .seq a111_1 a111_4
def a111_6 : AC := .reg [⟨(some 5), (.mv (.c (.int .i64 0))), none, 0, false, []⟩] false
def a111_7 : AC := .reg [⟨(some 17), (.fad 4 (.t 2)), none, 0, false, []⟩,
    ⟨(some 18), (.load false 1 (.t 17)), none, 0, false, []⟩,
    ⟨(some 19), (.len false (.t 18)), none, 0, false, []⟩,
    ⟨(some 20), (.mv (.c (.int .i64 0))), none, 0, false, []⟩] false
def a111_8 : AC := .reg [⟨(some 21), (.bin 0 .lss (.t 20) (.t 19)), none, 0, false, []⟩] false
def a111_9 : AC := .cond (.t 21) .skip (.exit 0)
def a111_10 : AC := .reg [⟨(some 22), (.mv (.t 20)), none, 0, false, []⟩,
    ⟨(some 23), (.iad 5 (.t 18) (.t 20)), none, 0, false, []⟩,
    ⟨(some 24), (.load true 5 (.t 23)), none, 0, false, []⟩,
    ⟨(some 7), (.new [(.int .i64 0), (.int .i64 0), (.int .i64 0), (.int .i64 0), .nils]), none, 0, false, []⟩,
    ⟨(some 6), (.mv (.t 22)), none, 0, false, []⟩,
    ⟨none, (.store 5 (.t 7) (.t 24)), none, 0, false, []⟩] false
def a111_11 : AC := .reg [⟨(some 25), (.mv (.t 5)), none, 0, false, []⟩,
    ⟨(some 26), (.load true 5 (.t 7)), none, 1, true, []⟩,
    ⟨(some 27), (.mv (.t 1)), none, 2, false, []⟩,
    ⟨(some 28), (.fad 0 (.t 2)), none, 3, false, []⟩,
    ⟨(some 29), (.load false 1 (.t 28)), none, 4, false, []⟩,
    ⟨(some 30), (.mv (.t 6)), none, 5, false, []⟩,
    ⟨(some 31), (.call 71 [(.t 29), (.t 30)]), none, 6, false, [1]⟩,
    ⟨(some 32), (.bin 0 .add (.t 27) (.t 31)), none, 7, false, []⟩,
    ⟨(some 33), (.call 111 [(.t 26), (.t 32)]), none, 8, false, []⟩,
    ⟨(some 34), (.mnx true (.t 25) (.t 33)), none, 9, false, []⟩,
    ⟨(some 5), (.mv (.t 34)), none, 10, false, []⟩] true
def a111_12 : AC := .seq a111_10 a111_11
def a111_13 : AC := .blk 1 a111_12
def a111_14 : AC := .reg [⟨(some 35), (.bin 0 .add (.t 20) (.c (.int .i64 1))), none, 0, false, []⟩,
    ⟨(some 20), (.mv (.t 35)), none, 0, false, []⟩] false
def a111_15 : AC := .seq a111_13 a111_14
def a111_16 : AC := .seq a111_9 a111_15
def a111_17 : AC := .seq a111_8 a111_16
def a111_18 : AC := .loop a111_17
def a111_19 : AC := .blk 0 a111_18
def a111_20 : AC := .seq a111_7 a111_19
def a111_21 : AC := .reg [⟨(some 36), (.mv (.t 5)), none, 0, false, []⟩,
    ⟨(some 4), (.mv (.t 36)), none, 0, false, []⟩] false
def a111_22 : AC := .seq a111_21 .ret
def a111_23 : AC := .seq a111_20 a111_22
def a111_24 : AC := .seq a111_6 a111_23
def a111_25 : AC := .seq a111_5 a111_24
def a111_26 : AC := .seq a111_0 a111_25
def af111 : AF := { ntmps := 37, res := [(.t 4)], body := a111_26 }
theorem tr111 : trF Tryz.prog Tryz.f111 = some af111 := by kernel_rfl
attribute [go_sem] af111 a111_0 a111_1 a111_2 a111_3 a111_4 a111_5 a111_6 a111_7 a111_8 a111_9 a111_10 a111_11 a111_12 a111_13 a111_14 a111_15 a111_16 a111_17 a111_18 a111_19 a111_20 a111_21 a111_22 a111_23 a111_24 a111_25 a111_26
end Go.Proofs.YtkldipbhenabfaaGreat.Abs

