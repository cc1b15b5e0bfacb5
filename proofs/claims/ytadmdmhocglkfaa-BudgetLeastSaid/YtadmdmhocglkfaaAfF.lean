/- The abstract code of functions, printed by program; that it is the translation of the model's code is decided by the kernel. -/
import Derived.Test.YtadmdmhocglkfaaEv
import Derived.Test.YtadmdmhocglkfaaProg
import Derived.KernelRfl
namespace Go.Proofs.Ytadmdmhocglkfaa.Abs
open Go Go.Proofs Go.Proofs.Ytadmdmhocglkfaa
def a7_0 : AC := .reg [⟨(some 4), (.mv (.c (.bool false))), none, 0, false, []⟩] false
def a7_1 : AC := .reg [⟨(some 8), (.mv (.t 0)), none, 0, false, []⟩,
    ⟨(some 9), (.len false (.t 8)), none, 0, false, []⟩,
    ⟨(some 10), (.bin 0 .gtr (.t 9) (.c (.int .i64 200))), none, 0, false, []⟩] false
def a7_2 : AC := .reg [⟨(some 4), (.mv (.c (.bool true))), none, 0, false, []⟩] false
def a7_3 : AC := .seq a7_2 .ret
def a7_4 : AC := .cond (.t 10) a7_3 .skip
def a7_5 : AC := .seq a7_1 a7_4
def a7_6 : AC := .reg [⟨(some 11), (.mv (.t 0)), none, 0, false, []⟩,
    ⟨(some 12), (.call 26 [(.t 11)]), none, 0, false, []⟩,
    ⟨(some 5), (.mv (.t 12)), none, 0, false, []⟩] false
def a7_7 : AC := .reg [⟨(some 6), (.mv (.c (.bool true))), none, 0, false, []⟩] false
def a7_8 : AC := .reg [⟨(some 7), (.mv (.c (.int .i64 0))), none, 0, false, []⟩] false
def a7_9 : AC := .reg [⟨(some 13), (.mv (.t 7)), none, 0, false, []⟩,
    ⟨(some 14), (.mv (.t 0)), none, 0, false, []⟩,
    ⟨(some 15), (.len false (.t 14)), none, 0, false, []⟩,
    ⟨(some 16), (.bin 0 .lss (.t 13) (.t 15)), none, 0, false, []⟩] false
def a7_10 : AC := .cond (.t 16) .skip (.exit 0)
def a7_11 : AC := .seq a7_9 a7_10
def a7_12 : AC := .reg [⟨(some 19), (.mv (.t 6)), none, 0, false, []⟩,
    ⟨(some 20), (.mv (.t 19)), none, 0, false, []⟩,
    ⟨(some 21), (.mv (.t 1)), (some (20, true)), 0, false, []⟩,
    ⟨(some 22), (.mv (.t 0)), (some (20, true)), 0, false, []⟩,
    ⟨(some 23), (.mv (.t 7)), (some (20, true)), 0, false, []⟩,
    ⟨(some 24), (.iad 1 (.t 22) (.t 23)), (some (20, true)), 0, false, []⟩,
    ⟨(some 25), (.load false 1 (.t 24)), (some (20, true)), 0, false, []⟩,
    ⟨(some 26), (.call 23 [(.t 21), (.t 25)]), (some (20, true)), 0, false, []⟩,
    ⟨(some 27), (.pick (.t 20) (.t 26) (.c (.bool false))), none, 0, false, []⟩,
    ⟨(some 6), (.mv (.t 27)), none, 0, false, []⟩] false
def a7_13 : AC := .blk 1 a7_12
def a7_14 : AC := .reg [⟨(some 17), (.mv (.t 7)), none, 0, false, []⟩,
    ⟨(some 18), (.bin 0 .add (.t 17) (.c (.int .i64 1))), none, 0, false, []⟩,
    ⟨(some 7), (.mv (.t 18)), none, 0, false, []⟩] false
def a7_15 : AC := .seq a7_13 a7_14
def a7_16 : AC := .seq a7_11 a7_15
def a7_17 : AC := .loop a7_16
def a7_18 : AC := .blk 0 a7_17
def a7_19 : AC := .seq a7_8 a7_18
def a7_20 : AC := .reg [⟨(some 28), (.mv (.t 5)), none, 0, false, []⟩,
    ⟨(some 29), (.mv (.t 0)), none, 0, false, []⟩,
    ⟨(some 30), (.call 27 [(.t 29)]), none, 0, false, []⟩,
    ⟨(some 31), (.call 19 [(.t 28), (.t 30)]), none, 0, false, []⟩,
    ⟨(some 32), (.mv (.t 31)), none, 0, false, []⟩,
    ⟨(some 33), (.mv (.t 1)), (some (32, true)), 0, false, []⟩,
    ⟨(some 34), (.mv (.t 5)), (some (32, true)), 0, false, []⟩,
    ⟨(some 35), (.call 23 [(.t 33), (.t 34)]), (some (32, true)), 0, false, []⟩,
    ⟨(some 36), (.mv (.t 6)), (some (32, true)), 0, false, []⟩,
    ⟨(some 37), (.bin 1 .eql (.t 35) (.t 36)), (some (32, true)), 0, false, []⟩,
    ⟨(some 38), (.pick (.t 32) (.t 37) (.c (.bool false))), none, 0, false, []⟩,
    ⟨(some 39), (.mv (.t 38)), none, 0, false, []⟩,
    ⟨(some 40), (.call 22 []), (some (39, true)), 0, false, []⟩,
    ⟨(some 41), (.pick (.t 39) (.t 40) (.c (.bool false))), none, 0, false, []⟩,
    ⟨(some 4), (.mv (.t 41)), none, 0, false, []⟩] false
def a7_21 : AC := .seq a7_20 .ret
def a7_22 : AC := .seq a7_19 a7_21
def a7_23 : AC := .seq a7_7 a7_22
def a7_24 : AC := .seq a7_6 a7_23
def a7_25 : AC := .seq a7_5 a7_24
def a7_26 : AC := .seq a7_0 a7_25
def af7 : AF := { ntmps := 42, res := [(.t 4)], body := a7_26 }
theorem tr7 : trF Try.prog Try.f7 = some af7 := by kernel_rfl
attribute [go_sem] af7 a7_0 a7_1 a7_2 a7_3 a7_4 a7_5 a7_6 a7_7 a7_8 a7_9 a7_10 a7_11 a7_12 a7_13 a7_14 a7_15 a7_16 a7_17 a7_18 a7_19 a7_20 a7_21 a7_22 a7_23 a7_24 a7_25 a7_26
def a26_0 : AC := .reg [⟨(some 2), (.mv (.c (.float .f64 0))), none, 0, false, []⟩] false
def a26_1 : AC := .reg [⟨(some 6), (.call 85 [(.c (.int .i64 1))]), none, 0, false, []⟩,
    ⟨(some 3), (.mv (.t 6)), none, 0, false, []⟩] false
def a26_2 : AC := .reg [⟨(some 7), (.mv (.t 0)), none, 0, false, []⟩,
    ⟨(some 8), (.len false (.t 7)), none, 0, false, []⟩,
    ⟨(some 9), (.mv (.c (.int .i64 0))), none, 0, false, []⟩] false
def a26_3 : AC := .reg [⟨(some 10), (.bin 0 .lss (.t 9) (.t 8)), none, 0, false, []⟩] false
def a26_4 : AC := .cond (.t 10) .skip (.exit 0)
def a26_5 : AC := .reg [⟨(some 11), (.iad 1 (.t 7) (.t 9)), none, 0, false, []⟩,
    ⟨(some 12), (.load false 1 (.t 11)), none, 0, false, []⟩,
    ⟨(some 5), (.mv (.t 12)), none, 0, false, []⟩] false
def a26_6 : AC := .reg [⟨(some 13), (.mv (.t 5)), none, 0, false, []⟩,
    ⟨(some 14), (.call 80 [(.t 13)]), none, 0, false, []⟩] false
def a26_7 : AC := .reg [⟨(some 15), (.call 84 []), none, 0, false, []⟩,
    ⟨(some 2), (.mv (.t 15)), none, 0, false, []⟩] false
def a26_8 : AC := .seq a26_7 .ret
def a26_9 : AC := .cond (.t 14) a26_8 .skip
def a26_10 : AC := .seq a26_6 a26_9
def a26_11 : AC := .reg [⟨(some 16), (.mv (.t 5)), none, 0, false, []⟩,
    ⟨(some 17), (.mv (.t 3)), none, 0, false, []⟩,
    ⟨(some 18), (.bin 3 .lss (.t 16) (.t 17)), none, 0, false, []⟩] false
def a26_12 : AC := .reg [⟨(some 19), (.mv (.t 5)), none, 0, false, []⟩,
    ⟨(some 3), (.mv (.t 19)), none, 0, false, []⟩] false
def a26_13 : AC := .cond (.t 18) a26_12 .skip
def a26_14 : AC := .seq a26_11 a26_13
def a26_15 : AC := .seq a26_10 a26_14
def a26_16 : AC := .seq a26_5 a26_15
def a26_17 : AC := .blk 1 a26_16
def a26_18 : AC := .reg [⟨(some 20), (.bin 0 .add (.t 9) (.c (.int .i64 1))), none, 0, false, []⟩,
    ⟨(some 9), (.mv (.t 20)), none, 0, false, []⟩] false
def a26_19 : AC := .seq a26_17 a26_18
def a26_20 : AC := .seq a26_4 a26_19
def a26_21 : AC := .seq a26_3 a26_20
def a26_22 : AC := .loop a26_21
def a26_23 : AC := .blk 0 a26_22
def a26_24 : AC := .seq a26_2 a26_23
def a26_25 : AC := .reg [⟨(some 21), (.mv (.t 3)), none, 0, false, []⟩,
    ⟨(some 22), (.bin 3 .eql (.t 21) (.c (.float .f64 0))), none, 0, false, []⟩] false
def a26_26 : AC := .reg [⟨(some 2), (.mv (.c (.float .f64 0))), none, 0, false, []⟩] false
def a26_27 : AC := .seq a26_26 .ret
def a26_28 : AC := .cond (.t 22) a26_27 .skip
def a26_29 : AC := .seq a26_25 a26_28
def a26_30 : AC := .reg [⟨(some 23), (.mv (.t 3)), none, 0, false, []⟩,
    ⟨(some 2), (.mv (.t 23)), none, 0, false, []⟩] false
def a26_31 : AC := .seq a26_30 .ret
def a26_32 : AC := .seq a26_29 a26_31
def a26_33 : AC := .seq a26_24 a26_32
def a26_34 : AC := .seq a26_1 a26_33
def a26_35 : AC := .seq a26_0 a26_34
def af26 : AF := { ntmps := 24, res := [(.t 2)], body := a26_35 }
theorem tr26 : trF Try.prog Try.f26 = some af26 := by kernel_rfl
attribute [go_sem] af26 a26_0 a26_1 a26_2 a26_3 a26_4 a26_5 a26_6 a26_7 a26_8 a26_9 a26_10 a26_11 a26_12 a26_13 a26_14 a26_15 a26_16 a26_17 a26_18 a26_19 a26_20 a26_21 a26_22 a26_23 a26_24 a26_25 a26_26 a26_27 a26_28 a26_29 a26_30 a26_31 a26_32 a26_33 a26_34 a26_35
def a27_0 : AC := .reg [⟨(some 2), (.mv (.c (.float .f64 0))), none, 0, false, []⟩] false
def a27_1 : AC := .reg [⟨(some 5), (.call 85 [(.c (.int .i64 1))]), none, 0, false, []⟩,
    ⟨(some 3), (.mv (.t 5)), none, 0, false, []⟩] false
def a27_2 : AC := .reg [⟨(some 4), (.mv (.c (.int .i64 0))), none, 0, false, []⟩] false
def a27_3 : AC := .reg [⟨(some 6), (.mv (.t 4)), none, 0, false, []⟩,
    ⟨(some 7), (.mv (.t 0)), none, 0, false, []⟩,
    ⟨(some 8), (.len false (.t 7)), none, 0, false, []⟩,
    ⟨(some 9), (.bin 0 .lss (.t 6) (.t 8)), none, 0, false, []⟩] false
def a27_4 : AC := .cond (.t 9) .skip (.exit 0)
def a27_5 : AC := .seq a27_3 a27_4
def a27_6 : AC := .reg [⟨(some 12), (.mv (.t 0)), none, 0, false, []⟩,
    ⟨(some 13), (.mv (.t 4)), none, 1, false, []⟩,
    ⟨(some 14), (.iad 1 (.t 12) (.t 13)), none, 2, false, []⟩,
    ⟨(some 15), (.load false 1 (.t 14)), none, 3, false, []⟩,
    ⟨(some 16), (.mv (.t 0)), none, 4, false, []⟩,
    ⟨(some 17), (.mv (.t 4)), none, 5, false, []⟩,
    ⟨(some 18), (.iad 1 (.t 16) (.t 17)), none, 6, false, []⟩,
    ⟨(some 19), (.load false 1 (.t 18)), none, 7, false, []⟩,
    ⟨(some 20), (.bin 3 .neq (.t 15) (.t 19)), none, 8, false, []⟩] true
def a27_7 : AC := .reg [⟨(some 21), (.call 84 []), none, 0, false, []⟩,
    ⟨(some 2), (.mv (.t 21)), none, 0, false, []⟩] false
def a27_8 : AC := .seq a27_7 .ret
def a27_9 : AC := .cond (.t 20) a27_8 .skip
def a27_10 : AC := .seq a27_6 a27_9
def a27_11 : AC := .reg [⟨(some 22), (.mv (.t 0)), none, 0, false, []⟩,
    ⟨(some 23), (.mv (.t 4)), none, 0, false, []⟩,
    ⟨(some 24), (.iad 1 (.t 22) (.t 23)), none, 0, false, []⟩,
    ⟨(some 25), (.load false 1 (.t 24)), none, 0, false, []⟩,
    ⟨(some 26), (.mv (.t 3)), none, 0, false, []⟩,
    ⟨(some 27), (.bin 3 .lss (.t 25) (.t 26)), none, 0, false, []⟩] false
def a27_12 : AC := .reg [⟨(some 28), (.mv (.t 0)), none, 0, false, []⟩,
    ⟨(some 29), (.mv (.t 4)), none, 0, false, []⟩,
    ⟨(some 30), (.iad 1 (.t 28) (.t 29)), none, 0, false, []⟩,
    ⟨(some 31), (.load false 1 (.t 30)), none, 0, false, []⟩,
    ⟨(some 3), (.mv (.t 31)), none, 0, false, []⟩] false
def a27_13 : AC := .cond (.t 27) a27_12 .skip
def a27_14 : AC := .seq a27_11 a27_13
def a27_15 : AC := .seq a27_10 a27_14
def a27_16 : AC := .blk 1 a27_15
def a27_17 : AC := .reg [⟨(some 10), (.mv (.t 4)), none, 0, false, []⟩,
    ⟨(some 11), (.bin 0 .add (.t 10) (.c (.int .i64 1))), none, 0, false, []⟩,
    ⟨(some 4), (.mv (.t 11)), none, 0, false, []⟩] false
def a27_18 : AC := .seq a27_16 a27_17
def a27_19 : AC := .seq a27_5 a27_18
def a27_20 : AC := .loop a27_19
def a27_21 : AC := .blk 0 a27_20
def a27_22 : AC := .seq a27_2 a27_21
def a27_23 : AC := .reg [⟨(some 32), (.mv (.t 3)), none, 0, false, []⟩,
    ⟨(some 33), (.bin 3 .eql (.t 32) (.c (.float .f64 0))), none, 0, false, []⟩] false
def a27_24 : AC := .reg [⟨(some 2), (.mv (.c (.float .f64 0))), none, 0, false, []⟩] false
def a27_25 : AC := .seq a27_24 .ret
def a27_26 : AC := .cond (.t 33) a27_25 .skip
def a27_27 : AC := .seq a27_23 a27_26
def a27_28 : AC := .reg [⟨(some 34), (.mv (.t 3)), none, 0, false, []⟩,
    ⟨(some 2), (.mv (.t 34)), none, 0, false, []⟩] false
def a27_29 : AC := .seq a27_28 .ret
def a27_30 : AC := .seq a27_27 a27_29
def a27_31 : AC := .seq a27_22 a27_30
def a27_32 : AC := .seq a27_1 a27_31
def a27_33 : AC := .seq a27_0 a27_32
def af27 : AF := { ntmps := 35, res := [(.t 2)], body := a27_33 }
theorem tr27 : trF Try.prog Try.f27 = some af27 := by kernel_rfl
attribute [go_sem] af27 a27_0 a27_1 a27_2 a27_3 a27_4 a27_5 a27_6 a27_7 a27_8 a27_9 a27_10 a27_11 a27_12 a27_13 a27_14 a27_15 a27_16 a27_17 a27_18 a27_19 a27_20 a27_21 a27_22 a27_23 a27_24 a27_25 a27_26 a27_27 a27_28 a27_29 a27_30 a27_31 a27_32 a27_33
end Go.Proofs.Ytadmdmhocglkfaa.Abs
