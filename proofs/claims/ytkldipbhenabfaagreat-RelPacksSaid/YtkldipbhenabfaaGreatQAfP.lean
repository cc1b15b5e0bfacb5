/- The abstract code of functions, printed by program; that it is the translation of the model's code is decided by the kernel. -/
import Derived.Test.YtkldipbhenabfaaGreatQEv
import Derived.Test.YtkldipbhenabfaaGreatProg
import Derived.KernelRfl
namespace Go.Proofs.YtkldipbhenabfaaGreat.Abs
open Go Go.Proofs Go.Proofs.YtkldipbhenabfaaGreat
def a7_0 : AC := .reg [⟨(some 4), (.mv (.c (.bool false))), none, 0, false, []⟩] false
def a7_1 : AC := .reg [⟨(some 7), (.mv (.t 0)), none, 0, false, []⟩,
    ⟨(some 8), (.len false (.t 7)), none, 0, false, []⟩,
    ⟨(some 9), (.mv (.t 1)), none, 0, false, []⟩,
    ⟨(some 10), (.bin 0 .gtr (.t 8) (.t 9)), none, 0, false, []⟩] false
def a7_2 : AC := .reg [⟨(some 4), (.mv (.c (.bool true))), none, 0, false, []⟩] false
def a7_3 : AC := .seq a7_2 .ret
def a7_4 : AC := .cond (.t 10) a7_3 .skip
def a7_5 : AC := .seq a7_1 a7_4
def a7_6 : AC := .reg [⟨(some 5), (.mv (.c (.int .i64 0))), none, 0, false, []⟩] false
def a7_7 : AC := .reg [⟨(some 6), (.mv (.c (.int .i64 0))), none, 0, false, []⟩] false
def a7_8 : AC := .reg [⟨(some 11), (.mv (.t 6)), none, 0, false, []⟩,
    ⟨(some 12), (.mv (.t 0)), none, 0, false, []⟩,
    ⟨(some 13), (.len false (.t 12)), none, 0, false, []⟩,
    ⟨(some 14), (.bin 0 .lss (.t 11) (.t 13)), none, 0, false, []⟩,
    ⟨(some 15), (.mv (.t 14)), none, 0, false, []⟩,
    ⟨(some 16), (.mv (.t 5)), (some (15, true)), 0, false, []⟩,
    ⟨(some 17), (.mv (.t 1)), (some (15, true)), 0, false, []⟩,
    ⟨(some 18), (.bin 0 .leq (.t 16) (.t 17)), (some (15, true)), 0, false, []⟩,
    ⟨(some 19), (.pick (.t 15) (.t 18) (.c (.bool false))), none, 0, false, []⟩] false
def a7_9 : AC := .cond (.t 19) .skip (.exit 0)
def a7_10 : AC := .seq a7_8 a7_9
def a7_11 : AC := .reg [⟨(some 22), (.mv (.t 5)), none, 0, false, []⟩,
    ⟨(some 23), (.mv (.t 0)), none, 0, false, []⟩,
    ⟨(some 24), (.mv (.t 6)), none, 0, false, []⟩,
    ⟨(some 25), (.iad 6 (.t 23) (.t 24)), none, 0, false, []⟩,
    ⟨(some 26), (.fad 0 (.t 25)), none, 0, false, []⟩,
    ⟨(some 27), (.load true 5 (.t 26)), none, 0, false, []⟩,
    ⟨(some 28), (.mv (.t 1)), none, 0, false, []⟩,
    ⟨(some 29), (.mv (.t 5)), none, 0, false, []⟩,
    ⟨(some 30), (.bin 0 .sub (.t 28) (.t 29)), none, 0, false, []⟩,
    ⟨(some 31), (.call 26 [(.t 27), (.t 30), (.c (.int .i64 200))]), none, 0, false, []⟩,
    ⟨(some 32), (.bin 0 .add (.t 22) (.t 31)), none, 0, false, []⟩,
    ⟨(some 5), (.mv (.t 32)), none, 0, false, []⟩] false
def a7_12 : AC := .blk 1 a7_11
def a7_13 : AC := .reg [⟨(some 20), (.mv (.t 6)), none, 0, false, []⟩,
    ⟨(some 21), (.bin 0 .add (.t 20) (.c (.int .i64 1))), none, 0, false, []⟩,
    ⟨(some 6), (.mv (.t 21)), none, 0, false, []⟩] false
def a7_14 : AC := .seq a7_12 a7_13
def a7_15 : AC := .seq a7_10 a7_14
def a7_16 : AC := .loop a7_15
def a7_17 : AC := .blk 0 a7_16
def a7_18 : AC := .seq a7_7 a7_17
def a7_19 : AC := .reg [⟨(some 33), (.mv (.t 5)), none, 0, false, []⟩,
    ⟨(some 34), (.mv (.t 1)), none, 0, false, []⟩,
    ⟨(some 35), (.bin 0 .gtr (.t 33) (.t 34)), none, 0, false, []⟩,
    ⟨(some 4), (.mv (.t 35)), none, 0, false, []⟩] false
def a7_20 : AC := .seq a7_19 .ret
def a7_21 : AC := .seq a7_18 a7_20
def a7_22 : AC := .seq a7_6 a7_21
def a7_23 : AC := .seq a7_5 a7_22
def a7_24 : AC := .seq a7_0 a7_23
def af7 : AF := { ntmps := 36, res := [(.t 4)], body := a7_24 }
theorem tr7 : trF Tryz.prog Tryz.f7 = some af7 := by kernel_rfl
attribute [go_sem] af7 a7_0 a7_1 a7_2 a7_3 a7_4 a7_5 a7_6 a7_7 a7_8 a7_9 a7_10 a7_11 a7_12 a7_13 a7_14 a7_15 a7_16 a7_17 a7_18 a7_19 a7_20 a7_21 a7_22 a7_23 a7_24
def a24_0 : AC := .reg [⟨(some 2), (.box (.t 0)), none, 0, false, []⟩,
    ⟨(some 3), (.box (.t 1)), none, 0, false, []⟩,
    ⟨(some 4), (.mv (.c (.bool false))), none, 0, false, []⟩] false
def a24_1 : AC := .reg [⟨(some 5), (.load true 5 (.t 2)), none, 0, false, []⟩,
    ⟨(some 6), (.call 54 [(.t 5)]), none, 1, false, []⟩,
    ⟨(some 7), (.mv (.t 6)), none, 2, false, []⟩,
    ⟨(some 8), (.load true 5 (.t 3)), (some (7, true)), 3, false, []⟩,
    ⟨(some 9), (.call 54 [(.t 8)]), (some (7, true)), 4, false, []⟩,
    ⟨(some 10), (.pick (.t 7) (.t 9) (.c (.bool false))), none, 5, false, []⟩,
    ⟨(some 11), (.mv (.t 10)), none, 6, false, []⟩,
    ⟨(some 12), (.load true 5 (.t 2)), (some (11, true)), 7, false, []⟩,
    ⟨(some 13), (.call 64 [(.t 12)]), (some (11, true)), 8, true, []⟩,
    ⟨(some 14), (.load true 5 (.t 3)), (some (11, true)), 9, false, [8]⟩,
    ⟨(some 15), (.call 64 [(.t 14)]), (some (11, true)), 10, false, []⟩,
    ⟨(some 16), (.call 57 [(.t 13), (.t 15)]), (some (11, true)), 11, false, []⟩,
    ⟨(some 17), (.pick (.t 11) (.t 16) (.c (.bool false))), none, 12, false, []⟩,
    ⟨(some 4), (.mv (.t 17)), none, 13, false, []⟩] true
def a24_2 : AC := .seq a24_1 .ret
def a24_3 : AC := .seq a24_0 a24_2
def af24 : AF := { ntmps := 18, res := [(.t 4)], body := a24_3 }
theorem tr24 : trF Tryz.prog Tryz.f24 = some af24 := by kernel_rfl
attribute [go_sem] af24 a24_0 a24_1 a24_2 a24_3
def a27_0 : AC := .reg [⟨(some 4), (.mv (.c (.bool false))), none, 0, false, []⟩] false
def a27_1 : AC := .reg [⟨(some 7), (.mv (.t 0)), none, 0, false, []⟩,
    ⟨(some 8), (.call 66 [(.t 7)]), none, 0, false, []⟩,
    ⟨(some 9), (.un .not (.t 8)), none, 0, false, []⟩] false
def a27_2 : AC := .reg [⟨(some 4), (.mv (.c (.bool false))), none, 0, false, []⟩] false
def a27_3 : AC := .seq a27_2 .ret
def a27_4 : AC := .cond (.t 9) a27_3 .skip
def a27_5 : AC := .seq a27_1 a27_4
def a27_6 : AC := .reg [⟨(some 10), (.mv (.t 0)), none, 0, false, []⟩,
    ⟨(some 11), (.len false (.t 10)), none, 0, false, []⟩,
    ⟨(some 12), (.mv (.c (.int .i64 0))), none, 0, false, []⟩] false
def a27_7 : AC := .reg [⟨(some 13), (.bin 0 .lss (.t 12) (.t 11)), none, 0, false, []⟩] false
def a27_8 : AC := .cond (.t 13) .skip (.exit 0)
def a27_9 : AC := .reg [⟨(some 14), (.iad 6 (.t 10) (.t 12)), none, 0, false, []⟩,
    ⟨(some 15), (.load true 6 (.t 14)), none, 0, false, []⟩,
    ⟨(some 6), (.new [(.int .i64 0), (.int .i64 0), (.int .i64 0), (.int .i64 0), .nils, (.int .i64 0)]), none, 0, false, []⟩,
    ⟨none, (.store 6 (.t 6) (.t 15)), none, 0, false, []⟩] false
def a27_10 : AC := .reg [⟨(some 16), (.fad 5 (.t 6)), none, 0, false, []⟩,
    ⟨(some 17), (.load false 1 (.t 16)), none, 0, false, []⟩,
    ⟨(some 18), (.mv (.t 1)), none, 0, false, []⟩,
    ⟨(some 19), (.bin 0 .gtr (.t 17) (.t 18)), none, 0, false, []⟩,
    ⟨(some 20), (.mv (.t 19)), none, 0, false, []⟩,
    ⟨(some 21), (.fad 0 (.t 6)), (some (20, false)), 0, false, []⟩,
    ⟨(some 22), (.load true 5 (.t 21)), (some (20, false)), 0, false, []⟩,
    ⟨(some 23), (.mv (.t 1)), (some (20, false)), 0, false, []⟩,
    ⟨(some 24), (.call 67 [(.t 22), (.t 23)]), (some (20, false)), 0, false, []⟩,
    ⟨(some 25), (.un .not (.t 24)), (some (20, false)), 0, false, []⟩,
    ⟨(some 26), (.pick (.t 20) (.c (.bool true)) (.t 25)), none, 0, false, []⟩] false
def a27_11 : AC := .reg [⟨(some 4), (.mv (.c (.bool false))), none, 0, false, []⟩] false
def a27_12 : AC := .seq a27_11 .ret
def a27_13 : AC := .cond (.t 26) a27_12 .skip
def a27_14 : AC := .seq a27_10 a27_13
def a27_15 : AC := .seq a27_9 a27_14
def a27_16 : AC := .blk 1 a27_15
def a27_17 : AC := .reg [⟨(some 27), (.bin 0 .add (.t 12) (.c (.int .i64 1))), none, 0, false, []⟩,
    ⟨(some 12), (.mv (.t 27)), none, 0, false, []⟩] false
def a27_18 : AC := .seq a27_16 a27_17
def a27_19 : AC := .seq a27_8 a27_18
def a27_20 : AC := .seq a27_7 a27_19
def a27_21 : AC := .loop a27_20
def a27_22 : AC := .blk 0 a27_21
def a27_23 : AC := .seq a27_6 a27_22
def a27_24 : AC := .reg [⟨(some 4), (.mv (.c (.bool true))), none, 0, false, []⟩] false
def a27_25 : AC := .seq a27_24 .ret
def a27_26 : AC := .seq a27_23 a27_25
def a27_27 : AC := .seq a27_5 a27_26
def a27_28 : AC := .seq a27_0 a27_27
def af27 : AF := { ntmps := 28, res := [(.t 4)], body := a27_28 }
theorem tr27 : trF Tryz.prog Tryz.f27 = some af27 := by kernel_rfl
attribute [go_sem] af27 a27_0 a27_1 a27_2 a27_3 a27_4 a27_5 a27_6 a27_7 a27_8 a27_9 a27_10 a27_11 a27_12 a27_13 a27_14 a27_15 a27_16 a27_17 a27_18 a27_19 a27_20 a27_21 a27_22 a27_23 a27_24 a27_25 a27_26 a27_27 a27_28
def a28_0 : AC := .reg [⟨(some 0), (.mv (.c (.int .i64 0))), none, 0, false, []⟩] false
def a28_1 : AC := .reg [⟨(some 0), (.mv (.c (.int .i64 996))), none, 0, false, []⟩] false
def a28_2 : AC := .seq a28_1 .ret
def a28_3 : AC := .seq a28_0 a28_2
def af28 : AF := { ntmps := 1, res := [(.t 0)], body := a28_3 }
theorem tr28 : trF Tryz.prog Tryz.f28 = some af28 := by kernel_rfl
attribute [go_sem] af28 a28_0 a28_1 a28_2 a28_3
def a37_0 : AC := .reg [⟨(some 2), (.mv (.c (.bool false))), none, 0, false, []⟩] false
def a37_1 : AC := .reg [⟨(some 3), (.mv (.t 0)), none, 0, false, []⟩,
    ⟨(some 4), (.call 73 [(.t 3)]), none, 0, false, []⟩,
    ⟨(some 5), (.mv (.t 4)), none, 0, false, []⟩,
    ⟨(some 6), (.mv (.t 0)), (some (5, true)), 0, false, []⟩,
    ⟨(some 7), (.call 74 [(.t 6), (.c (.int .i64 996))]), (some (5, true)), 0, false, []⟩,
    ⟨(some 8), (.pick (.t 5) (.t 7) (.c (.bool false))), none, 0, false, []⟩,
    ⟨(some 2), (.mv (.t 8)), none, 0, false, []⟩] false
def a37_2 : AC := .seq a37_1 .ret
def a37_3 : AC := .seq a37_0 a37_2
def af37 : AF := { ntmps := 9, res := [(.t 2)], body := a37_3 }
theorem tr37 : trF Tryz.prog Tryz.f37 = some af37 := by kernel_rfl
attribute [go_sem] af37 a37_0 a37_1 a37_2 a37_3
def a42_0 : AC := .reg [⟨(some 2), (.new [(.int .i64 0), (.int .i64 0), (.int .i64 0), (.int .i64 0), .nils]), none, 0, false, []⟩] false
def a42_1 : AC := .reg [⟨(some 3), (.mv (.t 0)), none, 0, false, []⟩,
    ⟨(some 4), (.build [(.int .i64 0), (.int .i64 0), (.int .i64 0), (.int .i64 0), .nils] [(0, (1, (.c (.int .i64 2)))), (1, (1, (.t 3)))]), none, 0, false, []⟩,
    ⟨none, (.store 5 (.t 2) (.t 4)), none, 0, false, []⟩] false
def a42_2 : AC := .seq a42_1 .ret
def a42_3 : AC := .seq a42_0 a42_2
def af42 : AF := { ntmps := 5, res := [(.cell 2 true 5)], body := a42_3 }
theorem tr42 : trF Tryz.prog Tryz.f42 = some af42 := by kernel_rfl
attribute [go_sem] af42 a42_0 a42_1 a42_2 a42_3
def a54_0 : AC := .reg [⟨(some 1), (.box (.t 0)), none, 0, false, []⟩,
    ⟨(some 2), (.mv (.c (.bool false))), none, 0, false, []⟩] false
def a54_1 : AC := .reg [⟨(some 3), (.load true 5 (.t 1)), none, 0, false, []⟩,
    ⟨(some 4), (.call 96 [(.t 3), (.c (.int .i64 1))]), none, 0, false, []⟩,
    ⟨(some 2), (.mv (.t 4)), none, 0, false, []⟩] false
def a54_2 : AC := .seq a54_1 .ret
def a54_3 : AC := .seq a54_0 a54_2
def af54 : AF := { ntmps := 5, res := [(.t 2)], body := a54_3 }
theorem tr54 : trF Tryz.prog Tryz.f54 = some af54 := by kernel_rfl
attribute [go_sem] af54 a54_0 a54_1 a54_2 a54_3
def a57_0 : AC := .reg [⟨(some 2), (.box (.t 0)), none, 0, false, []⟩,
    ⟨(some 3), (.box (.t 1)), none, 0, false, []⟩,
    ⟨(some 4), (.mv (.c (.bool false))), none, 0, false, []⟩] false
def a57_1 : AC := .reg [⟨(some 6), (.fad 0 (.t 2)), none, 0, false, []⟩,
    ⟨(some 7), (.load false 1 (.t 6)), none, 0, false, []⟩,
    ⟨(some 8), (.fad 0 (.t 3)), none, 0, false, []⟩,
    ⟨(some 9), (.load false 1 (.t 8)), none, 0, false, []⟩,
    ⟨(some 10), (.bin 0 .neq (.t 7) (.t 9)), none, 0, false, []⟩,
    ⟨(some 11), (.mv (.t 10)), none, 0, false, []⟩,
    ⟨(some 12), (.fad 1 (.t 2)), (some (11, false)), 0, false, []⟩,
    ⟨(some 13), (.load false 1 (.t 12)), (some (11, false)), 0, false, []⟩,
    ⟨(some 14), (.fad 1 (.t 3)), (some (11, false)), 0, false, []⟩,
    ⟨(some 15), (.load false 1 (.t 14)), (some (11, false)), 0, false, []⟩,
    ⟨(some 16), (.bin 0 .neq (.t 13) (.t 15)), (some (11, false)), 0, false, []⟩,
    ⟨(some 17), (.pick (.t 11) (.c (.bool true)) (.t 16)), none, 0, false, []⟩,
    ⟨(some 18), (.mv (.t 17)), none, 0, false, []⟩,
    ⟨(some 19), (.fad 2 (.t 2)), (some (18, false)), 0, false, []⟩,
    ⟨(some 20), (.load false 1 (.t 19)), (some (18, false)), 0, false, []⟩,
    ⟨(some 21), (.fad 2 (.t 3)), (some (18, false)), 0, false, []⟩,
    ⟨(some 22), (.load false 1 (.t 21)), (some (18, false)), 0, false, []⟩,
    ⟨(some 23), (.bin 0 .neq (.t 20) (.t 22)), (some (18, false)), 0, false, []⟩,
    ⟨(some 24), (.pick (.t 18) (.c (.bool true)) (.t 23)), none, 0, false, []⟩,
    ⟨(some 25), (.mv (.t 24)), none, 0, false, []⟩,
    ⟨(some 26), (.fad 3 (.t 2)), (some (25, false)), 0, false, []⟩,
    ⟨(some 27), (.load false 1 (.t 26)), (some (25, false)), 0, false, []⟩,
    ⟨(some 28), (.fad 3 (.t 3)), (some (25, false)), 0, false, []⟩,
    ⟨(some 29), (.load false 1 (.t 28)), (some (25, false)), 0, false, []⟩,
    ⟨(some 30), (.bin 0 .neq (.t 27) (.t 29)), (some (25, false)), 0, false, []⟩,
    ⟨(some 31), (.pick (.t 25) (.c (.bool true)) (.t 30)), none, 0, false, []⟩,
    ⟨(some 32), (.mv (.t 31)), none, 0, false, []⟩,
    ⟨(some 33), (.fad 4 (.t 2)), (some (32, false)), 0, false, []⟩,
    ⟨(some 34), (.load false 1 (.t 33)), (some (32, false)), 0, false, []⟩,
    ⟨(some 35), (.len false (.t 34)), (some (32, false)), 0, false, []⟩,
    ⟨(some 36), (.fad 4 (.t 3)), (some (32, false)), 0, false, []⟩,
    ⟨(some 37), (.load false 1 (.t 36)), (some (32, false)), 0, false, []⟩,
    ⟨(some 38), (.len false (.t 37)), (some (32, false)), 0, false, []⟩,
    ⟨(some 39), (.bin 0 .neq (.t 35) (.t 38)), (some (32, false)), 0, false, []⟩,
    ⟨(some 40), (.pick (.t 32) (.c (.bool true)) (.t 39)), none, 0, false, []⟩] false
def a57_2 : AC := .reg [⟨(some 4), (.mv (.c (.bool false))), none, 0, false, []⟩] false
def a57_3 : AC := .seq a57_2 .ret
def a57_4 : AC := .cond (.t 40) a57_3 .skip
def a57_5 : AC := .seq a57_1 a57_4
def a57_6 : AC := .reg [⟨(some 41), (.fad 4 (.t 2)), none, 0, false, []⟩,
    ⟨(some 42), (.load false 1 (.t 41)), none, 0, false, []⟩,
    ⟨(some 43), (.len false (.t 42)), none, 0, false, []⟩,
    ⟨(some 44), (.mv (.c (.int .i64 0))), none, 0, false, []⟩] false
def a57_7 : AC := .reg [⟨(some 45), (.bin 0 .lss (.t 44) (.t 43)), none, 0, false, []⟩] false
def a57_8 : AC := .cond (.t 45) .skip (.exit 0)
def a57_9 : AC := .reg [⟨(some 46), (.mv (.t 44)), none, 0, false, []⟩,
    ⟨(some 5), (.mv (.t 46)), none, 0, false, []⟩] false
def a57_10 : AC := .reg [⟨(some 47), (.fad 4 (.t 2)), none, 0, false, []⟩,
    ⟨(some 48), (.load false 1 (.t 47)), none, 1, false, []⟩,
    ⟨(some 49), (.mv (.t 5)), none, 2, false, []⟩,
    ⟨(some 50), (.iad 5 (.t 48) (.t 49)), none, 3, false, []⟩,
    ⟨(some 51), (.load true 5 (.t 50)), none, 4, false, []⟩,
    ⟨(some 52), (.fad 4 (.t 3)), none, 5, false, []⟩,
    ⟨(some 53), (.load false 1 (.t 52)), none, 6, false, []⟩,
    ⟨(some 54), (.mv (.t 5)), none, 7, false, []⟩,
    ⟨(some 55), (.iad 5 (.t 53) (.t 54)), none, 8, false, []⟩,
    ⟨(some 56), (.load true 5 (.t 55)), none, 9, false, []⟩,
    ⟨(some 57), (.call 57 [(.t 51), (.t 56)]), none, 10, false, []⟩,
    ⟨(some 58), (.un .not (.t 57)), none, 11, false, []⟩] true
def a57_11 : AC := .reg [⟨(some 4), (.mv (.c (.bool false))), none, 0, false, []⟩] false
def a57_12 : AC := .seq a57_11 .ret
def a57_13 : AC := .cond (.t 58) a57_12 .skip
def a57_14 : AC := .seq a57_10 a57_13
def a57_15 : AC := .seq a57_9 a57_14
def a57_16 : AC := .blk 1 a57_15
def a57_17 : AC := .reg [⟨(some 59), (.bin 0 .add (.t 44) (.c (.int .i64 1))), none, 0, false, []⟩,
    ⟨(some 44), (.mv (.t 59)), none, 0, false, []⟩] false
def a57_18 : AC := .seq a57_16 a57_17
def a57_19 : AC := .seq a57_8 a57_18
def a57_20 : AC := .seq a57_7 a57_19
def a57_21 : AC := .loop a57_20
def a57_22 : AC := .blk 0 a57_21
def a57_23 : AC := .seq a57_6 a57_22
def a57_24 : AC := .reg [⟨(some 4), (.mv (.c (.bool true))), none, 0, false, []⟩] false
def a57_25 : AC := .seq a57_24 .ret
def a57_26 : AC := .seq a57_23 a57_25
def a57_27 : AC := .seq a57_5 a57_26
def a57_28 : AC := .seq a57_0 a57_27
def af57 : AF := { ntmps := 60, res := [(.t 4)], body := a57_28 }
theorem tr57 : trF Tryz.prog Tryz.f57 = some af57 := by kernel_rfl
attribute [go_sem] af57 a57_0 a57_1 a57_2 a57_3 a57_4 a57_5 a57_6 a57_7 a57_8 a57_9 a57_10 a57_11 a57_12 a57_13 a57_14 a57_15 a57_16 a57_17 a57_18 a57_19 a57_20 a57_21 a57_22 a57_23 a57_24 a57_25 a57_26 a57_27 a57_28
end Go.Proofs.YtkldipbhenabfaaGreat.Abs

