/- The abstract code of functions, printed by program; that it is the translation of the model's code is decided by the kernel. -/
import Derived.Test.YtkldipbhenabfaaGreatREv
import Derived.Test.YtkldipbhenabfaaGreatProg
import Derived.KernelRfl
namespace Go.Proofs.YtkldipbhenabfaaGreat.Abs
open Go Go.Proofs Go.Proofs.YtkldipbhenabfaaGreat
def a7_0 : AC := .reg [⟨(some 4), (.mv (.c (.bool false))), none, 0, false, []⟩] false
def a7_1 : AC := .reg [⟨(some 7), (.mv (.t 0)), none, 0, false, []⟩,
    ⟨(some 8), (.len false (.t 7)), none, 0, false, []⟩,
    ⟨(some 9), (.mv (.t 1)), none, 0, false, []⟩,
    ⟨(some 10), (.bin 0 .gtr (.t 8) (.t 9)), none, 0, false, []⟩] false
def a7_2 : AC := .reg [⟨(some 4), (.mv (.c (.bool true))), none, 0, false, []⟩] false
def a7_3 : AC := .seq a7_2 .ret
def a7_4 : AC := .cond (.t 10) a7_3 .skip
def a7_5 : AC := .seq a7_1 a7_4
def a7_6 : AC := .reg [⟨(some 5), (.mv (.c (.int .i64 0))), none, 0, false, []⟩] false
def a7_7 : AC := .reg [⟨(some 6), (.mv (.c (.int .i64 0))), none, 0, false, []⟩] false
def a7_8 : AC := .reg [⟨(some 11), (.mv (.t 6)), none, 0, false, []⟩,
    ⟨(some 12), (.mv (.t 0)), none, 0, false, []⟩,
    ⟨(some 13), (.len false (.t 12)), none, 0, false, []⟩,
    ⟨(some 14), (.bin 0 .lss (.t 11) (.t 13)), none, 0, false, []⟩,
    ⟨(some 15), (.mv (.t 14)), none, 0, false, []⟩,
    ⟨(some 16), (.mv (.t 5)), (some (15, true)), 0, false, []⟩,
    ⟨(some 17), (.mv (.t 1)), (some (15, true)), 0, false, []⟩,
    ⟨(some 18), (.bin 0 .leq (.t 16) (.t 17)), (some (15, true)), 0, false, []⟩,
    ⟨(some 19), (.pick (.t 15) (.t 18) (.c (.bool false))), none, 0, false, []⟩] false
def a7_9 : AC := .cond (.t 19) .skip (.exit 0)
def a7_10 : AC := .seq a7_8 a7_9
def a7_11 : AC := .reg [⟨(some 22), (.mv (.t 5)), none, 0, false, []⟩,
    ⟨(some 23), (.mv (.t 0)), none, 0, false, []⟩,
    ⟨(some 24), (.mv (.t 6)), none, 0, false, []⟩,
    ⟨(some 25), (.iad 6 (.t 23) (.t 24)), none, 0, false, []⟩,
    ⟨(some 26), (.fad 0 (.t 25)), none, 0, false, []⟩,
    ⟨(some 27), (.load true 5 (.t 26)), none, 0, false, []⟩,
    ⟨(some 28), (.mv (.t 1)), none, 0, false, []⟩,
    ⟨(some 29), (.mv (.t 5)), none, 0, false, []⟩,
    ⟨(some 30), (.bin 0 .sub (.t 28) (.t 29)), none, 0, false, []⟩,
    ⟨(some 31), (.call 26 [(.t 27), (.t 30), (.c (.int .i64 200))]), none, 0, false, []⟩,
    ⟨(some 32), (.bin 0 .add (.t 22) (.t 31)), none, 0, false, []⟩,
    ⟨(some 5), (.mv (.t 32)), none, 0, false, []⟩] false
def a7_12 : AC := .blk 1 a7_11
def a7_13 : AC := .reg [⟨(some 20), (.mv (.t 6)), none, 0, false, []⟩,
    ⟨(some 21), (.bin 0 .add (.t 20) (.c (.int .i64 1))), none, 0, false, []⟩,
    ⟨(some 6), (.mv (.t 21)), none, 0, false, []⟩] false
def a7_14 : AC := .seq a7_12 a7_13
def a7_15 : AC := .seq a7_10 a7_14
def a7_16 : AC := .loop a7_15
def a7_17 : AC := .blk 0 a7_16
def a7_18 : AC := .seq a7_7 a7_17
def a7_19 : AC := .reg [⟨(some 33), (.mv (.t 5)), none, 0, false, []⟩,
    ⟨(some 34), (.mv (.t 1)), none, 0, false, []⟩,
    ⟨(some 35), (.bin 0 .gtr (.t 33) (.t 34)), none, 0, false, []⟩,
    ⟨(some 4), (.mv (.t 35)), none, 0, false, []⟩] false
def a7_20 : AC := .seq a7_19 .ret
def a7_21 : AC := .seq a7_18 a7_20
def a7_22 : AC := .seq a7_6 a7_21
def a7_23 : AC := .seq a7_5 a7_22
def a7_24 : AC := .seq a7_0 a7_23
def af7 : AF := { ntmps := 36, res := [(.t 4)], body := a7_24 }
theorem tr7 : trF Tryz.prog Tryz.f7 = some af7 := by kernel_rfl
attribute [go_sem] af7 a7_0 a7_1 a7_2 a7_3 a7_4 a7_5 a7_6 a7_7 a7_8 a7_9 a7_10 a7_11 a7_12 a7_13 a7_14 a7_15 a7_16 a7_17 a7_18 a7_19 a7_20 a7_21 a7_22 a7_23 a7_24
def a13_0 : AC := .reg [⟨(some 4), (.mv (.c (.bool false))), none, 0, false, []⟩] false
def a13_1 : AC := .reg [⟨(some 5), (.mv (.t 0)), none, 0, false, []⟩,
    ⟨(some 6), (.call 7 [(.t 5), (.c (.int .i64 40))]), none, 0, false, []⟩,
    ⟨(some 7), (.mv (.t 6)), none, 0, false, []⟩,
    ⟨(some 8), (.mv (.t 1)), (some (7, false)), 0, false, []⟩,
    ⟨(some 9), (.call 46 [(.t 8), (.c (.int .i64 80))]), (some (7, false)), 0, false, []⟩,
    ⟨(some 10), (.pick (.t 7) (.c (.bool true)) (.t 9)), none, 0, false, []⟩,
    ⟨(some 4), (.mv (.t 10)), none, 0, false, []⟩] false
def a13_2 : AC := .seq a13_1 .ret
def a13_3 : AC := .seq a13_0 a13_2
def af13 : AF := { ntmps := 11, res := [(.t 4)], body := a13_3 }
theorem tr13 : trF Tryz.prog Tryz.f13 = some af13 := by kernel_rfl
attribute [go_sem] af13 a13_0 a13_1 a13_2 a13_3
def a14_0 : AC := .reg [⟨(some 2), (.mv (.c .nils)), none, 0, false, []⟩] false
def a14_1 : AC := .reg [⟨(some 8), (.mv (.t 0)), none, 0, false, []⟩,
    ⟨(some 9), (.call 28 []), none, 0, false, []⟩,
    ⟨(some 10), (.call 27 [(.t 8), (.t 9)]), none, 0, false, []⟩,
    ⟨(some 11), (.un .not (.t 10)), none, 0, false, []⟩] false
def a14_2 : AC := .reg [⟨(some 2), (.mv (.c .nils)), none, 0, false, []⟩] false
def a14_3 : AC := .seq a14_2 .ret
def a14_4 : AC := .cond (.t 11) a14_3 .skip
def a14_5 : AC := .seq a14_1 a14_4
def a14_6 : AC := .reg [⟨(some 12), (.mv (.t 0)), none, 0, false, []⟩,
    ⟨(some 13), (.len false (.t 12)), none, 0, false, []⟩,
    ⟨(some 14), (.mk 26 288 [(.int .i64 0), (.int .i64 0), (.int .i64 0), (.int .i64 0), (.int .i64 0), .nils, (.int .i64 0), (.int .i64 0), (.int .i64 0), (.int .i64 0), .nils, (.int .i64 0), (.int .i64 0), (.int .i64 0), (.int .i64 0), .nils, (.int .i64 0), (.int .i64 0), (.int .i64 0), (.int .i64 0), .nils, (.int .i64 0), (.int .i64 0), (.int .i64 0), (.int .i64 0), .nils] (.c (.int .i64 0)) (.t 13)), none, 0, false, []⟩,
    ⟨(some 3), (.mv (.t 14)), none, 0, false, []⟩] false
def a14_7 : AC := .reg [⟨(some 15), (.mv (.t 0)), none, 0, false, []⟩,
    ⟨(some 16), (.len false (.t 15)), none, 0, false, []⟩,
    ⟨(some 17), (.bin 0 .sub (.t 16) (.c (.int .i64 1))), none, 0, false, []⟩,
    ⟨(some 4), (.mv (.t 17)), none, 0, false, []⟩] false
def a14_8 : AC := .reg [⟨(some 18), (.mv (.t 4)), none, 0, false, []⟩,
    ⟨(some 19), (.bin 0 .geq (.t 18) (.c (.int .i64 0))), none, 0, false, []⟩] false
def a14_9 : AC := .cond (.t 19) .skip (.exit 0)
def a14_10 : AC := .seq a14_8 a14_9
def a14_11 : AC := .reg [⟨(some 23), (.mv (.t 0)), none, 0, false, []⟩,
    ⟨(some 24), (.mv (.t 4)), none, 0, false, []⟩,
    ⟨(some 25), (.call 47 [(.t 23), (.t 24)]), none, 0, false, []⟩,
    ⟨(some 22), (.mv (.t 25)), none, 0, false, []⟩,
    ⟨(some 26), (.ext (.t 22) 0), none, 0, false, []⟩,
    ⟨(some 27), (.ext (.t 22) 1), none, 0, false, []⟩,
    ⟨(some 28), (.ext (.t 22) 2), none, 0, false, []⟩,
    ⟨(some 5), (.new [(.int .i64 0), (.int .i64 0), (.int .i64 0), (.int .i64 0), .nils]), none, 0, false, []⟩,
    ⟨none, (.store 5 (.t 5) (.t 26)), none, 0, false, []⟩,
    ⟨(some 6), (.mv (.t 27)), none, 0, false, []⟩,
    ⟨(some 7), (.mv (.t 28)), none, 0, false, []⟩] false
def a14_12 : AC := .reg [⟨(some 29), (.mv (.t 3)), none, 0, false, []⟩,
    ⟨(some 30), (.mv (.t 6)), none, 0, false, []⟩,
    ⟨(some 31), (.load true 5 (.t 5)), none, 0, false, []⟩,
    ⟨(some 32), (.call 49 [(.t 31)]), none, 0, false, []⟩,
    ⟨(some 33), (.mv (.t 4)), none, 0, false, []⟩,
    ⟨(some 34), (.call 50 [(.t 33)]), none, 0, false, []⟩,
    ⟨(some 35), (.call 48 [(.t 30), (.t 32), (.t 34)]), none, 0, false, []⟩,
    ⟨(some 36), (.bslice 26 [(.t 35)]), none, 0, false, []⟩,
    ⟨(some 37), (.app 26 288 (.t 29) (.t 36)), none, 0, false, []⟩,
    ⟨(some 3), (.mv (.t 37)), none, 0, false, []⟩] false
def a14_13 : AC := .seq a14_11 a14_12
def a14_14 : AC := .blk 1 a14_13
def a14_15 : AC := .reg [⟨(some 20), (.mv (.t 4)), none, 0, false, []⟩,
    ⟨(some 21), (.bin 0 .sub (.t 20) (.c (.int .i64 1))), none, 0, false, []⟩,
    ⟨(some 4), (.mv (.t 21)), none, 0, false, []⟩] false
def a14_16 : AC := .seq a14_14 a14_15
def a14_17 : AC := .seq a14_10 a14_16
def a14_18 : AC := .loop a14_17
def a14_19 : AC := .blk 0 a14_18
def a14_20 : AC := .seq a14_7 a14_19
def a14_21 : AC := .reg [⟨(some 38), (.mv (.t 3)), none, 0, false, []⟩,
    ⟨(some 2), (.mv (.t 38)), none, 0, false, []⟩] false
def a14_22 : AC := .seq a14_21 .ret
def a14_23 : AC := .seq a14_20 a14_22
def a14_24 : AC := .seq a14_6 a14_23
def a14_25 : AC := .seq a14_5 a14_24
def a14_26 : AC := .seq a14_0 a14_25
def af14 : AF := { ntmps := 39, res := [(.t 2)], body := a14_26 }
theorem tr14 : trF Tryz.prog Tryz.f14 = some af14 := by kernel_rfl
attribute [go_sem] af14 a14_0 a14_1 a14_2 a14_3 a14_4 a14_5 a14_6 a14_7 a14_8 a14_9 a14_10 a14_11 a14_12 a14_13 a14_14 a14_15 a14_16 a14_17 a14_18 a14_19 a14_20 a14_21 a14_22 a14_23 a14_24 a14_25 a14_26
def a17_0 : AC := .reg [⟨(some 1), (.box (.t 0)), none, 0, false, []⟩,
    ⟨(some 2), (.new [(.int .i64 0), (.int .i64 0), (.int .i64 0), (.int .i64 0), .nils]), none, 0, false, []⟩] false
def a17_1 : AC := .reg [⟨(some 3), (.load true 5 (.t 1)), none, 0, false, []⟩,
    ⟨(some 4), (.call 54 [(.t 3)]), none, 0, false, []⟩,
    ⟨(some 5), (.un .not (.t 4)), none, 0, false, []⟩] false
def a17_2 : AC := .reg [⟨(some 6), (.build [(.int .i64 0), (.int .i64 0), (.int .i64 0), (.int .i64 0), .nils] []), none, 0, false, []⟩,
    ⟨none, (.store 5 (.t 2) (.t 6)), none, 0, false, []⟩] false
def a17_3 : AC := .seq a17_2 .ret
def a17_4 : AC := .cond (.t 5) a17_3 .skip
def a17_5 : AC := .seq a17_1 a17_4
def a17_6 : AC := .reg [⟨(some 7), (.fad 0 (.t 1)), none, 0, false, []⟩,
    ⟨(some 8), (.load false 1 (.t 7)), none, 0, false, []⟩,
    ⟨(some 9), (.bin 0 .eql (.t 8) (.c (.int .i64 12))), none, 0, false, []⟩] false
def a17_7 : AC := .cond (.t 9) .skip (.exit 0)
def a17_8 : AC := .seq a17_6 a17_7
def a17_9 : AC := .reg [⟨(some 10), (.fad 4 (.t 1)), none, 0, false, []⟩,
    ⟨(some 11), (.load false 1 (.t 10)), none, 0, false, []⟩,
    ⟨(some 12), (.iad 5 (.t 11) (.c (.int .i64 3))), none, 0, false, []⟩,
    ⟨(some 13), (.load true 5 (.t 12)), none, 0, false, []⟩,
    ⟨none, (.store 5 (.t 1) (.t 13)), none, 0, false, []⟩] false
def a17_10 : AC := .blk 1 a17_9
def a17_11 : AC := .seq a17_8 a17_10
def a17_12 : AC := .loop a17_11
def a17_13 : AC := .blk 0 a17_12
def a17_14 : AC := .reg [⟨(some 14), (.load true 5 (.t 1)), none, 0, false, []⟩,
    ⟨(some 15), (.call 34 [(.t 14)]), none, 0, false, []⟩,
    ⟨none, (.store 5 (.t 2) (.t 15)), none, 0, false, []⟩] false
def a17_15 : AC := .seq a17_14 .ret
def a17_16 : AC := .seq a17_13 a17_15
def a17_17 : AC := .seq a17_5 a17_16
def a17_18 : AC := .seq a17_0 a17_17
def af17 : AF := { ntmps := 16, res := [(.cell 2 true 5)], body := a17_18 }
theorem tr17 : trF Tryz.prog Tryz.f17 = some af17 := by kernel_rfl
attribute [go_sem] af17 a17_0 a17_1 a17_2 a17_3 a17_4 a17_5 a17_6 a17_7 a17_8 a17_9 a17_10 a17_11 a17_12 a17_13 a17_14 a17_15 a17_16 a17_17 a17_18
def a19_0 : AC := .reg [⟨(some 0), (.mv (.c (.bool false))), none, 0, false, []⟩] false
def a19_1 : AC := .reg [⟨(some 7), (.call 55 [(.c (.int .i64 0))]), none, 0, false, []⟩,
    ⟨(some 8), (.build [(.int .i64 0), (.int .i64 0), (.int .i64 0), (.int .i64 0), .nils, (.int .i64 0)] [(0, (5, (.t 7))), (5, (1, (.c (.int .i64 1))))]), none, 0, false, []⟩,
    ⟨(some 9), (.bslice 6 [(.t 8)]), none, 0, false, []⟩,
    ⟨(some 10), (.call 14 [(.t 9)]), none, 0, false, []⟩,
    ⟨(some 1), (.mv (.t 10)), none, 0, false, []⟩] false
def a19_2 : AC := .reg [⟨(some 11), (.call 56 [(.c (.int .i64 1))]), none, 0, false, []⟩,
    ⟨(some 12), (.call 56 [(.c (.int .i64 2))]), none, 0, false, []⟩,
    ⟨(some 13), (.call 56 [(.c (.int .i64 3))]), none, 0, false, []⟩,
    ⟨(some 14), (.call 56 [(.c (.int .i64 0))]), none, 0, false, []⟩,
    ⟨(some 15), (.bslice 5 [(.t 11), (.t 12), (.t 13), (.t 14)]), none, 0, false, []⟩,
    ⟨(some 16), (.build [(.int .i64 0), (.int .i64 0), (.int .i64 0), (.int .i64 0), .nils] [(0, (1, (.c (.int .i64 12)))), (4, (1, (.t 15)))]), none, 0, false, []⟩,
    ⟨(some 2), (.new [(.int .i64 0), (.int .i64 0), (.int .i64 0), (.int .i64 0), .nils]), none, 0, false, []⟩,
    ⟨none, (.store 5 (.t 2) (.t 16)), none, 0, false, []⟩] false
def a19_3 : AC := .reg [⟨(some 18), (.call 55 [(.c (.int .i64 3))]), none, 0, false, []⟩,
    ⟨(some 19), (.call 55 [(.c (.int .i64 4))]), none, 0, false, []⟩,
    ⟨(some 20), (.call 55 [(.c (.int .i64 4))]), none, 0, false, []⟩,
    ⟨(some 21), (.call 20 [(.c .nils), (.c (.int .i64 0)), (.t 18), (.t 19), (.t 20)]), none, 0, false, []⟩,
    ⟨(some 17), (.mv (.t 21)), none, 0, false, []⟩,
    ⟨(some 22), (.ext (.t 17) 0), none, 0, false, []⟩,
    ⟨(some 23), (.ext (.t 17) 1), none, 0, false, []⟩,
    ⟨(some 3), (.new [(.int .i64 0), (.int .i64 0), (.int .i64 0), (.int .i64 0), .nils]), none, 0, false, []⟩,
    ⟨none, (.store 5 (.t 3) (.t 22)), none, 0, false, []⟩,
    ⟨(some 4), (.mv (.t 23)), none, 0, false, []⟩] false
def a19_4 : AC := .reg [⟨(some 25), (.call 55 [(.c (.int .i64 3))]), none, 0, false, []⟩,
    ⟨(some 26), (.call 55 [(.c (.int .i64 4))]), none, 0, false, []⟩,
    ⟨(some 27), (.call 55 [(.c (.int .i64 5))]), none, 0, false, []⟩,
    ⟨(some 28), (.call 20 [(.c .nils), (.c (.int .i64 0)), (.t 25), (.t 26), (.t 27)]), none, 0, false, []⟩,
    ⟨(some 24), (.mv (.t 28)), none, 0, false, []⟩,
    ⟨(some 29), (.ext (.t 24) 0), none, 0, false, []⟩,
    ⟨(some 30), (.ext (.t 24) 1), none, 0, false, []⟩,
    ⟨(some 5), (.new [(.int .i64 0), (.int .i64 0), (.int .i64 0), (.int .i64 0), .nils]), none, 0, false, []⟩,
    ⟨none, (.store 5 (.t 5) (.t 29)), none, 0, false, []⟩,
    ⟨(some 6), (.mv (.t 30)), none, 0, false, []⟩] false
def a19_5 : AC := .reg [⟨(some 31), (.mv (.t 1)), none, 0, false, []⟩,
    ⟨(some 32), (.len false (.t 31)), none, 0, false, []⟩,
    ⟨(some 33), (.bin 0 .eql (.t 32) (.c (.int .i64 1))), none, 0, false, []⟩,
    ⟨(some 34), (.mv (.t 33)), none, 0, false, []⟩,
    ⟨(some 35), (.mv (.t 1)), (some (34, true)), 0, false, []⟩,
    ⟨(some 36), (.iad 26 (.t 35) (.c (.int .i64 0))), (some (34, true)), 0, false, []⟩,
    ⟨(some 37), (.fad 11 (.t 36)), (some (34, true)), 0, false, []⟩,
    ⟨(some 38), (.fad 0 (.t 37)), (some (34, true)), 0, false, []⟩,
    ⟨(some 39), (.load false 1 (.t 38)), (some (34, true)), 0, false, []⟩,
    ⟨(some 40), (.bin 0 .eql (.t 39) (.c (.int .i64 2))), (some (34, true)), 0, false, []⟩,
    ⟨(some 41), (.pick (.t 34) (.t 40) (.c (.bool false))), none, 0, false, []⟩,
    ⟨(some 42), (.mv (.t 41)), none, 0, false, []⟩,
    ⟨(some 43), (.mv (.t 1)), (some (42, true)), 0, false, []⟩,
    ⟨(some 44), (.iad 26 (.t 43) (.c (.int .i64 0))), (some (42, true)), 0, false, []⟩,
    ⟨(some 45), (.fad 0 (.t 44)), (some (42, true)), 0, false, []⟩,
    ⟨(some 46), (.load false 1 (.t 45)), (some (42, true)), 0, false, []⟩,
    ⟨(some 47), (.bin 0 .eql (.t 46) (.c (.int .i64 1))), (some (42, true)), 0, false, []⟩,
    ⟨(some 48), (.pick (.t 42) (.t 47) (.c (.bool false))), none, 0, false, []⟩,
    ⟨(some 49), (.mv (.t 48)), none, 0, false, []⟩,
    ⟨(some 50), (.load true 5 (.t 2)), (some (49, true)), 0, false, []⟩,
    ⟨(some 51), (.call 17 [(.t 50)]), (some (49, true)), 0, false, []⟩,
    ⟨(some 52), (.fld false 0 1 (.t 51)), (some (49, true)), 0, false, []⟩,
    ⟨(some 53), (.bin 0 .eql (.t 52) (.c (.int .i64 2))), (some (49, true)), 0, false, []⟩,
    ⟨(some 54), (.pick (.t 49) (.t 53) (.c (.bool false))), none, 0, false, []⟩,
    ⟨(some 55), (.mv (.t 54)), none, 0, false, []⟩,
    ⟨(some 56), (.mv (.t 4)), (some (55, true)), 0, false, []⟩,
    ⟨(some 57), (.pick (.t 55) (.t 56) (.c (.bool false))), none, 0, false, []⟩,
    ⟨(some 58), (.mv (.t 57)), none, 0, false, []⟩,
    ⟨(some 59), (.fad 1 (.t 3)), (some (58, true)), 0, false, []⟩,
    ⟨(some 60), (.load false 1 (.t 59)), (some (58, true)), 0, false, []⟩,
    ⟨(some 61), (.bin 0 .eql (.t 60) (.c (.int .i64 3))), (some (58, true)), 0, false, []⟩,
    ⟨(some 62), (.pick (.t 58) (.t 61) (.c (.bool false))), none, 0, false, []⟩,
    ⟨(some 63), (.mv (.t 62)), none, 0, false, []⟩,
    ⟨(some 64), (.fad 0 (.t 3)), (some (63, true)), 0, false, []⟩,
    ⟨(some 65), (.load false 1 (.t 64)), (some (63, true)), 0, false, []⟩,
    ⟨(some 66), (.bin 0 .eql (.t 65) (.c (.int .i64 1))), (some (63, true)), 0, false, []⟩,
    ⟨(some 67), (.pick (.t 63) (.t 66) (.c (.bool false))), none, 0, false, []⟩,
    ⟨(some 68), (.mv (.t 67)), none, 0, false, []⟩,
    ⟨(some 69), (.mv (.t 6)), (some (68, true)), 0, false, []⟩,
    ⟨(some 70), (.un .not (.t 69)), (some (68, true)), 0, false, []⟩,
    ⟨(some 71), (.pick (.t 68) (.t 70) (.c (.bool false))), none, 0, false, []⟩,
    ⟨(some 0), (.mv (.t 71)), none, 0, false, []⟩] false
def a19_6 : AC := .seq a19_5 .ret
def a19_7 : AC := .seq a19_4 a19_6
def a19_8 : AC := .seq a19_3 a19_7
def a19_9 : AC := .seq a19_2 a19_8
def a19_10 : AC := .seq a19_1 a19_9
def a19_11 : AC := .seq a19_0 a19_10
def af19 : AF := { ntmps := 72, res := [(.t 0)], body := a19_11 }
theorem tr19 : trF Tryz.prog Tryz.f19 = some af19 := by kernel_rfl
attribute [go_sem] af19 a19_0 a19_1 a19_2 a19_3 a19_4 a19_5 a19_6 a19_7 a19_8 a19_9 a19_10 a19_11
def a20_0 : AC := .reg [⟨(some 7), (.box (.t 2)), none, 0, false, []⟩,
    ⟨(some 8), (.box (.t 3)), none, 0, false, []⟩,
    ⟨(some 9), (.box (.t 4)), none, 0, false, []⟩,
    ⟨(some 10), (.new [(.int .i64 0), (.int .i64 0), (.int .i64 0), (.int .i64 0), .nils]), none, 0, false, []⟩,
    ⟨(some 11), (.mv (.c (.bool false))), none, 0, false, []⟩] false
def a20_1 : AC := .reg [⟨(some 14), (.load true 5 (.t 7)), none, 0, false, []⟩,
    ⟨(some 15), (.call 54 [(.t 14)]), none, 0, false, []⟩,
    ⟨(some 16), (.un .not (.t 15)), none, 0, false, []⟩,
    ⟨(some 17), (.mv (.t 16)), none, 0, false, []⟩,
    ⟨(some 18), (.load true 5 (.t 8)), (some (17, false)), 0, false, []⟩,
    ⟨(some 19), (.load true 5 (.t 9)), (some (17, false)), 0, false, []⟩,
    ⟨(some 20), (.call 24 [(.t 18), (.t 19)]), (some (17, false)), 0, false, []⟩,
    ⟨(some 21), (.un .not (.t 20)), (some (17, false)), 0, false, []⟩,
    ⟨(some 22), (.pick (.t 17) (.c (.bool true)) (.t 21)), none, 0, false, []⟩] false
def a20_2 : AC := .reg [⟨(some 23), (.build [(.int .i64 0), (.int .i64 0), (.int .i64 0), (.int .i64 0), .nils] []), none, 0, false, []⟩,
    ⟨none, (.store 5 (.t 10) (.t 23)), none, 0, false, []⟩,
    ⟨(some 11), (.mv (.c (.bool false))), none, 0, false, []⟩] false
def a20_3 : AC := .seq a20_2 .ret
def a20_4 : AC := .cond (.t 22) a20_3 .skip
def a20_5 : AC := .seq a20_1 a20_4
def a20_6 : AC := .reg [⟨(some 24), (.load true 5 (.t 8)), none, 0, false, []⟩,
    ⟨(some 25), (.load true 5 (.t 9)), none, 0, false, []⟩,
    ⟨(some 26), (.call 57 [(.t 24), (.t 25)]), none, 0, false, []⟩] false
def a20_7 : AC := .reg [⟨(some 27), (.load true 5 (.t 7)), none, 0, false, []⟩,
    ⟨(some 28), (.call 34 [(.t 27)]), none, 0, false, []⟩,
    ⟨none, (.store 5 (.t 10) (.t 28)), none, 0, false, []⟩,
    ⟨(some 11), (.mv (.c (.bool true))), none, 0, false, []⟩] false
def a20_8 : AC := .seq a20_7 .ret
def a20_9 : AC := .cond (.t 26) a20_8 .skip
def a20_10 : AC := .seq a20_6 a20_9
def a20_11 : AC := .reg [⟨(some 30), (.mv (.t 0)), none, 0, false, []⟩,
    ⟨(some 31), (.mv (.t 1)), none, 0, false, []⟩,
    ⟨(some 32), (.load true 5 (.t 8)), none, 0, false, []⟩,
    ⟨(some 33), (.load true 5 (.t 9)), none, 0, false, []⟩,
    ⟨(some 34), (.call 23 [(.t 30), (.t 31), (.t 32), (.t 33)]), none, 0, false, []⟩,
    ⟨(some 29), (.mv (.t 34)), none, 0, false, []⟩,
    ⟨(some 35), (.ext (.t 29) 0), none, 0, false, []⟩,
    ⟨(some 36), (.ext (.t 29) 1), none, 0, false, []⟩,
    ⟨(some 12), (.new [(.int .i64 0), (.int .i64 0), (.int .i64 0), (.int .i64 0), .nils]), none, 0, false, []⟩,
    ⟨none, (.store 5 (.t 12) (.t 35)), none, 0, false, []⟩,
    ⟨(some 13), (.mv (.t 36)), none, 0, false, []⟩] false
def a20_12 : AC := .reg [⟨(some 37), (.mv (.t 13)), none, 0, false, []⟩,
    ⟨(some 38), (.un .not (.t 37)), none, 0, false, []⟩] false
def a20_13 : AC := .reg [⟨(some 39), (.build [(.int .i64 0), (.int .i64 0), (.int .i64 0), (.int .i64 0), .nils] []), none, 0, false, []⟩,
    ⟨none, (.store 5 (.t 10) (.t 39)), none, 0, false, []⟩,
    ⟨(some 11), (.mv (.c (.bool false))), none, 0, false, []⟩] false
def a20_14 : AC := .seq a20_13 .ret
def a20_15 : AC := .cond (.t 38) a20_14 .skip
def a20_16 : AC := .seq a20_12 a20_15
def a20_17 : AC := .reg [⟨(some 40), (.mv (.t 1)), none, 0, false, []⟩,
    ⟨(some 41), (.load true 5 (.t 8)), none, 0, false, []⟩,
    ⟨(some 42), (.load true 5 (.t 9)), none, 0, false, []⟩,
    ⟨(some 43), (.load true 5 (.t 12)), none, 0, false, []⟩,
    ⟨(some 44), (.load true 5 (.t 7)), none, 0, false, []⟩,
    ⟨(some 45), (.bslice 5 [(.t 41), (.t 42), (.t 43), (.t 44)]), none, 0, false, []⟩,
    ⟨(some 46), (.call 58 [(.c (.int .i64 12)), (.t 40), (.c (.int .i64 0)), (.c (.int .i64 0)), (.t 45)]), none, 0, false, []⟩,
    ⟨(some 47), (.call 34 [(.t 46)]), none, 0, false, []⟩,
    ⟨none, (.store 5 (.t 10) (.t 47)), none, 0, false, []⟩,
    ⟨(some 11), (.mv (.c (.bool true))), none, 0, false, []⟩] false
def a20_18 : AC := .seq a20_17 .ret
def a20_19 : AC := .seq a20_16 a20_18
def a20_20 : AC := .seq a20_11 a20_19
def a20_21 : AC := .seq a20_10 a20_20
def a20_22 : AC := .seq a20_5 a20_21
def a20_23 : AC := .seq a20_0 a20_22
def af20 : AF := { ntmps := 48, res := [(.cell 10 true 5), (.t 11)], body := a20_23 }
theorem tr20 : trF Tryz.prog Tryz.f20 = some af20 := by kernel_rfl
attribute [go_sem] af20 a20_0 a20_1 a20_2 a20_3 a20_4 a20_5 a20_6 a20_7 a20_8 a20_9 a20_10 a20_11 a20_12 a20_13 a20_14 a20_15 a20_16 a20_17 a20_18 a20_19 a20_20 a20_21 a20_22 a20_23
def a22_0 : AC := .reg [⟨(some 2), (.box (.t 0)), none, 0, false, []⟩,
    ⟨(some 3), (.box (.t 1)), none, 0, false, []⟩,
    ⟨(some 4), (.mv (.c (.bool false))), none, 0, false, []⟩] false
def a22_1 : AC := .reg [⟨(some 5), (.load true 5 (.t 2)), none, 0, false, []⟩,
    ⟨(some 6), (.call 21 [(.t 5)]), none, 1, false, []⟩,
    ⟨(some 7), (.mv (.t 6)), none, 2, false, []⟩,
    ⟨(some 8), (.load true 5 (.t 3)), (some (7, true)), 3, false, []⟩,
    ⟨(some 9), (.call 21 [(.t 8)]), (some (7, true)), 4, false, []⟩,
    ⟨(some 10), (.pick (.t 7) (.t 9) (.c (.bool false))), none, 5, false, []⟩,
    ⟨(some 11), (.mv (.t 10)), none, 6, false, []⟩,
    ⟨(some 12), (.load true 5 (.t 2)), (some (11, true)), 7, false, []⟩,
    ⟨(some 13), (.call 62 [(.t 12)]), (some (11, true)), 8, true, []⟩,
    ⟨(some 14), (.load true 5 (.t 3)), (some (11, true)), 9, false, [8]⟩,
    ⟨(some 15), (.call 62 [(.t 14)]), (some (11, true)), 10, false, []⟩,
    ⟨(some 16), (.call 61 [(.t 13), (.t 15)]), (some (11, true)), 11, false, []⟩,
    ⟨(some 17), (.pick (.t 11) (.t 16) (.c (.bool false))), none, 12, false, []⟩,
    ⟨(some 4), (.mv (.t 17)), none, 13, false, []⟩] true
def a22_2 : AC := .seq a22_1 .ret
def a22_3 : AC := .seq a22_0 a22_2
def af22 : AF := { ntmps := 18, res := [(.t 4)], body := a22_3 }
theorem tr22 : trF Tryz.prog Tryz.f22 = some af22 := by kernel_rfl
attribute [go_sem] af22 a22_0 a22_1 a22_2 a22_3
def a24_0 : AC := .reg [⟨(some 2), (.box (.t 0)), none, 0, false, []⟩,
    ⟨(some 3), (.box (.t 1)), none, 0, false, []⟩,
    ⟨(some 4), (.mv (.c (.bool false))), none, 0, false, []⟩] false
def a24_1 : AC := .reg [⟨(some 5), (.load true 5 (.t 2)), none, 0, false, []⟩,
    ⟨(some 6), (.call 54 [(.t 5)]), none, 1, false, []⟩,
    ⟨(some 7), (.mv (.t 6)), none, 2, false, []⟩,
    ⟨(some 8), (.load true 5 (.t 3)), (some (7, true)), 3, false, []⟩,
    ⟨(some 9), (.call 54 [(.t 8)]), (some (7, true)), 4, false, []⟩,
    ⟨(some 10), (.pick (.t 7) (.t 9) (.c (.bool false))), none, 5, false, []⟩,
    ⟨(some 11), (.mv (.t 10)), none, 6, false, []⟩,
    ⟨(some 12), (.load true 5 (.t 2)), (some (11, true)), 7, false, []⟩,
    ⟨(some 13), (.call 64 [(.t 12)]), (some (11, true)), 8, true, []⟩,
    ⟨(some 14), (.load true 5 (.t 3)), (some (11, true)), 9, false, [8]⟩,
    ⟨(some 15), (.call 64 [(.t 14)]), (some (11, true)), 10, false, []⟩,
    ⟨(some 16), (.call 57 [(.t 13), (.t 15)]), (some (11, true)), 11, false, []⟩,
    ⟨(some 17), (.pick (.t 11) (.t 16) (.c (.bool false))), none, 12, false, []⟩,
    ⟨(some 4), (.mv (.t 17)), none, 13, false, []⟩] true
def a24_2 : AC := .seq a24_1 .ret
def a24_3 : AC := .seq a24_0 a24_2
def af24 : AF := { ntmps := 18, res := [(.t 4)], body := a24_3 }
theorem tr24 : trF Tryz.prog Tryz.f24 = some af24 := by kernel_rfl
attribute [go_sem] af24 a24_0 a24_1 a24_2 a24_3
def a27_0 : AC := .reg [⟨(some 4), (.mv (.c (.bool false))), none, 0, false, []⟩] false
def a27_1 : AC := .reg [⟨(some 7), (.mv (.t 0)), none, 0, false, []⟩,
    ⟨(some 8), (.call 66 [(.t 7)]), none, 0, false, []⟩,
    ⟨(some 9), (.un .not (.t 8)), none, 0, false, []⟩] false
def a27_2 : AC := .reg [⟨(some 4), (.mv (.c (.bool false))), none, 0, false, []⟩] false
def a27_3 : AC := .seq a27_2 .ret
def a27_4 : AC := .cond (.t 9) a27_3 .skip
def a27_5 : AC := .seq a27_1 a27_4
def a27_6 : AC := .reg [⟨(some 10), (.mv (.t 0)), none, 0, false, []⟩,
    ⟨(some 11), (.len false (.t 10)), none, 0, false, []⟩,
    ⟨(some 12), (.mv (.c (.int .i64 0))), none, 0, false, []⟩] false
def a27_7 : AC := .reg [⟨(some 13), (.bin 0 .lss (.t 12) (.t 11)), none, 0, false, []⟩] false
def a27_8 : AC := .cond (.t 13) .skip (.exit 0)
def a27_9 : AC := .reg [⟨(some 14), (.iad 6 (.t 10) (.t 12)), none, 0, false, []⟩,
    ⟨(some 15), (.load true 6 (.t 14)), none, 0, false, []⟩,
    ⟨(some 6), (.new [(.int .i64 0), (.int .i64 0), (.int .i64 0), (.int .i64 0), .nils, (.int .i64 0)]), none, 0, false, []⟩,
    ⟨none, (.store 6 (.t 6) (.t 15)), none, 0, false, []⟩] false
def a27_10 : AC := .reg [⟨(some 16), (.fad 5 (.t 6)), none, 0, false, []⟩,
    ⟨(some 17), (.load false 1 (.t 16)), none, 0, false, []⟩,
    ⟨(some 18), (.mv (.t 1)), none, 0, false, []⟩,
    ⟨(some 19), (.bin 0 .gtr (.t 17) (.t 18)), none, 0, false, []⟩,
    ⟨(some 20), (.mv (.t 19)), none, 0, false, []⟩,
    ⟨(some 21), (.fad 0 (.t 6)), (some (20, false)), 0, false, []⟩,
    ⟨(some 22), (.load true 5 (.t 21)), (some (20, false)), 0, false, []⟩,
    ⟨(some 23), (.mv (.t 1)), (some (20, false)), 0, false, []⟩,
    ⟨(some 24), (.call 67 [(.t 22), (.t 23)]), (some (20, false)), 0, false, []⟩,
    ⟨(some 25), (.un .not (.t 24)), (some (20, false)), 0, false, []⟩,
    ⟨(some 26), (.pick (.t 20) (.c (.bool true)) (.t 25)), none, 0, false, []⟩] false
def a27_11 : AC := .reg [⟨(some 4), (.mv (.c (.bool false))), none, 0, false, []⟩] false
def a27_12 : AC := .seq a27_11 .ret
def a27_13 : AC := .cond (.t 26) a27_12 .skip
def a27_14 : AC := .seq a27_10 a27_13
def a27_15 : AC := .seq a27_9 a27_14
def a27_16 : AC := .blk 1 a27_15
def a27_17 : AC := .reg [⟨(some 27), (.bin 0 .add (.t 12) (.c (.int .i64 1))), none, 0, false, []⟩,
    ⟨(some 12), (.mv (.t 27)), none, 0, false, []⟩] false
def a27_18 : AC := .seq a27_16 a27_17
def a27_19 : AC := .seq a27_8 a27_18
def a27_20 : AC := .seq a27_7 a27_19
def a27_21 : AC := .loop a27_20
def a27_22 : AC := .blk 0 a27_21
def a27_23 : AC := .seq a27_6 a27_22
def a27_24 : AC := .reg [⟨(some 4), (.mv (.c (.bool true))), none, 0, false, []⟩] false
def a27_25 : AC := .seq a27_24 .ret
def a27_26 : AC := .seq a27_23 a27_25
def a27_27 : AC := .seq a27_5 a27_26
def a27_28 : AC := .seq a27_0 a27_27
def af27 : AF := { ntmps := 28, res := [(.t 4)], body := a27_28 }
theorem tr27 : trF Tryz.prog Tryz.f27 = some af27 := by kernel_rfl
attribute [go_sem] af27 a27_0 a27_1 a27_2 a27_3 a27_4 a27_5 a27_6 a27_7 a27_8 a27_9 a27_10 a27_11 a27_12 a27_13 a27_14 a27_15 a27_16 a27_17 a27_18 a27_19 a27_20 a27_21 a27_22 a27_23 a27_24 a27_25 a27_26 a27_27 a27_28
def a28_0 : AC := .reg [⟨(some 0), (.mv (.c (.int .i64 0))), none, 0, false, []⟩] false
def a28_1 : AC := .reg [⟨(some 0), (.mv (.c (.int .i64 996))), none, 0, false, []⟩] false
def a28_2 : AC := .seq a28_1 .ret
def a28_3 : AC := .seq a28_0 a28_2
def af28 : AF := { ntmps := 1, res := [(.t 0)], body := a28_3 }
theorem tr28 : trF Tryz.prog Tryz.f28 = some af28 := by kernel_rfl
attribute [go_sem] af28 a28_0 a28_1 a28_2 a28_3
def a47_0 : AC := .reg [⟨(some 4), (.new [(.int .i64 0), (.int .i64 0), (.int .i64 0), (.int .i64 0), .nils]), none, 0, false, []⟩,
    ⟨(some 5), (.mv (.c (.int .i64 0))), none, 0, false, []⟩,
    ⟨(some 6), (.mv (.c (.bool false))), none, 0, false, []⟩] false
def a47_1 : AC := .reg [⟨(some 8), (.mv (.t 1)), none, 0, false, []⟩,
    ⟨(some 9), (.bin 0 .lss (.t 8) (.c (.int .i64 0))), none, 0, false, []⟩,
    ⟨(some 10), (.mv (.t 9)), none, 0, false, []⟩,
    ⟨(some 11), (.mv (.t 1)), (some (10, false)), 0, false, []⟩,
    ⟨(some 12), (.mv (.t 0)), (some (10, false)), 0, false, []⟩,
    ⟨(some 13), (.len false (.t 12)), (some (10, false)), 0, false, []⟩,
    ⟨(some 14), (.bin 0 .geq (.t 11) (.t 13)), (some (10, false)), 0, false, []⟩,
    ⟨(some 15), (.pick (.t 10) (.c (.bool true)) (.t 14)), none, 0, false, []⟩,
    ⟨(some 16), (.mv (.t 15)), none, 0, false, []⟩,
    ⟨(some 17), (.mv (.t 0)), (some (16, false)), 0, false, []⟩,
    ⟨(some 18), (.call 66 [(.t 17)]), (some (16, false)), 0, false, []⟩,
    ⟨(some 19), (.un .not (.t 18)), (some (16, false)), 0, false, []⟩,
    ⟨(some 20), (.pick (.t 16) (.c (.bool true)) (.t 19)), none, 0, false, []⟩] false
def a47_2 : AC := .reg [⟨(some 21), (.build [(.int .i64 0), (.int .i64 0), (.int .i64 0), (.int .i64 0), .nils] []), none, 0, false, []⟩,
    ⟨none, (.store 5 (.t 4) (.t 21)), none, 0, false, []⟩,
    ⟨(some 5), (.mv (.c (.int .i64 0))), none, 0, false, []⟩,
    ⟨(some 6), (.mv (.c (.bool false))), none, 0, false, []⟩] false
def a47_3 : AC := .seq a47_2 .ret
def a47_4 : AC := .cond (.t 20) a47_3 .skip
def a47_5 : AC := .seq a47_1 a47_4
def a47_6 : AC := .reg [⟨(some 22), (.mv (.t 0)), none, 0, false, []⟩,
    ⟨(some 23), (.mv (.t 0)), none, 0, false, []⟩,
    ⟨(some 24), (.len false (.t 23)), none, 0, false, []⟩,
    ⟨(some 25), (.bin 0 .sub (.t 24) (.c (.int .i64 1))), none, 0, false, []⟩,
    ⟨(some 26), (.mv (.t 1)), none, 0, false, []⟩,
    ⟨(some 27), (.bin 0 .sub (.t 25) (.t 26)), none, 0, false, []⟩,
    ⟨(some 28), (.iad 6 (.t 22) (.t 27)), none, 0, false, []⟩,
    ⟨(some 29), (.load true 6 (.t 28)), none, 0, false, []⟩,
    ⟨(some 7), (.new [(.int .i64 0), (.int .i64 0), (.int .i64 0), (.int .i64 0), .nils, (.int .i64 0)]), none, 0, false, []⟩,
    ⟨none, (.store 6 (.t 7) (.t 29)), none, 0, false, []⟩] false
def a47_7 : AC := .reg [⟨(some 30), (.fad 0 (.t 7)), none, 0, false, []⟩,
    ⟨(some 31), (.load true 5 (.t 30)), none, 1, false, []⟩,
    ⟨(some 32), (.mv (.t 1)), none, 2, false, []⟩,
    ⟨(some 33), (.bin 0 .add (.t 32) (.c (.int .i64 1))), none, 3, false, []⟩,
    ⟨(some 34), (.call 82 [(.t 31), (.t 33), (.c (.int .i64 0))]), none, 4, true, []⟩,
    ⟨(some 35), (.fad 5 (.t 7)), none, 5, false, []⟩,
    ⟨(some 36), (.load false 1 (.t 35)), none, 6, true, [4]⟩,
    ⟨none, (.store 5 (.t 4) (.t 34)), none, 7, false, [6]⟩,
    ⟨(some 5), (.mv (.t 36)), none, 8, false, []⟩,
    ⟨(some 6), (.mv (.c (.bool true))), none, 9, false, []⟩] true
def a47_8 : AC := .seq a47_7 .ret
def a47_9 : AC := .seq a47_6 a47_8
def a47_10 : AC := .seq a47_5 a47_9
def a47_11 : AC := .seq a47_0 a47_10
def af47 : AF := { ntmps := 37, res := [(.cell 4 true 5), (.t 5), (.t 6)], body := a47_11 }
theorem tr47 : trF Tryz.prog Tryz.f47 = some af47 := by kernel_rfl
attribute [go_sem] af47 a47_0 a47_1 a47_2 a47_3 a47_4 a47_5 a47_6 a47_7 a47_8 a47_9 a47_10 a47_11
def a54_0 : AC := .reg [⟨(some 1), (.box (.t 0)), none, 0, false, []⟩,
    ⟨(some 2), (.mv (.c (.bool false))), none, 0, false, []⟩] false
def a54_1 : AC := .reg [⟨(some 3), (.load true 5 (.t 1)), none, 0, false, []⟩,
    ⟨(some 4), (.call 96 [(.t 3), (.c (.int .i64 1))]), none, 0, false, []⟩,
    ⟨(some 2), (.mv (.t 4)), none, 0, false, []⟩] false
def a54_2 : AC := .seq a54_1 .ret
def a54_3 : AC := .seq a54_0 a54_2
def af54 : AF := { ntmps := 5, res := [(.t 2)], body := a54_3 }
theorem tr54 : trF Tryz.prog Tryz.f54 = some af54 := by kernel_rfl
attribute [go_sem] af54 a54_0 a54_1 a54_2 a54_3
def a55_0 : AC := .reg [⟨(some 2), (.new [(.int .i64 0), (.int .i64 0), (.int .i64 0), (.int .i64 0), .nils]), none, 0, false, []⟩] false
def a55_1 : AC := .reg [⟨(some 3), (.mv (.t 0)), none, 0, false, []⟩,
    ⟨(some 4), (.build [(.int .i64 0), (.int .i64 0), (.int .i64 0), (.int .i64 0), .nils] [(0, (1, (.c (.int .i64 1)))), (1, (1, (.t 3)))]), none, 0, false, []⟩,
    ⟨none, (.store 5 (.t 2) (.t 4)), none, 0, false, []⟩] false
def a55_2 : AC := .seq a55_1 .ret
def a55_3 : AC := .seq a55_0 a55_2
def af55 : AF := { ntmps := 5, res := [(.cell 2 true 5)], body := a55_3 }
theorem tr55 : trF Tryz.prog Tryz.f55 = some af55 := by kernel_rfl
attribute [go_sem] af55 a55_0 a55_1 a55_2 a55_3
def a56_0 : AC := .reg [⟨(some 2), (.new [(.int .i64 0), (.int .i64 0), (.int .i64 0), (.int .i64 0), .nils]), none, 0, false, []⟩] false
def a56_1 : AC := .reg [⟨(some 3), (.mv (.t 0)), none, 0, false, []⟩,
    ⟨(some 4), (.build [(.int .i64 0), (.int .i64 0), (.int .i64 0), (.int .i64 0), .nils] [(0, (1, (.c (.int .i64 2)))), (1, (1, (.t 3)))]), none, 0, false, []⟩,
    ⟨none, (.store 5 (.t 2) (.t 4)), none, 0, false, []⟩] false
def a56_2 : AC := .seq a56_1 .ret
def a56_3 : AC := .seq a56_0 a56_2
def af56 : AF := { ntmps := 5, res := [(.cell 2 true 5)], body := a56_3 }
theorem tr56 : trF Tryz.prog Tryz.f56 = some af56 := by kernel_rfl
attribute [go_sem] af56 a56_0 a56_1 a56_2 a56_3
def a57_0 : AC := .reg [⟨(some 2), (.box (.t 0)), none, 0, false, []⟩,
    ⟨(some 3), (.box (.t 1)), none, 0, false, []⟩,
    ⟨(some 4), (.mv (.c (.bool false))), none, 0, false, []⟩] false
def a57_1 : AC := .reg [⟨(some 6), (.fad 0 (.t 2)), none, 0, false, []⟩,
    ⟨(some 7), (.load false 1 (.t 6)), none, 0, false, []⟩,
    ⟨(some 8), (.fad 0 (.t 3)), none, 0, false, []⟩,
    ⟨(some 9), (.load false 1 (.t 8)), none, 0, false, []⟩,
    ⟨(some 10), (.bin 0 .neq (.t 7) (.t 9)), none, 0, false, []⟩,
    ⟨(some 11), (.mv (.t 10)), none, 0, false, []⟩,
    ⟨(some 12), (.fad 1 (.t 2)), (some (11, false)), 0, false, []⟩,
    ⟨(some 13), (.load false 1 (.t 12)), (some (11, false)), 0, false, []⟩,
    ⟨(some 14), (.fad 1 (.t 3)), (some (11, false)), 0, false, []⟩,
    ⟨(some 15), (.load false 1 (.t 14)), (some (11, false)), 0, false, []⟩,
    ⟨(some 16), (.bin 0 .neq (.t 13) (.t 15)), (some (11, false)), 0, false, []⟩,
    ⟨(some 17), (.pick (.t 11) (.c (.bool true)) (.t 16)), none, 0, false, []⟩,
    ⟨(some 18), (.mv (.t 17)), none, 0, false, []⟩,
    ⟨(some 19), (.fad 2 (.t 2)), (some (18, false)), 0, false, []⟩,
    ⟨(some 20), (.load false 1 (.t 19)), (some (18, false)), 0, false, []⟩,
    ⟨(some 21), (.fad 2 (.t 3)), (some (18, false)), 0, false, []⟩,
    ⟨(some 22), (.load false 1 (.t 21)), (some (18, false)), 0, false, []⟩,
    ⟨(some 23), (.bin 0 .neq (.t 20) (.t 22)), (some (18, false)), 0, false, []⟩,
    ⟨(some 24), (.pick (.t 18) (.c (.bool true)) (.t 23)), none, 0, false, []⟩,
    ⟨(some 25), (.mv (.t 24)), none, 0, false, []⟩,
    ⟨(some 26), (.fad 3 (.t 2)), (some (25, false)), 0, false, []⟩,
    ⟨(some 27), (.load false 1 (.t 26)), (some (25, false)), 0, false, []⟩,
    ⟨(some 28), (.fad 3 (.t 3)), (some (25, false)), 0, false, []⟩,
    ⟨(some 29), (.load false 1 (.t 28)), (some (25, false)), 0, false, []⟩,
    ⟨(some 30), (.bin 0 .neq (.t 27) (.t 29)), (some (25, false)), 0, false, []⟩,
    ⟨(some 31), (.pick (.t 25) (.c (.bool true)) (.t 30)), none, 0, false, []⟩,
    ⟨(some 32), (.mv (.t 31)), none, 0, false, []⟩,
    ⟨(some 33), (.fad 4 (.t 2)), (some (32, false)), 0, false, []⟩,
    ⟨(some 34), (.load false 1 (.t 33)), (some (32, false)), 0, false, []⟩,
    ⟨(some 35), (.len false (.t 34)), (some (32, false)), 0, false, []⟩,
    ⟨(some 36), (.fad 4 (.t 3)), (some (32, false)), 0, false, []⟩,
    ⟨(some 37), (.load false 1 (.t 36)), (some (32, false)), 0, false, []⟩,
    ⟨(some 38), (.len false (.t 37)), (some (32, false)), 0, false, []⟩,
    ⟨(some 39), (.bin 0 .neq (.t 35) (.t 38)), (some (32, false)), 0, false, []⟩,
    ⟨(some 40), (.pick (.t 32) (.c (.bool true)) (.t 39)), none, 0, false, []⟩] false
def a57_2 : AC := .reg [⟨(some 4), (.mv (.c (.bool false))), none, 0, false, []⟩] false
def a57_3 : AC := .seq a57_2 .ret
def a57_4 : AC := .cond (.t 40) a57_3 .skip
def a57_5 : AC := .seq a57_1 a57_4
def a57_6 : AC := .reg [⟨(some 41), (.fad 4 (.t 2)), none, 0, false, []⟩,
    ⟨(some 42), (.load false 1 (.t 41)), none, 0, false, []⟩,
    ⟨(some 43), (.len false (.t 42)), none, 0, false, []⟩,
    ⟨(some 44), (.mv (.c (.int .i64 0))), none, 0, false, []⟩] false
def a57_7 : AC := .reg [⟨(some 45), (.bin 0 .lss (.t 44) (.t 43)), none, 0, false, []⟩] false
def a57_8 : AC := .cond (.t 45) .skip (.exit 0)
def a57_9 : AC := .reg [⟨(some 46), (.mv (.t 44)), none, 0, false, []⟩,
    ⟨(some 5), (.mv (.t 46)), none, 0, false, []⟩] false
def a57_10 : AC := .reg [⟨(some 47), (.fad 4 (.t 2)), none, 0, false, []⟩,
    ⟨(some 48), (.load false 1 (.t 47)), none, 1, false, []⟩,
    ⟨(some 49), (.mv (.t 5)), none, 2, false, []⟩,
    ⟨(some 50), (.iad 5 (.t 48) (.t 49)), none, 3, false, []⟩,
    ⟨(some 51), (.load true 5 (.t 50)), none, 4, false, []⟩,
    ⟨(some 52), (.fad 4 (.t 3)), none, 5, false, []⟩,
    ⟨(some 53), (.load false 1 (.t 52)), none, 6, false, []⟩,
    ⟨(some 54), (.mv (.t 5)), none, 7, false, []⟩,
    ⟨(some 55), (.iad 5 (.t 53) (.t 54)), none, 8, false, []⟩,
    ⟨(some 56), (.load true 5 (.t 55)), none, 9, false, []⟩,
    ⟨(some 57), (.call 57 [(.t 51), (.t 56)]), none, 10, false, []⟩,
    ⟨(some 58), (.un .not (.t 57)), none, 11, false, []⟩] true
def a57_11 : AC := .reg [⟨(some 4), (.mv (.c (.bool false))), none, 0, false, []⟩] false
def a57_12 : AC := .seq a57_11 .ret
def a57_13 : AC := .cond (.t 58) a57_12 .skip
def a57_14 : AC := .seq a57_10 a57_13
def a57_15 : AC := .seq a57_9 a57_14
def a57_16 : AC := .blk 1 a57_15
def a57_17 : AC := .reg [⟨(some 59), (.bin 0 .add (.t 44) (.c (.int .i64 1))), none, 0, false, []⟩,
    ⟨(some 44), (.mv (.t 59)), none, 0, false, []⟩] false
def a57_18 : AC := .seq a57_16 a57_17
def a57_19 : AC := .seq a57_8 a57_18
def a57_20 : AC := .seq a57_7 a57_19
def a57_21 : AC := .loop a57_20
def a57_22 : AC := .blk 0 a57_21
def a57_23 : AC := .seq a57_6 a57_22
def a57_24 : AC := .reg [⟨(some 4), (.mv (.c (.bool true))), none, 0, false, []⟩] false
def a57_25 : AC := .seq a57_24 .ret
def a57_26 : AC := .seq a57_23 a57_25
def a57_27 : AC := .seq a57_5 a57_26
def a57_28 : AC := .seq a57_0 a57_27
def af57 : AF := { ntmps := 60, res := [(.t 4)], body := a57_28 }
theorem tr57 : trF Tryz.prog Tryz.f57 = some af57 := by kernel_rfl
attribute [go_sem] af57 a57_0 a57_1 a57_2 a57_3 a57_4 a57_5 a57_6 a57_7 a57_8 a57_9 a57_10 a57_11 a57_12 a57_13 a57_14 a57_15 a57_16 a57_17 a57_18 a57_19 a57_20 a57_21 a57_22 a57_23 a57_24 a57_25 a57_26 a57_27 a57_28
def a61_0 : AC := .reg [⟨(some 2), (.box (.t 0)), none, 0, false, []⟩,
    ⟨(some 3), (.box (.t 1)), none, 0, false, []⟩,
    ⟨(some 4), (.mv (.c (.bool false))), none, 0, false, []⟩] false
def a61_1 : AC := .reg [⟨(some 6), (.fad 0 (.t 2)), none, 0, false, []⟩,
    ⟨(some 7), (.load false 1 (.t 6)), none, 0, false, []⟩,
    ⟨(some 8), (.fad 0 (.t 3)), none, 0, false, []⟩,
    ⟨(some 9), (.load false 1 (.t 8)), none, 0, false, []⟩,
    ⟨(some 10), (.bin 0 .neq (.t 7) (.t 9)), none, 0, false, []⟩,
    ⟨(some 11), (.mv (.t 10)), none, 0, false, []⟩,
    ⟨(some 12), (.fad 1 (.t 2)), (some (11, false)), 0, false, []⟩,
    ⟨(some 13), (.load false 1 (.t 12)), (some (11, false)), 0, false, []⟩,
    ⟨(some 14), (.fad 1 (.t 3)), (some (11, false)), 0, false, []⟩,
    ⟨(some 15), (.load false 1 (.t 14)), (some (11, false)), 0, false, []⟩,
    ⟨(some 16), (.bin 0 .neq (.t 13) (.t 15)), (some (11, false)), 0, false, []⟩,
    ⟨(some 17), (.pick (.t 11) (.c (.bool true)) (.t 16)), none, 0, false, []⟩,
    ⟨(some 18), (.mv (.t 17)), none, 0, false, []⟩,
    ⟨(some 19), (.fad 2 (.t 2)), (some (18, false)), 0, false, []⟩,
    ⟨(some 20), (.load false 1 (.t 19)), (some (18, false)), 0, false, []⟩,
    ⟨(some 21), (.fad 2 (.t 3)), (some (18, false)), 0, false, []⟩,
    ⟨(some 22), (.load false 1 (.t 21)), (some (18, false)), 0, false, []⟩,
    ⟨(some 23), (.bin 0 .neq (.t 20) (.t 22)), (some (18, false)), 0, false, []⟩,
    ⟨(some 24), (.pick (.t 18) (.c (.bool true)) (.t 23)), none, 0, false, []⟩,
    ⟨(some 25), (.mv (.t 24)), none, 0, false, []⟩,
    ⟨(some 26), (.fad 3 (.t 2)), (some (25, false)), 0, false, []⟩,
    ⟨(some 27), (.load false 1 (.t 26)), (some (25, false)), 0, false, []⟩,
    ⟨(some 28), (.fad 3 (.t 3)), (some (25, false)), 0, false, []⟩,
    ⟨(some 29), (.load false 1 (.t 28)), (some (25, false)), 0, false, []⟩,
    ⟨(some 30), (.bin 0 .neq (.t 27) (.t 29)), (some (25, false)), 0, false, []⟩,
    ⟨(some 31), (.pick (.t 25) (.c (.bool true)) (.t 30)), none, 0, false, []⟩,
    ⟨(some 32), (.mv (.t 31)), none, 0, false, []⟩,
    ⟨(some 33), (.fad 4 (.t 2)), (some (32, false)), 0, false, []⟩,
    ⟨(some 34), (.load false 1 (.t 33)), (some (32, false)), 0, false, []⟩,
    ⟨(some 35), (.len false (.t 34)), (some (32, false)), 0, false, []⟩,
    ⟨(some 36), (.fad 4 (.t 3)), (some (32, false)), 0, false, []⟩,
    ⟨(some 37), (.load false 1 (.t 36)), (some (32, false)), 0, false, []⟩,
    ⟨(some 38), (.len false (.t 37)), (some (32, false)), 0, false, []⟩,
    ⟨(some 39), (.bin 0 .neq (.t 35) (.t 38)), (some (32, false)), 0, false, []⟩,
    ⟨(some 40), (.pick (.t 32) (.c (.bool true)) (.t 39)), none, 0, false, []⟩] false
def a61_2 : AC := .reg [⟨(some 4), (.mv (.c (.bool false))), none, 0, false, []⟩] false
def a61_3 : AC := .seq a61_2 .ret
def a61_4 : AC := .cond (.t 40) a61_3 .skip
def a61_5 : AC := .seq a61_1 a61_4
def a61_6 : AC := .reg [⟨(some 5), (.mv (.c (.int .i64 0))), none, 0, false, []⟩] false
def a61_7 : AC := .reg [⟨(some 41), (.mv (.t 5)), none, 0, false, []⟩,
    ⟨(some 42), (.fad 4 (.t 2)), none, 0, false, []⟩,
    ⟨(some 43), (.load false 1 (.t 42)), none, 0, false, []⟩,
    ⟨(some 44), (.len false (.t 43)), none, 0, false, []⟩,
    ⟨(some 45), (.bin 0 .lss (.t 41) (.t 44)), none, 0, false, []⟩] false
def a61_8 : AC := .cond (.t 45) .skip (.exit 0)
def a61_9 : AC := .seq a61_7 a61_8
def a61_10 : AC := .reg [⟨(some 48), (.fad 4 (.t 2)), none, 0, false, []⟩,
    ⟨(some 49), (.load false 1 (.t 48)), none, 1, false, []⟩,
    ⟨(some 50), (.mv (.t 5)), none, 2, false, []⟩,
    ⟨(some 51), (.iad 5 (.t 49) (.t 50)), none, 3, false, []⟩,
    ⟨(some 52), (.load true 5 (.t 51)), none, 4, false, []⟩,
    ⟨(some 53), (.fad 4 (.t 3)), none, 5, false, []⟩,
    ⟨(some 54), (.load false 1 (.t 53)), none, 6, false, []⟩,
    ⟨(some 55), (.mv (.t 5)), none, 7, false, []⟩,
    ⟨(some 56), (.iad 5 (.t 54) (.t 55)), none, 8, false, []⟩,
    ⟨(some 57), (.load true 5 (.t 56)), none, 9, false, []⟩,
    ⟨(some 58), (.call 61 [(.t 52), (.t 57)]), none, 10, false, []⟩,
    ⟨(some 59), (.un .not (.t 58)), none, 11, false, []⟩] true
def a61_11 : AC := .reg [⟨(some 4), (.mv (.c (.bool false))), none, 0, false, []⟩] false
def a61_12 : AC := .seq a61_11 .ret
def a61_13 : AC := .cond (.t 59) a61_12 .skip
def a61_14 : AC := .seq a61_10 a61_13
def a61_15 : AC := .blk 1 a61_14
def a61_16 : AC := .reg [⟨(some 46), (.mv (.t 5)), none, 0, false, []⟩,
    ⟨(some 47), (.bin 0 .add (.t 46) (.c (.int .i64 1))), none, 0, false, []⟩,
    ⟨(some 5), (.mv (.t 47)), none, 0, false, []⟩] false
def a61_17 : AC := .seq a61_15 a61_16
def a61_18 : AC := .seq a61_9 a61_17
def a61_19 : AC := .loop a61_18
def a61_20 : AC := .blk 0 a61_19
def a61_21 : AC := .seq a61_6 a61_20
def a61_22 : AC := .reg [⟨(some 4), (.mv (.c (.bool true))), none, 0, false, []⟩] false
def a61_23 : AC := .seq a61_22 .ret
def a61_24 : AC := .seq a61_21 a61_23
def a61_25 : AC := .seq a61_5 a61_24
def a61_26 : AC := .seq a61_0 a61_25
def af61 : AF := { ntmps := 60, res := [(.t 4)], body := a61_26 }
theorem tr61 : trF Tryz.prog Tryz.f61 = some af61 := by kernel_rfl
attribute [go_sem] af61 a61_0 a61_1 a61_2 a61_3 a61_4 a61_5 a61_6 a61_7 a61_8 a61_9 a61_10 a61_11 a61_12 a61_13 a61_14 a61_15 a61_16 a61_17 a61_18 a61_19 a61_20 a61_21 a61_22 a61_23 a61_24 a61_25 a61_26
end Go.Proofs.YtkldipbhenabfaaGreat.Abs

