/- The abstract code of functions, printed by program; that it is the translation of the model's code is decided by the kernel. -/
import Derived.Test.YtkldipbhenabfaaGreatQEv
import Derived.Test.YtkldipbhenabfaaGreatProg
import Derived.KernelRfl
namespace Go.Proofs.YtkldipbhenabfaaGreat.Abs
open Go Go.Proofs Go.Proofs.YtkldipbhenabfaaGreat
def a124_0 : AC := .reg [⟨(some 3), (.box (.t 0)), none, 0, false, []⟩,
    ⟨(some 6), (.new [(.int .i64 0), (.int .i64 0), (.int .i64 0), (.int .i64 0), .nils]), none, 0, false, []⟩,
    ⟨(some 7), (.mv (.c (.bool false))), none, 0, false, []⟩] false
def a124_1 : AC := .reg [⟨(some 11), (.mv (.t 1)), none, 0, false, []⟩,
    ⟨(some 12), (.mv (.t 2)), none, 0, false, []⟩,
    ⟨(some 13), (.build [.nils, .nils, (.bool false)] [(0, (1, (.t 11))), (2, (1, (.t 12)))]), none, 0, false, []⟩,
    ⟨(some 14), (.box (.t 13)), none, 0, false, []⟩,
    ⟨(some 8), (.mv (.t 14)), none, 0, false, []⟩] false
def a124_2 : AC := .reg [⟨(some 15), (.mv (.t 1)), none, 0, false, []⟩,
    ⟨(some 16), (.len false (.t 15)), none, 0, false, []⟩,
    ⟨(some 17), (.mv (.c (.int .i64 0))), none, 0, false, []⟩] false
def a124_3 : AC := .reg [⟨(some 18), (.bin 0 .lss (.t 17) (.t 16)), none, 0, false, []⟩] false
def a124_4 : AC := .cond (.t 18) .skip (.exit 0)
def a124_5 : AC := .reg [⟨(some 19), (.iad 5 (.t 15) (.t 17)), none, 0, false, []⟩,
    ⟨(some 20), (.load true 5 (.t 19)), none, 0, false, []⟩,
    ⟨(some 10), (.new [(.int .i64 0), (.int .i64 0), (.int .i64 0), (.int .i64 0), .nils]), none, 0, false, []⟩,
    ⟨none, (.store 5 (.t 10) (.t 20)), none, 0, false, []⟩] false
def a124_6 : AC := .reg [⟨(some 21), (.load true 5 (.t 10)), none, 0, false, []⟩,
    ⟨(some 22), (.call 88 [(.t 21)]), none, 0, false, []⟩,
    ⟨(some 23), (.un .not (.t 22)), none, 0, false, []⟩,
    ⟨(some 24), (.mv (.t 23)), none, 0, false, []⟩,
    ⟨(some 25), (.load true 5 (.t 3)), (some (24, false)), 0, false, []⟩,
    ⟨(some 26), (.call 144 [(.t 25)]), (some (24, false)), 0, false, []⟩,
    ⟨(some 27), (.un .not (.t 26)), (some (24, false)), 0, false, []⟩,
    ⟨(some 28), (.mv (.t 27)), (some (24, false)), 0, false, []⟩,
    ⟨(some 29), (.fad 0 (.t 10)), (some (28, true)), 0, false, []⟩,
    ⟨(some 30), (.load false 1 (.t 29)), (some (28, true)), 0, false, []⟩,
    ⟨(some 31), (.bin 0 .geq (.t 30) (.c (.int .i64 13))), (some (28, true)), 0, false, []⟩,
    ⟨(some 32), (.pick (.t 28) (.t 31) (.c (.bool false))), (some (24, false)), 0, false, []⟩,
    ⟨(some 33), (.pick (.t 24) (.c (.bool true)) (.t 32)), none, 0, false, []⟩] false
def a124_7 : AC := .reg [⟨(some 34), (.build [(.int .i64 0), (.int .i64 0), (.int .i64 0), (.int .i64 0), .nils] []), none, 0, false, []⟩,
    ⟨none, (.store 5 (.t 6) (.t 34)), none, 0, false, []⟩,
    ⟨(some 7), (.mv (.c (.bool false))), none, 0, false, []⟩] false
def a124_8 : AC := .seq a124_7 .ret
def a124_9 : AC := .cond (.t 33) a124_8 .skip
def a124_10 : AC := .seq a124_6 a124_9
def a124_11 : AC := .reg [⟨(some 35), (.mv (.t 8)), none, 0, false, []⟩,
    ⟨(some 36), (.nilck (.t 35)), none, 1, false, []⟩,
    ⟨(some 37), (.fad 1 (.t 36)), none, 2, false, []⟩,
    ⟨(some 38), (.load false 1 (.t 37)), none, 3, true, []⟩,
    ⟨(some 39), (.load true 5 (.t 10)), none, 4, true, []⟩,
    ⟨(some 40), (.call 49 [(.t 39)]), none, 5, true, [3]⟩,
    ⟨(some 41), (.len false (.t 38)), none, 6, false, []⟩,
    ⟨(some 42), (.bslice 5 [(.c (.agg true [(.int .i64 0), (.int .i64 0), (.int .i64 0), (.int .i64 0), .nils]))]), none, 7, false, [3, 4, 5]⟩,
    ⟨(some 43), (.app 5 56 (.t 38) (.t 42)), none, 8, false, []⟩,
    ⟨(some 44), (.iad 5 (.t 43) (.t 41)), none, 9, true, []⟩,
    ⟨none, (.store 5 (.t 44) (.t 40)), none, 10, true, []⟩,
    ⟨(some 45), (.nilck (.t 35)), none, 11, false, []⟩,
    ⟨(some 46), (.fad 1 (.t 45)), none, 12, false, []⟩,
    ⟨none, (.store 1 (.t 46) (.t 43)), none, 13, false, [9, 10]⟩] true
def a124_12 : AC := .seq a124_10 a124_11
def a124_13 : AC := .seq a124_5 a124_12
def a124_14 : AC := .blk 1 a124_13
def a124_15 : AC := .reg [⟨(some 47), (.bin 0 .add (.t 17) (.c (.int .i64 1))), none, 0, false, []⟩,
    ⟨(some 17), (.mv (.t 47)), none, 0, false, []⟩] false
def a124_16 : AC := .seq a124_14 a124_15
def a124_17 : AC := .seq a124_4 a124_16
def a124_18 : AC := .seq a124_3 a124_17
def a124_19 : AC := .loop a124_18
def a124_20 : AC := .blk 0 a124_19
def a124_21 : AC := .seq a124_2 a124_20
def a124_22 : AC := .reg [⟨(some 48), (.mv (.t 8)), none, 0, false, []⟩,
    ⟨(some 49), (.load true 5 (.t 3)), none, 0, false, []⟩,
    ⟨(some 50), (.fad 0 (.t 3)), none, 0, false, []⟩,
    ⟨(some 51), (.load false 1 (.t 50)), none, 0, false, []⟩,
    ⟨(some 52), (.bin 0 .geq (.t 51) (.c (.int .i64 13))), none, 0, false, []⟩,
    ⟨(some 53), (.call 145 [(.t 48), (.t 49), (.c (.int .i64 0)), (.t 52)]), none, 0, false, []⟩,
    ⟨(some 54), (.ext (.t 53) 0), none, 0, false, []⟩,
    ⟨(some 55), (.ext (.t 53) 1), none, 0, false, []⟩,
    ⟨none, (.store 5 (.t 6) (.t 54)), none, 0, false, []⟩,
    ⟨(some 7), (.mv (.t 55)), none, 0, false, []⟩] false
def a124_23 : AC := .seq a124_22 .ret
def a124_24 : AC := .seq a124_21 a124_23
def a124_25 : AC := .seq a124_1 a124_24
def a124_26 : AC := .seq a124_0 a124_25
def af124 : AF := { ntmps := 56, res := [(.cell 6 true 5), (.t 7)], body := a124_26 }
theorem tr124 : trF Tryz.prog Tryz.f124 = some af124 := by kernel_rfl
attribute [go_sem] af124 a124_0 a124_1 a124_2 a124_3 a124_4 a124_5 a124_6 a124_7 a124_8 a124_9 a124_10 a124_11 a124_12 a124_13 a124_14 a124_15 a124_16 a124_17 a124_18 a124_19 a124_20 a124_21 a124_22 a124_23 a124_24 a124_25 a124_26
def a107_0 : AC := .reg [⟨(some 2), (.box (.t 0)), none, 0, false, []⟩,
    ⟨(some 3), (.box (.t 1)), none, 0, false, []⟩,
    ⟨(some 4), (.mv (.c (.bool false))), none, 0, false, []⟩] false
def a107_1 : AC := .reg [⟨(some 5), (.load true 5 (.t 3)), none, 0, false, []⟩,
    ⟨(some 6), (.call 105 [(.t 5)]), none, 0, false, []⟩,
    ⟨(some 7), (.mv (.t 6)), none, 0, false, []⟩,
    ⟨(some 8), (.fad 0 (.t 2)), (some (7, true)), 0, false, []⟩,
    ⟨(some 9), (.load false 1 (.t 8)), (some (7, true)), 0, false, []⟩,
    ⟨(some 10), (.bin 0 .eql (.t 9) (.c (.int .i64 1))), (some (7, true)), 0, false, []⟩,
    ⟨(some 11), (.mv (.t 10)), (some (7, true)), 0, false, []⟩,
    ⟨(some 12), (.fad 0 (.t 2)), (some (11, false)), 0, false, []⟩,
    ⟨(some 13), (.load false 1 (.t 12)), (some (11, false)), 0, false, []⟩,
    ⟨(some 14), (.bin 0 .eql (.t 13) (.c (.int .i64 2))), (some (11, false)), 0, false, []⟩,
    ⟨(some 15), (.pick (.t 11) (.c (.bool true)) (.t 14)), (some (7, true)), 0, false, []⟩,
    ⟨(some 16), (.mv (.t 15)), (some (7, true)), 0, false, []⟩,
    ⟨(some 17), (.load true 5 (.t 2)), (some (16, false)), 0, false, []⟩,
    ⟨(some 18), (.call 60 [(.t 17)]), (some (16, false)), 0, false, []⟩,
    ⟨(some 19), (.pick (.t 16) (.c (.bool true)) (.t 18)), (some (7, true)), 0, false, []⟩,
    ⟨(some 20), (.mv (.t 19)), (some (7, true)), 0, false, []⟩,
    ⟨(some 21), (.load true 5 (.t 3)), (some (20, false)), 0, false, []⟩,
    ⟨(some 22), (.call 21 [(.t 21)]), (some (20, false)), 0, false, []⟩,
    ⟨(some 23), (.pick (.t 20) (.c (.bool true)) (.t 22)), (some (7, true)), 0, false, []⟩,
    ⟨(some 24), (.pick (.t 7) (.t 23) (.c (.bool false))), none, 0, false, []⟩,
    ⟨(some 4), (.mv (.t 24)), none, 0, false, []⟩] false
def a107_2 : AC := .seq a107_1 .ret
def a107_3 : AC := .seq a107_0 a107_2
def af107 : AF := { ntmps := 25, res := [(.t 4)], body := a107_3 }
theorem tr107 : trF Tryz.prog Tryz.f107 = some af107 := by kernel_rfl
attribute [go_sem] af107 a107_0 a107_1 a107_2 a107_3
def a144_0 : AC := .reg [⟨(some 1), (.box (.t 0)), none, 0, false, []⟩,
    ⟨(some 2), (.mv (.c (.bool false))), none, 0, false, []⟩] false
def a144_1 : AC := .reg [⟨(some 3), (.fad 0 (.t 1)), none, 0, false, []⟩,
    ⟨(some 4), (.load false 1 (.t 3)), none, 0, false, []⟩,
    ⟨(some 5), (.bin 0 .eql (.t 4) (.c (.int .i64 1))), none, 0, false, []⟩,
    ⟨(some 6), (.mv (.t 5)), none, 0, false, []⟩,
    ⟨(some 7), (.fad 0 (.t 1)), (some (6, false)), 0, false, []⟩,
    ⟨(some 8), (.load false 1 (.t 7)), (some (6, false)), 0, false, []⟩,
    ⟨(some 9), (.bin 0 .eql (.t 8) (.c (.int .i64 2))), (some (6, false)), 0, false, []⟩,
    ⟨(some 10), (.pick (.t 6) (.c (.bool true)) (.t 9)), none, 0, false, []⟩,
    ⟨(some 11), (.mv (.t 10)), none, 0, false, []⟩,
    ⟨(some 12), (.fad 0 (.t 1)), (some (11, false)), 0, false, []⟩,
    ⟨(some 13), (.load false 1 (.t 12)), (some (11, false)), 0, false, []⟩,
    ⟨(some 14), (.bin 0 .geq (.t 13) (.c (.int .i64 13))), (some (11, false)), 0, false, []⟩,
    ⟨(some 15), (.pick (.t 11) (.c (.bool true)) (.t 14)), none, 0, false, []⟩,
    ⟨(some 2), (.mv (.t 15)), none, 0, false, []⟩] false
def a144_2 : AC := .seq a144_1 .ret
def a144_3 : AC := .seq a144_0 a144_2
def af144 : AF := { ntmps := 16, res := [(.t 2)], body := a144_3 }
theorem tr144 : trF Tryz.prog Tryz.f144 = some af144 := by kernel_rfl
attribute [go_sem] af144 a144_0 a144_1 a144_2 a144_3
def a49_0 : AC := .reg [⟨(some 1), (.box (.t 0)), none, 0, false, []⟩,
    ⟨(some 2), (.new [(.int .i64 0), (.int .i64 0), (.int .i64 0), (.int .i64 0), .nils]), none, 0, false, []⟩] false
def a49_1 : AC := .reg [⟨(some 3), (.load true 5 (.t 1)), none, 0, false, []⟩,
    ⟨(some 4), (.call 88 [(.t 3)]), none, 0, false, []⟩,
    ⟨(some 5), (.un .not (.t 4)), none, 0, false, []⟩] false
def a49_2 : AC := .reg [⟨(some 6), (.build [(.int .i64 0), (.int .i64 0), (.int .i64 0), (.int .i64 0), .nils] []), none, 0, false, []⟩,
    ⟨none, (.store 5 (.t 2) (.t 6)), none, 0, false, []⟩] false
def a49_3 : AC := .seq a49_2 .ret
def a49_4 : AC := .cond (.t 5) a49_3 .skip
def a49_5 : AC := .seq a49_1 a49_4
def a49_6 : AC := .reg [⟨(some 7), (.load true 5 (.t 1)), none, 0, false, []⟩,
    ⟨(some 8), (.call 89 [(.t 7)]), none, 0, false, []⟩,
    ⟨none, (.store 5 (.t 2) (.t 8)), none, 0, false, []⟩] false
def a49_7 : AC := .seq a49_6 .ret
def a49_8 : AC := .seq a49_5 a49_7
def a49_9 : AC := .seq a49_0 a49_8
def af49 : AF := { ntmps := 9, res := [(.cell 2 true 5)], body := a49_9 }
theorem tr49 : trF Tryz.prog Tryz.f49 = some af49 := by kernel_rfl
attribute [go_sem] af49 a49_0 a49_1 a49_2 a49_3 a49_4 a49_5 a49_6 a49_7 a49_8 a49_9
def a145_0 : AC := .reg [⟨(some 5), (.box (.t 1)), none, 0, false, []⟩,
    ⟨(some 8), (.new [(.int .i64 0), (.int .i64 0), (.int .i64 0), (.int .i64 0), .nils]), none, 0, false, []⟩,
    ⟨(some 9), (.mv (.c (.bool false))), none, 0, false, []⟩] false
def a145_1 : AC := .reg [⟨(some 15), (.fad 0 (.t 5)), none, 0, false, []⟩,
    ⟨(some 16), (.load false 1 (.t 15)), none, 0, false, []⟩,
    ⟨(some 17), (.bin 0 .eql (.t 16) (.c (.int .i64 2))), none, 0, false, []⟩,
    ⟨(some 18), (.mv (.t 17)), none, 0, false, []⟩,
    ⟨(some 19), (.fad 1 (.t 5)), (some (18, true)), 0, false, []⟩,
    ⟨(some 20), (.load false 1 (.t 19)), (some (18, true)), 0, false, []⟩,
    ⟨(some 21), (.mv (.t 2)), (some (18, true)), 0, false, []⟩,
    ⟨(some 22), (.bin 0 .geq (.t 20) (.t 21)), (some (18, true)), 0, false, []⟩,
    ⟨(some 23), (.pick (.t 18) (.t 22) (.c (.bool false))), none, 0, false, []⟩] false
def a145_2 : AC := .reg [⟨(some 24), (.mv (.t 0)), none, 0, false, []⟩,
    ⟨(some 25), (.fad 1 (.t 5)), none, 0, false, []⟩,
    ⟨(some 26), (.load false 1 (.t 25)), none, 0, false, []⟩,
    ⟨(some 27), (.mv (.t 2)), none, 0, false, []⟩,
    ⟨(some 28), (.bin 0 .sub (.t 26) (.t 27)), none, 0, false, []⟩,
    ⟨(some 29), (.mv (.t 2)), none, 0, false, []⟩,
    ⟨(some 30), (.mv (.t 3)), none, 0, false, []⟩,
    ⟨(some 31), (.call 160 [(.t 24), (.t 28), (.t 29), (.t 30)]), none, 0, false, []⟩,
    ⟨(some 32), (.ext (.t 31) 0), none, 0, false, []⟩,
    ⟨(some 33), (.ext (.t 31) 1), none, 0, false, []⟩,
    ⟨none, (.store 5 (.t 8) (.t 32)), none, 0, false, []⟩,
    ⟨(some 9), (.mv (.t 33)), none, 0, false, []⟩] false
def a145_3 : AC := .seq a145_2 .ret
def a145_4 : AC := .cond (.t 23) a145_3 .skip
def a145_5 : AC := .seq a145_1 a145_4
def a145_6 : AC := .reg [⟨(some 34), (.fad 4 (.t 5)), none, 0, false, []⟩,
    ⟨(some 35), (.load false 1 (.t 34)), none, 0, false, []⟩,
    ⟨(some 36), (.len false (.t 35)), none, 0, false, []⟩,
    ⟨(some 37), (.bin 0 .eql (.t 36) (.c (.int .i64 0))), none, 0, false, []⟩] false
def a145_7 : AC := .reg [⟨(some 38), (.fad 4 (.t 5)), none, 0, false, []⟩,
    ⟨none, (.store 1 (.t 38) (.c .nils)), none, 0, false, []⟩] false
def a145_8 : AC := .reg [⟨(some 39), (.load true 5 (.t 5)), none, 0, false, []⟩,
    ⟨none, (.store 5 (.t 8) (.t 39)), none, 0, false, []⟩,
    ⟨(some 9), (.mv (.c (.bool true))), none, 0, false, []⟩] false
def a145_9 : AC := .seq a145_8 .ret
def a145_10 : AC := .seq a145_7 a145_9
def a145_11 : AC := .cond (.t 37) a145_10 .skip
def a145_12 : AC := .seq a145_6 a145_11
def a145_13 : AC := .reg [⟨(some 40), (.fad 4 (.t 5)), none, 0, false, []⟩,
    ⟨(some 41), (.load false 1 (.t 40)), none, 0, false, []⟩,
    ⟨(some 42), (.len false (.t 41)), none, 0, false, []⟩,
    ⟨(some 43), (.mk 5 56 [(.int .i64 0), (.int .i64 0), (.int .i64 0), (.int .i64 0), .nils] (.t 42) (.t 42)), none, 0, false, []⟩,
    ⟨(some 10), (.mv (.t 43)), none, 0, false, []⟩] false
def a145_14 : AC := .reg [⟨(some 44), (.fad 4 (.t 5)), none, 0, false, []⟩,
    ⟨(some 45), (.load false 1 (.t 44)), none, 0, false, []⟩,
    ⟨(some 46), (.len false (.t 45)), none, 0, false, []⟩,
    ⟨(some 47), (.mv (.c (.int .i64 0))), none, 0, false, []⟩] false
def a145_15 : AC := .reg [⟨(some 48), (.bin 0 .lss (.t 47) (.t 46)), none, 0, false, []⟩] false
def a145_16 : AC := .cond (.t 48) .skip (.exit 0)
def a145_17 : AC := .reg [⟨(some 49), (.mv (.t 47)), none, 0, false, []⟩,
    ⟨(some 50), (.iad 5 (.t 45) (.t 47)), none, 0, false, []⟩,
    ⟨(some 51), (.load true 5 (.t 50)), none, 0, false, []⟩,
    ⟨(some 12), (.new [(.int .i64 0), (.int .i64 0), (.int .i64 0), (.int .i64 0), .nils]), none, 0, false, []⟩,
    ⟨(some 11), (.mv (.t 49)), none, 0, false, []⟩,
    ⟨none, (.store 5 (.t 12) (.t 51)), none, 0, false, []⟩] false
def a145_18 : AC := .reg [⟨(some 53), (.mv (.t 0)), none, 0, false, []⟩,
    ⟨(some 54), (.load true 5 (.t 12)), none, 1, true, []⟩,
    ⟨(some 55), (.mv (.t 2)), none, 2, false, []⟩,
    ⟨(some 56), (.fad 0 (.t 5)), none, 3, false, []⟩,
    ⟨(some 57), (.load false 1 (.t 56)), none, 4, true, []⟩,
    ⟨(some 58), (.mv (.t 11)), none, 5, false, []⟩,
    ⟨(some 59), (.call 71 [(.t 57), (.t 58)]), none, 6, true, [1]⟩,
    ⟨(some 60), (.bin 0 .add (.t 55) (.t 59)), none, 7, false, []⟩,
    ⟨(some 61), (.mv (.t 3)), none, 8, false, []⟩,
    ⟨(some 62), (.mv (.t 61)), none, 9, false, []⟩,
    ⟨(some 63), (.fad 0 (.t 5)), (some (62, false)), 10, false, []⟩,
    ⟨(some 64), (.load false 1 (.t 63)), (some (62, false)), 11, true, []⟩,
    ⟨(some 65), (.bin 0 .eql (.t 64) (.c (.int .i64 12))), (some (62, false)), 12, false, []⟩,
    ⟨(some 66), (.mv (.t 65)), (some (62, false)), 13, false, []⟩,
    ⟨(some 67), (.mv (.t 11)), (some (66, true)), 14, false, []⟩,
    ⟨(some 68), (.bin 0 .eql (.t 67) (.c (.int .i64 2))), (some (66, true)), 15, false, []⟩,
    ⟨(some 69), (.pick (.t 66) (.t 68) (.c (.bool false))), (some (62, false)), 16, false, []⟩,
    ⟨(some 70), (.pick (.t 62) (.c (.bool true)) (.t 69)), none, 17, false, []⟩,
    ⟨(some 71), (.call 145 [(.t 53), (.t 54), (.t 60), (.t 70)]), none, 18, true, []⟩,
    ⟨(some 52), (.mv (.t 71)), none, 19, false, []⟩,
    ⟨(some 72), (.ext (.t 52) 0), none, 20, false, []⟩,
    ⟨(some 73), (.ext (.t 52) 1), none, 21, false, []⟩,
    ⟨(some 13), (.new [(.int .i64 0), (.int .i64 0), (.int .i64 0), (.int .i64 0), .nils]), none, 22, false, [1, 4, 6, 11, 18]⟩,
    ⟨none, (.store 5 (.t 13) (.t 72)), none, 23, false, []⟩,
    ⟨(some 14), (.mv (.t 73)), none, 24, false, []⟩] true
def a145_19 : AC := .reg [⟨(some 74), (.mv (.t 14)), none, 0, false, []⟩,
    ⟨(some 75), (.un .not (.t 74)), none, 0, false, []⟩] false
def a145_20 : AC := .reg [⟨(some 76), (.build [(.int .i64 0), (.int .i64 0), (.int .i64 0), (.int .i64 0), .nils] []), none, 0, false, []⟩,
    ⟨none, (.store 5 (.t 8) (.t 76)), none, 0, false, []⟩,
    ⟨(some 9), (.mv (.c (.bool false))), none, 0, false, []⟩] false
def a145_21 : AC := .seq a145_20 .ret
def a145_22 : AC := .cond (.t 75) a145_21 .skip
def a145_23 : AC := .seq a145_19 a145_22
def a145_24 : AC := .reg [⟨(some 77), (.mv (.t 10)), none, 0, false, []⟩,
    ⟨(some 78), (.mv (.t 11)), none, 0, false, []⟩,
    ⟨(some 79), (.load true 5 (.t 13)), none, 0, false, []⟩,
    ⟨(some 80), (.iad 5 (.t 77) (.t 78)), none, 0, false, []⟩,
    ⟨none, (.store 5 (.t 80) (.t 79)), none, 0, false, []⟩] false
def a145_25 : AC := .seq a145_23 a145_24
def a145_26 : AC := .seq a145_18 a145_25
def a145_27 : AC := .seq a145_17 a145_26
def a145_28 : AC := .blk 1 a145_27
def a145_29 : AC := .reg [⟨(some 81), (.bin 0 .add (.t 47) (.c (.int .i64 1))), none, 0, false, []⟩,
    ⟨(some 47), (.mv (.t 81)), none, 0, false, []⟩] false
def a145_30 : AC := .seq a145_28 a145_29
def a145_31 : AC := .seq a145_16 a145_30
def a145_32 : AC := .seq a145_15 a145_31
def a145_33 : AC := .loop a145_32
def a145_34 : AC := .blk 0 a145_33
def a145_35 : AC := .seq a145_14 a145_34
def a145_36 : AC := .reg [⟨(some 82), (.mv (.t 10)), none, 0, false, []⟩,
    ⟨(some 83), (.fad 4 (.t 5)), none, 0, false, []⟩,
    ⟨none, (.store 1 (.t 83) (.t 82)), none, 0, false, []⟩] false
def a145_37 : AC := .reg [⟨(some 84), (.load true 5 (.t 5)), none, 0, false, []⟩,
    ⟨none, (.store 5 (.t 8) (.t 84)), none, 0, false, []⟩,
    ⟨(some 9), (.mv (.c (.bool true))), none, 0, false, []⟩] false
def a145_38 : AC := .seq a145_37 .ret
def a145_39 : AC := .seq a145_36 a145_38
def a145_40 : AC := .seq a145_35 a145_39
def a145_41 : AC := .seq a145_13 a145_40
def a145_42 : AC := .seq a145_12 a145_41
def a145_43 : AC := .seq a145_5 a145_42
def a145_44 : AC := .seq a145_0 a145_43
def af145 : AF := { ntmps := 85, res := [(.cell 8 true 5), (.t 9)], body := a145_44 }
theorem tr145 : trF Tryz.prog Tryz.f145 = some af145 := by kernel_rfl
attribute [go_sem] af145 a145_0 a145_1 a145_2 a145_3 a145_4 a145_5 a145_6 a145_7 a145_8 a145_9 a145_10 a145_11 a145_12 a145_13 a145_14 a145_15 a145_16 a145_17 a145_18 a145_19 a145_20 a145_21 a145_22 a145_23 a145_24 a145_25 a145_26 a145_27 a145_28 a145_29 a145_30 a145_31 a145_32 a145_33 a145_34 a145_35 a145_36 a145_37 a145_38 a145_39 a145_40 a145_41 a145_42 a145_43 a145_44
def a126_0 : AC := .reg [⟨(some 3), (.box (.t 0)), none, 0, false, []⟩,
    ⟨(some 6), (.new [(.int .i64 0), (.int .i64 0), (.int .i64 0), (.int .i64 0), .nils]), none, 0, false, []⟩,
    ⟨(some 7), (.mv (.c (.bool false))), none, 0, false, []⟩] false
def a126_1 : AC := .reg [⟨(some 8), (.mv (.t 2)), none, 0, false, []⟩] false
def a126_2 : AC := .reg [⟨(some 9), (.load true 5 (.t 3)), none, 0, false, []⟩,
    ⟨(some 10), (.call 53 [(.t 9)]), none, 0, false, []⟩,
    ⟨none, (.store 5 (.t 3) (.t 10)), none, 0, false, []⟩] false
def a126_3 : AC := .cond (.t 8) a126_2 .skip
def a126_4 : AC := .seq a126_1 a126_3
def a126_5 : AC := .reg [⟨(some 11), (.load true 5 (.t 3)), none, 0, false, []⟩,
    ⟨(some 12), (.mv (.t 1)), none, 0, false, []⟩,
    ⟨(some 13), (.call 109 [(.t 11), (.t 12), (.c (.int .i64 0))]), none, 0, false, []⟩,
    ⟨(some 14), (.ext (.t 13) 0), none, 0, false, []⟩,
    ⟨(some 15), (.ext (.t 13) 1), none, 0, false, []⟩,
    ⟨none, (.store 5 (.t 6) (.t 14)), none, 0, false, []⟩,
    ⟨(some 7), (.mv (.t 15)), none, 0, false, []⟩] false
def a126_6 : AC := .seq a126_5 .ret
def a126_7 : AC := .seq a126_4 a126_6
def a126_8 : AC := .seq a126_0 a126_7
def af126 : AF := { ntmps := 16, res := [(.cell 6 true 5), (.t 7)], body := a126_8 }
theorem tr126 : trF Tryz.prog Tryz.f126 = some af126 := by kernel_rfl
attribute [go_sem] af126 a126_0 a126_1 a126_2 a126_3 a126_4 a126_5 a126_6 a126_7 a126_8
def a127_0 : AC := .reg [⟨(some 2), (.box (.t 0)), none, 0, false, []⟩,
    ⟨(some 4), (.mv (.c (.bool false))), none, 0, false, []⟩] false
def a127_1 : AC := .reg [⟨(some 5), (.fad 0 (.t 2)), none, 0, false, []⟩,
    ⟨(some 6), (.load false 1 (.t 5)), none, 0, false, []⟩,
    ⟨(some 7), (.bin 0 .gtr (.t 6) (.c (.int .i64 12))), none, 0, false, []⟩,
    ⟨(some 8), (.mv (.t 7)), none, 0, false, []⟩,
    ⟨(some 9), (.fad 0 (.t 2)), (some (8, false)), 0, false, []⟩,
    ⟨(some 10), (.load false 1 (.t 9)), (some (8, false)), 0, false, []⟩,
    ⟨(some 11), (.bin 0 .eql (.t 10) (.c (.int .i64 12))), (some (8, false)), 0, false, []⟩,
    ⟨(some 12), (.mv (.t 11)), (some (8, false)), 0, false, []⟩,
    ⟨(some 13), (.mv (.t 1)), (some (12, true)), 0, false, []⟩,
    ⟨(some 14), (.bin 0 .eql (.t 13) (.c (.int .i64 2))), (some (12, true)), 0, false, []⟩,
    ⟨(some 15), (.pick (.t 12) (.t 14) (.c (.bool false))), (some (8, false)), 0, false, []⟩,
    ⟨(some 16), (.pick (.t 8) (.c (.bool true)) (.t 15)), none, 0, false, []⟩,
    ⟨(some 4), (.mv (.t 16)), none, 0, false, []⟩] false
def a127_2 : AC := .seq a127_1 .ret
def a127_3 : AC := .seq a127_0 a127_2
def af127 : AF := { ntmps := 17, res := [(.t 4)], body := a127_3 }
theorem tr127 : trF Tryz.prog Tryz.f127 = some af127 := by kernel_rfl
attribute [go_sem] af127 a127_0 a127_1 a127_2 a127_3
def a89_0 : AC := .reg [⟨(some 1), (.box (.t 0)), none, 0, false, []⟩,
    ⟨(some 2), (.new [(.int .i64 0), (.int .i64 0), (.int .i64 0), (.int .i64 0), .nils]), none, 0, false, []⟩] false
def a89_1 : AC := .reg [⟨(some 3), (.mv (.c (.int .i64 0))), none, 0, false, []⟩,
    ⟨(some 4), (.mv (.c (.int .i64 0))), none, 0, false, []⟩] false
def a89_2 : AC := .reg [⟨(some 8), (.fad 0 (.t 1)), none, 0, false, []⟩,
    ⟨(some 9), (.load false 1 (.t 8)), none, 0, false, []⟩] false
def a89_3 : AC := .reg [⟨(some 13), (.bin 0 .eql (.t 9) (.c (.int .i64 3))), none, 0, false, []⟩,
    ⟨(some 12), (.mv (.t 13)), none, 0, false, []⟩] false
def a89_4 : AC := .reg [⟨(some 3), (.mv (.c (.int .i64 13))), none, 0, false, []⟩] false
def a89_5 : AC := .reg [⟨(some 15), (.bin 0 .eql (.t 9) (.c (.int .i64 4))), none, 0, false, []⟩,
    ⟨(some 14), (.mv (.t 15)), none, 0, false, []⟩] false
def a89_6 : AC := .reg [⟨(some 16), (.fad 4 (.t 1)), none, 0, false, []⟩,
    ⟨(some 17), (.load false 1 (.t 16)), none, 1, false, []⟩,
    ⟨(some 18), (.iad 5 (.t 17) (.c (.int .i64 0))), none, 2, false, []⟩,
    ⟨(some 19), (.load true 5 (.t 18)), none, 3, false, []⟩,
    ⟨(some 20), (.call 89 [(.t 19)]), none, 4, true, []⟩,
    ⟨(some 21), (.fad 4 (.t 1)), none, 5, false, []⟩,
    ⟨(some 22), (.load false 1 (.t 21)), none, 6, false, [4]⟩,
    ⟨(some 23), (.iad 5 (.t 22) (.c (.int .i64 2))), none, 7, false, [4]⟩,
    ⟨(some 24), (.load true 5 (.t 23)), none, 8, false, [4]⟩,
    ⟨(some 25), (.call 89 [(.t 24)]), none, 9, false, []⟩,
    ⟨(some 26), (.bslice 5 [(.t 20), (.t 25)]), none, 10, false, []⟩,
    ⟨(some 27), (.call 58 [(.c (.int .i64 14)), (.c (.int .i64 0)), (.c (.int .i64 0)), (.c (.int .i64 0)), (.t 26)]), none, 11, false, []⟩,
    ⟨none, (.store 5 (.t 2) (.t 27)), none, 12, false, []⟩] true
def a89_7 : AC := .seq a89_6 .ret
def a89_8 : AC := .reg [⟨(some 29), (.bin 0 .eql (.t 9) (.c (.int .i64 5))), none, 0, false, []⟩,
    ⟨(some 28), (.mv (.t 29)), none, 0, false, []⟩] false
def a89_9 : AC := .reg [⟨(some 3), (.mv (.c (.int .i64 15))), none, 0, false, []⟩,
    ⟨(some 4), (.mv (.c (.int .i64 2))), none, 0, false, []⟩] false
def a89_10 : AC := .reg [⟨(some 31), (.bin 0 .eql (.t 9) (.c (.int .i64 6))), none, 0, false, []⟩,
    ⟨(some 30), (.mv (.t 31)), none, 0, false, []⟩] false
def a89_11 : AC := .reg [⟨(some 3), (.mv (.c (.int .i64 16))), none, 0, false, []⟩] false
def a89_12 : AC := .reg [⟨(some 33), (.bin 0 .eql (.t 9) (.c (.int .i64 7))), none, 0, false, []⟩,
    ⟨(some 32), (.mv (.t 33)), none, 0, false, []⟩] false
def a89_13 : AC := .reg [⟨(some 3), (.mv (.c (.int .i64 17))), none, 0, false, []⟩] false
def a89_14 : AC := .reg [⟨(some 35), (.bin 0 .eql (.t 9) (.c (.int .i64 8))), none, 0, false, []⟩,
    ⟨(some 34), (.mv (.t 35)), none, 0, false, []⟩] false
def a89_15 : AC := .reg [⟨(some 3), (.mv (.c (.int .i64 18))), none, 0, false, []⟩,
    ⟨(some 4), (.mv (.c (.int .i64 2))), none, 0, false, []⟩] false
def a89_16 : AC := .reg [⟨(some 37), (.bin 0 .eql (.t 9) (.c (.int .i64 9))), none, 0, false, []⟩,
    ⟨(some 36), (.mv (.t 37)), none, 0, false, []⟩] false
def a89_17 : AC := .reg [⟨(some 3), (.mv (.c (.int .i64 19))), none, 0, false, []⟩,
    ⟨(some 4), (.mv (.c (.int .i64 2))), none, 0, false, []⟩] false
def a89_18 : AC := .reg [⟨(some 39), (.bin 0 .eql (.t 9) (.c (.int .i64 10))), none, 0, false, []⟩,
    ⟨(some 38), (.mv (.t 39)), none, 0, false, []⟩] false
def a89_19 : AC := .reg [⟨(some 3), (.mv (.c (.int .i64 20))), none, 0, false, []⟩] false
def a89_20 : AC := .reg [⟨(some 41), (.bin 0 .eql (.t 9) (.c (.int .i64 11))), none, 0, false, []⟩,
    ⟨(some 40), (.mv (.t 41)), none, 0, false, []⟩] false
def a89_21 : AC := .reg [⟨(some 3), (.mv (.c (.int .i64 21))), none, 0, false, []⟩] false
def a89_22 : AC := .reg [⟨(some 43), (.bin 0 .eql (.t 9) (.c (.int .i64 12))), none, 0, false, []⟩,
    ⟨(some 42), (.mv (.t 43)), none, 0, false, []⟩] false
def a89_23 : AC := .reg [⟨(some 44), (.fad 1 (.t 1)), none, 0, false, []⟩,
    ⟨(some 45), (.load false 1 (.t 44)), none, 1, true, []⟩,
    ⟨(some 46), (.fad 4 (.t 1)), none, 2, false, []⟩,
    ⟨(some 47), (.load false 1 (.t 46)), none, 3, false, []⟩,
    ⟨(some 48), (.iad 5 (.t 47) (.c (.int .i64 0))), none, 4, false, []⟩,
    ⟨(some 49), (.load true 5 (.t 48)), none, 5, false, []⟩,
    ⟨(some 50), (.call 89 [(.t 49)]), none, 6, true, [1]⟩,
    ⟨(some 51), (.fad 4 (.t 1)), none, 7, false, []⟩,
    ⟨(some 52), (.load false 1 (.t 51)), none, 8, false, [6]⟩,
    ⟨(some 53), (.iad 5 (.t 52) (.c (.int .i64 1))), none, 9, false, [6]⟩,
    ⟨(some 54), (.load true 5 (.t 53)), none, 10, false, [6]⟩,
    ⟨(some 55), (.call 89 [(.t 54)]), none, 11, true, [1]⟩,
    ⟨(some 56), (.fad 4 (.t 1)), none, 12, false, []⟩,
    ⟨(some 57), (.load false 1 (.t 56)), none, 13, false, [6, 11]⟩,
    ⟨(some 58), (.iad 5 (.t 57) (.c (.int .i64 2))), none, 14, false, [6, 11]⟩,
    ⟨(some 59), (.load true 5 (.t 58)), none, 15, false, [6, 11]⟩,
    ⟨(some 60), (.call 34 [(.t 59)]), none, 16, true, [1]⟩,
    ⟨(some 61), (.fad 4 (.t 1)), none, 17, false, []⟩,
    ⟨(some 62), (.load false 1 (.t 61)), none, 18, false, [6, 11, 16]⟩,
    ⟨(some 63), (.iad 5 (.t 62) (.c (.int .i64 3))), none, 19, false, [6, 11, 16]⟩,
    ⟨(some 64), (.load true 5 (.t 63)), none, 20, false, [6, 11, 16]⟩,
    ⟨(some 65), (.call 89 [(.t 64)]), none, 21, false, [1]⟩,
    ⟨(some 66), (.bslice 5 [(.t 50), (.t 55), (.t 60), (.t 65)]), none, 22, false, [1]⟩,
    ⟨(some 67), (.call 58 [(.c (.int .i64 23)), (.t 45), (.c (.int .i64 0)), (.c (.int .i64 5)), (.t 66)]), none, 23, false, []⟩,
    ⟨none, (.store 5 (.t 2) (.t 67)), none, 24, false, []⟩] true
def a89_24 : AC := .seq a89_23 .ret
def a89_25 : AC := .reg [⟨(some 10), (.load true 5 (.t 1)), none, 0, false, []⟩,
    ⟨(some 11), (.call 34 [(.t 10)]), none, 0, false, []⟩,
    ⟨none, (.store 5 (.t 2) (.t 11)), none, 0, false, []⟩] false
def a89_26 : AC := .seq a89_25 .ret
def a89_27 : AC := .cond (.t 42) a89_24 a89_26
def a89_28 : AC := .seq a89_22 a89_27
def a89_29 : AC := .cond (.t 40) a89_21 a89_28
def a89_30 : AC := .seq a89_20 a89_29
def a89_31 : AC := .cond (.t 38) a89_19 a89_30
def a89_32 : AC := .seq a89_18 a89_31
def a89_33 : AC := .cond (.t 36) a89_17 a89_32
def a89_34 : AC := .seq a89_16 a89_33
def a89_35 : AC := .cond (.t 34) a89_15 a89_34
def a89_36 : AC := .seq a89_14 a89_35
def a89_37 : AC := .cond (.t 32) a89_13 a89_36
def a89_38 : AC := .seq a89_12 a89_37
def a89_39 : AC := .cond (.t 30) a89_11 a89_38
def a89_40 : AC := .seq a89_10 a89_39
def a89_41 : AC := .cond (.t 28) a89_9 a89_40
def a89_42 : AC := .seq a89_8 a89_41
def a89_43 : AC := .cond (.t 14) a89_7 a89_42
def a89_44 : AC := .seq a89_5 a89_43
def a89_45 : AC := .cond (.t 12) a89_4 a89_44
def a89_46 : AC := .seq a89_3 a89_45
def a89_47 : AC := .blk 0 a89_46
def a89_48 : AC := .seq a89_2 a89_47
def a89_49 : AC := .reg [⟨(some 68), (.mv (.t 3)), none, 0, false, []⟩,
    ⟨(some 69), (.fad 4 (.t 1)), none, 0, false, []⟩,
    ⟨(some 70), (.load false 1 (.t 69)), none, 0, false, []⟩,
    ⟨(some 71), (.len false (.t 70)), none, 0, false, []⟩,
    ⟨(some 72), (.mv (.t 4)), none, 0, false, []⟩,
    ⟨(some 73), (.bin 0 .sub (.t 71) (.t 72)), none, 0, false, []⟩,
    ⟨(some 74), (.mk 5 56 [(.int .i64 0), (.int .i64 0), (.int .i64 0), (.int .i64 0), .nils] (.c (.int .i64 0)) (.t 73)), none, 0, false, []⟩,
    ⟨(some 75), (.build [(.int .i64 0), (.int .i64 0), (.int .i64 0), (.int .i64 0), .nils] [(0, (1, (.t 68))), (4, (1, (.t 74)))]), none, 0, false, []⟩,
    ⟨(some 5), (.new [(.int .i64 0), (.int .i64 0), (.int .i64 0), (.int .i64 0), .nils]), none, 0, false, []⟩,
    ⟨none, (.store 5 (.t 5) (.t 75)), none, 0, false, []⟩] false
def a89_50 : AC := .reg [⟨(some 76), (.fad 4 (.t 1)), none, 0, false, []⟩,
    ⟨(some 77), (.load false 1 (.t 76)), none, 0, false, []⟩,
    ⟨(some 78), (.mv (.t 4)), none, 0, false, []⟩,
    ⟨(some 79), (.slc 5 (.t 77) (some (.t 78)) none), none, 0, false, []⟩,
    ⟨(some 80), (.len false (.t 79)), none, 0, false, []⟩,
    ⟨(some 81), (.mv (.c (.int .i64 0))), none, 0, false, []⟩] false
def a89_51 : AC := .reg [⟨(some 82), (.bin 0 .lss (.t 81) (.t 80)), none, 0, false, []⟩] false
def a89_52 : AC := .cond (.t 82) .skip (.exit 1)
def a89_53 : AC := .reg [⟨(some 83), (.iad 5 (.t 79) (.t 81)), none, 0, false, []⟩,
    ⟨(some 84), (.load true 5 (.t 83)), none, 0, false, []⟩,
    ⟨(some 7), (.new [(.int .i64 0), (.int .i64 0), (.int .i64 0), (.int .i64 0), .nils]), none, 0, false, []⟩,
    ⟨none, (.store 5 (.t 7) (.t 84)), none, 0, false, []⟩] false
def a89_54 : AC := .reg [⟨(some 85), (.fad 4 (.t 5)), none, 0, false, []⟩,
    ⟨(some 86), (.load false 1 (.t 85)), none, 1, true, []⟩,
    ⟨(some 87), (.load true 5 (.t 7)), none, 2, false, []⟩,
    ⟨(some 88), (.call 89 [(.t 87)]), none, 3, false, [1]⟩,
    ⟨(some 89), (.bslice 5 [(.t 88)]), none, 4, false, [1]⟩,
    ⟨(some 90), (.app 5 56 (.t 86) (.t 89)), none, 5, false, []⟩,
    ⟨(some 91), (.fad 4 (.t 5)), none, 6, false, []⟩,
    ⟨none, (.store 1 (.t 91) (.t 90)), none, 7, false, []⟩] true
def a89_55 : AC := .seq a89_53 a89_54
def a89_56 : AC := .blk 2 a89_55
def a89_57 : AC := .reg [⟨(some 92), (.bin 0 .add (.t 81) (.c (.int .i64 1))), none, 0, false, []⟩,
    ⟨(some 81), (.mv (.t 92)), none, 0, false, []⟩] false
def a89_58 : AC := .seq a89_56 a89_57
def a89_59 : AC := .seq a89_52 a89_58
def a89_60 : AC := .seq a89_51 a89_59
def a89_61 : AC := .loop a89_60
def a89_62 : AC := .blk 1 a89_61
def a89_63 : AC := .seq a89_50 a89_62
def a89_64 : AC := .reg [⟨(some 93), (.load true 5 (.t 5)), none, 0, false, []⟩,
    ⟨none, (.store 5 (.t 2) (.t 93)), none, 0, false, []⟩] false
def a89_65 : AC := .seq a89_64 .ret
def a89_66 : AC := .seq a89_63 a89_65
def a89_67 : AC := .seq a89_49 a89_66
def a89_68 : AC := .seq a89_48 a89_67
def a89_69 : AC := .seq a89_1 a89_68
def a89_70 : AC := .seq a89_0 a89_69
def af89 : AF := { ntmps := 94, res := [(.cell 2 true 5)], body := a89_70 }
theorem tr89 : trF Tryz.prog Tryz.f89 = some af89 := by kernel_rfl
attribute [go_sem] af89 a89_0 a89_1 a89_2 a89_3 a89_4 a89_5 a89_6 a89_7 a89_8 a89_9 a89_10 a89_11 a89_12 a89_13 a89_14 a89_15 a89_16 a89_17 a89_18 a89_19 a89_20 a89_21 a89_22 a89_23 a89_24 a89_25 a89_26 a89_27 a89_28 a89_29 a89_30 a89_31 a89_32 a89_33 a89_34 a89_35 a89_36 a89_37 a89_38 a89_39 a89_40 a89_41 a89_42 a89_43 a89_44 a89_45 a89_46 a89_47 a89_48 a89_49 a89_50 a89_51 a89_52 a89_53 a89_54 a89_55 a89_56 a89_57 a89_58 a89_59 a89_60 a89_61 a89_62 a89_63 a89_64 a89_65 a89_66 a89_67 a89_68 a89_69 a89_70
def a160_0 : AC := .reg [⟨(some 8), (.new [(.int .i64 0), (.int .i64 0), (.int .i64 0), (.int .i64 0), .nils]), none, 0, false, []⟩,
    ⟨(some 9), (.mv (.c (.bool false))), none, 0, false, []⟩] false
def a160_1 : AC := .reg [⟨(some 10), (.mv (.t 1)), none, 0, false, []⟩,
    ⟨(some 11), (.mv (.t 0)), none, 0, false, []⟩,
    ⟨(some 12), (.nilck (.t 11)), none, 0, false, []⟩,
    ⟨(some 13), (.fad 0 (.t 12)), none, 0, false, []⟩,
    ⟨(some 14), (.load false 1 (.t 13)), none, 0, false, []⟩,
    ⟨(some 15), (.len false (.t 14)), none, 0, false, []⟩,
    ⟨(some 16), (.bin 0 .geq (.t 10) (.t 15)), none, 0, false, []⟩] false
def a160_2 : AC := .reg [⟨(some 17), (.mv (.t 0)), none, 0, false, []⟩,
    ⟨(some 18), (.nilck (.t 17)), none, 0, false, []⟩,
    ⟨(some 19), (.fad 2 (.t 18)), none, 0, false, []⟩,
    ⟨(some 20), (.load false 1 (.t 19)), none, 0, false, []⟩,
    ⟨(some 21), (.un .not (.t 20)), none, 0, false, []⟩] false
def a160_3 : AC := .reg [⟨(some 22), (.build [(.int .i64 0), (.int .i64 0), (.int .i64 0), (.int .i64 0), .nils] []), none, 0, false, []⟩,
    ⟨none, (.store 5 (.t 8) (.t 22)), none, 0, false, []⟩,
    ⟨(some 9), (.mv (.c (.bool false))), none, 0, false, []⟩] false
def a160_4 : AC := .seq a160_3 .ret
def a160_5 : AC := .cond (.t 21) a160_4 .skip
def a160_6 : AC := .seq a160_2 a160_5
def a160_7 : AC := .reg [⟨(some 23), (.mv (.t 1)), none, 0, false, []⟩,
    ⟨(some 24), (.mv (.t 0)), none, 0, false, []⟩,
    ⟨(some 25), (.nilck (.t 24)), none, 0, false, []⟩,
    ⟨(some 26), (.fad 0 (.t 25)), none, 0, false, []⟩,
    ⟨(some 27), (.load false 1 (.t 26)), none, 0, false, []⟩,
    ⟨(some 28), (.len false (.t 27)), none, 0, false, []⟩,
    ⟨(some 29), (.bin 0 .sub (.t 23) (.t 28)), none, 0, false, []⟩,
    ⟨(some 30), (.mv (.t 2)), none, 0, false, []⟩,
    ⟨(some 31), (.bin 0 .add (.t 29) (.t 30)), none, 0, false, []⟩,
    ⟨(some 32), (.call 50 [(.t 31)]), none, 0, false, []⟩,
    ⟨none, (.store 5 (.t 8) (.t 32)), none, 0, false, []⟩,
    ⟨(some 9), (.mv (.c (.bool true))), none, 0, false, []⟩] false
def a160_8 : AC := .seq a160_7 .ret
def a160_9 : AC := .seq a160_6 a160_8
def a160_10 : AC := .cond (.t 16) a160_9 .skip
def a160_11 : AC := .seq a160_1 a160_10
def a160_12 : AC := .reg [⟨(some 33), (.mv (.t 3)), none, 0, false, []⟩] false
def a160_13 : AC := .reg [⟨(some 34), (.mv (.t 0)), none, 0, false, []⟩,
    ⟨(some 35), (.nilck (.t 34)), none, 0, false, []⟩,
    ⟨(some 36), (.fad 1 (.t 35)), none, 0, false, []⟩,
    ⟨(some 37), (.load false 1 (.t 36)), none, 0, false, []⟩,
    ⟨(some 38), (.mv (.t 1)), none, 0, false, []⟩,
    ⟨(some 39), (.iad 5 (.t 37) (.t 38)), none, 0, false, []⟩,
    ⟨(some 40), (.load true 5 (.t 39)), none, 0, false, []⟩,
    ⟨(some 41), (.mv (.t 2)), none, 0, false, []⟩,
    ⟨(some 42), (.call 33 [(.t 40), (.t 41), (.c (.int .i64 0))]), none, 0, false, []⟩,
    ⟨(some 43), (.ext (.t 42) 0), none, 0, false, []⟩,
    ⟨(some 44), (.ext (.t 42) 1), none, 0, false, []⟩,
    ⟨none, (.store 5 (.t 8) (.t 43)), none, 0, false, []⟩,
    ⟨(some 9), (.mv (.t 44)), none, 0, false, []⟩] false
def a160_14 : AC := .seq a160_13 .ret
def a160_15 : AC := .cond (.t 33) a160_14 .skip
def a160_16 : AC := .seq a160_12 a160_15
def a160_17 : AC := .reg [⟨(some 45), (.mv (.t 0)), none, 0, false, []⟩,
    ⟨(some 46), (.nilck (.t 45)), none, 0, false, []⟩,
    ⟨(some 47), (.fad 0 (.t 46)), none, 0, false, []⟩,
    ⟨(some 48), (.load false 1 (.t 47)), none, 0, false, []⟩,
    ⟨(some 49), (.mv (.t 1)), none, 0, false, []⟩,
    ⟨(some 50), (.iad 5 (.t 48) (.t 49)), none, 0, false, []⟩,
    ⟨(some 51), (.load true 5 (.t 50)), none, 0, false, []⟩,
    ⟨(some 52), (.mv (.t 2)), none, 0, false, []⟩,
    ⟨(some 53), (.call 33 [(.t 51), (.t 52), (.c (.int .i64 0))]), none, 0, false, []⟩,
    ⟨(some 54), (.ext (.t 53) 0), none, 0, false, []⟩,
    ⟨(some 55), (.ext (.t 53) 1), none, 0, false, []⟩,
    ⟨none, (.store 5 (.t 8) (.t 54)), none, 0, false, []⟩,
    ⟨(some 9), (.mv (.t 55)), none, 0, false, []⟩] false
def a160_18 : AC := .seq a160_17 .ret
def a160_19 : AC := .seq a160_16 a160_18
def a160_20 : AC := .seq a160_11 a160_19
def a160_21 : AC := .seq a160_0 a160_20
def af160 : AF := { ntmps := 56, res := [(.cell 8 true 5), (.t 9)], body := a160_21 }
theorem tr160 : trF Tryz.prog Tryz.f160 = some af160 := by kernel_rfl
attribute [go_sem] af160 a160_0 a160_1 a160_2 a160_3 a160_4 a160_5 a160_6 a160_7 a160_8 a160_9 a160_10 a160_11 a160_12 a160_13 a160_14 a160_15 a160_16 a160_17 a160_18 a160_19 a160_20 a160_21
def a53_0 : AC := .reg [⟨(some 1), (.box (.t 0)), none, 0, false, []⟩,
    ⟨(some 2), (.new [(.int .i64 0), (.int .i64 0), (.int .i64 0), (.int .i64 0), .nils]), none, 0, false, []⟩] false
def a53_1 : AC := .reg [⟨(some 4), (.load true 5 (.t 1)), none, 0, false, []⟩,
    ⟨(some 5), (.call 60 [(.t 4)]), none, 0, false, []⟩,
    ⟨(some 3), (.mv (.t 5)), none, 0, false, []⟩] false
def a53_2 : AC := .reg [⟨(some 6), (.load true 5 (.t 1)), none, 0, false, []⟩,
    ⟨none, (.store 5 (.t 2) (.t 6)), none, 0, false, []⟩] false
def a53_3 : AC := .seq a53_2 .ret
def a53_4 : AC := .reg [⟨(some 8), (.load true 5 (.t 1)), none, 0, false, []⟩,
    ⟨(some 9), (.call 21 [(.t 8)]), none, 0, false, []⟩,
    ⟨(some 7), (.mv (.t 9)), none, 0, false, []⟩] false
def a53_5 : AC := .reg [⟨(some 10), (.load true 5 (.t 1)), none, 0, false, []⟩,
    ⟨(some 11), (.call 95 [(.t 10)]), none, 0, false, []⟩,
    ⟨none, (.store 5 (.t 2) (.t 11)), none, 0, false, []⟩] false
def a53_6 : AC := .seq a53_5 .ret
def a53_7 : AC := .cond (.t 7) a53_6 .skip
def a53_8 : AC := .seq a53_4 a53_7
def a53_9 : AC := .cond (.t 3) a53_3 a53_8
def a53_10 : AC := .seq a53_1 a53_9
def a53_11 : AC := .blk 0 a53_10
def a53_12 : AC := .reg [⟨(some 12), (.build [(.int .i64 0), (.int .i64 0), (.int .i64 0), (.int .i64 0), .nils] []), none, 0, false, []⟩,
    ⟨none, (.store 5 (.t 2) (.t 12)), none, 0, false, []⟩] false
def a53_13 : AC := .seq a53_12 .ret
def a53_14 : AC := .seq a53_11 a53_13
def a53_15 : AC := .seq a53_0 a53_14
def af53 : AF := { ntmps := 13, res := [(.cell 2 true 5)], body := a53_15 }
theorem tr53 : trF Tryz.prog Tryz.f53 = some af53 := by kernel_rfl
attribute [go_sem] af53 a53_0 a53_1 a53_2 a53_3 a53_4 a53_5 a53_6 a53_7 a53_8 a53_9 a53_10 a53_11 a53_12 a53_13 a53_14 a53_15
def a95_0 : AC := .reg [⟨(some 1), (.box (.t 0)), none, 0, false, []⟩,
    ⟨(some 2), (.new [(.int .i64 0), (.int .i64 0), (.int .i64 0), (.int .i64 0), .nils]), none, 0, false, []⟩] false
def a95_1 : AC := .reg [⟨(some 7), (.bslice 1 []), none, 0, false, []⟩,
    ⟨(some 3), (.mv (.c (.int .i64 0))), none, 0, false, []⟩,
    ⟨(some 4), (.mv (.t 7)), none, 0, false, []⟩] false
def a95_2 : AC := .reg [⟨(some 8), (.fad 0 (.t 1)), none, 0, false, []⟩,
    ⟨(some 9), (.load false 1 (.t 8)), none, 0, false, []⟩] false
def a95_3 : AC := .reg [⟨(some 12), (.bin 0 .eql (.t 9) (.c (.int .i64 3))), none, 0, false, []⟩,
    ⟨(some 11), (.mv (.t 12)), none, 0, false, []⟩] false
def a95_4 : AC := .reg [⟨(some 13), (.bslice 1 [(.c (.int .i64 0)), (.c (.int .i64 1))]), none, 0, false, []⟩,
    ⟨(some 3), (.mv (.c (.int .i64 13))), none, 0, false, []⟩,
    ⟨(some 4), (.mv (.t 13)), none, 0, false, []⟩] false
def a95_5 : AC := .reg [⟨(some 15), (.bin 0 .eql (.t 9) (.c (.int .i64 4))), none, 0, false, []⟩,
    ⟨(some 14), (.mv (.t 15)), none, 0, false, []⟩] false
def a95_6 : AC := .reg [⟨(some 16), (.bslice 1 [(.c (.int .i64 0)), (.c (.int .i64 2))]), none, 0, false, []⟩,
    ⟨(some 3), (.mv (.c (.int .i64 14))), none, 0, false, []⟩,
    ⟨(some 4), (.mv (.t 16)), none, 0, false, []⟩] false
def a95_7 : AC := .reg [⟨(some 18), (.bin 0 .eql (.t 9) (.c (.int .i64 5))), none, 0, false, []⟩,
    ⟨(some 17), (.mv (.t 18)), none, 0, false, []⟩] false
def a95_8 : AC := .reg [⟨(some 19), (.bslice 1 [(.c (.int .i64 2)), (.c (.int .i64 3))]), none, 0, false, []⟩,
    ⟨(some 3), (.mv (.c (.int .i64 15))), none, 0, false, []⟩,
    ⟨(some 4), (.mv (.t 19)), none, 0, false, []⟩] false
def a95_9 : AC := .reg [⟨(some 21), (.bin 0 .eql (.t 9) (.c (.int .i64 6))), none, 0, false, []⟩,
    ⟨(some 20), (.mv (.t 21)), none, 0, false, []⟩] false
def a95_10 : AC := .reg [⟨(some 22), (.bslice 1 [(.c (.int .i64 0)), (.c (.int .i64 1))]), none, 0, false, []⟩,
    ⟨(some 3), (.mv (.c (.int .i64 16))), none, 0, false, []⟩,
    ⟨(some 4), (.mv (.t 22)), none, 0, false, []⟩] false
def a95_11 : AC := .reg [⟨(some 24), (.bin 0 .eql (.t 9) (.c (.int .i64 7))), none, 0, false, []⟩,
    ⟨(some 23), (.mv (.t 24)), none, 0, false, []⟩] false
def a95_12 : AC := .reg [⟨(some 25), (.bslice 1 [(.c (.int .i64 0)), (.c (.int .i64 1)), (.c (.int .i64 2)), (.c (.int .i64 3))]), none, 0, false, []⟩,
    ⟨(some 3), (.mv (.c (.int .i64 17))), none, 0, false, []⟩,
    ⟨(some 4), (.mv (.t 25)), none, 0, false, []⟩] false
def a95_13 : AC := .reg [⟨(some 27), (.bin 0 .eql (.t 9) (.c (.int .i64 8))), none, 0, false, []⟩,
    ⟨(some 26), (.mv (.t 27)), none, 0, false, []⟩] false
def a95_14 : AC := .reg [⟨(some 28), (.bslice 1 [(.c (.int .i64 2))]), none, 0, false, []⟩,
    ⟨(some 3), (.mv (.c (.int .i64 18))), none, 0, false, []⟩,
    ⟨(some 4), (.mv (.t 28)), none, 0, false, []⟩] false
def a95_15 : AC := .reg [⟨(some 30), (.bin 0 .eql (.t 9) (.c (.int .i64 9))), none, 0, false, []⟩,
    ⟨(some 29), (.mv (.t 30)), none, 0, false, []⟩] false
def a95_16 : AC := .reg [⟨(some 31), (.bslice 1 [(.c (.int .i64 2))]), none, 0, false, []⟩,
    ⟨(some 3), (.mv (.c (.int .i64 19))), none, 0, false, []⟩,
    ⟨(some 4), (.mv (.t 31)), none, 0, false, []⟩] false
def a95_17 : AC := .reg [⟨(some 33), (.bin 0 .eql (.t 9) (.c (.int .i64 10))), none, 0, false, []⟩,
    ⟨(some 32), (.mv (.t 33)), none, 0, false, []⟩] false
def a95_18 : AC := .reg [⟨(some 34), (.bslice 1 [(.c (.int .i64 0)), (.c (.int .i64 1)), (.c (.int .i64 2))]), none, 0, false, []⟩,
    ⟨(some 3), (.mv (.c (.int .i64 20))), none, 0, false, []⟩,
    ⟨(some 4), (.mv (.t 34)), none, 0, false, []⟩] false
def a95_19 : AC := .reg [⟨(some 36), (.bin 0 .eql (.t 9) (.c (.int .i64 11))), none, 0, false, []⟩,
    ⟨(some 35), (.mv (.t 36)), none, 0, false, []⟩] false
def a95_20 : AC := .reg [⟨(some 37), (.bslice 1 [(.c (.int .i64 0)), (.c (.int .i64 1))]), none, 0, false, []⟩,
    ⟨(some 3), (.mv (.c (.int .i64 21))), none, 0, false, []⟩,
    ⟨(some 4), (.mv (.t 37)), none, 0, false, []⟩] false
def a95_21 : AC := .reg [⟨(some 39), (.bin 0 .eql (.t 9) (.c (.int .i64 12))), none, 0, false, []⟩,
    ⟨(some 38), (.mv (.t 39)), none, 0, false, []⟩] false
def a95_22 : AC := .reg [⟨(some 40), (.fad 1 (.t 1)), none, 0, false, []⟩,
    ⟨(some 41), (.load false 1 (.t 40)), none, 1, true, []⟩,
    ⟨(some 42), (.fad 4 (.t 1)), none, 2, false, []⟩,
    ⟨(some 43), (.load false 1 (.t 42)), none, 3, false, []⟩,
    ⟨(some 44), (.iad 5 (.t 43) (.c (.int .i64 0))), none, 4, false, []⟩,
    ⟨(some 45), (.load true 5 (.t 44)), none, 5, false, []⟩,
    ⟨(some 46), (.call 95 [(.t 45)]), none, 6, true, [1]⟩,
    ⟨(some 47), (.fad 4 (.t 1)), none, 7, false, []⟩,
    ⟨(some 48), (.load false 1 (.t 47)), none, 8, false, [6]⟩,
    ⟨(some 49), (.iad 5 (.t 48) (.c (.int .i64 1))), none, 9, false, [6]⟩,
    ⟨(some 50), (.load true 5 (.t 49)), none, 10, false, [6]⟩,
    ⟨(some 51), (.call 95 [(.t 50)]), none, 11, true, [1]⟩,
    ⟨(some 52), (.fad 4 (.t 1)), none, 12, false, []⟩,
    ⟨(some 53), (.load false 1 (.t 52)), none, 13, true, [6, 11]⟩,
    ⟨(some 54), (.iad 5 (.t 53) (.c (.int .i64 2))), none, 14, true, [6, 11]⟩,
    ⟨(some 55), (.load true 5 (.t 54)), none, 15, true, [6, 11]⟩,
    ⟨(some 56), (.fad 4 (.t 1)), none, 16, false, []⟩,
    ⟨(some 57), (.load false 1 (.t 56)), none, 17, false, [6, 11]⟩,
    ⟨(some 58), (.iad 5 (.t 57) (.c (.int .i64 3))), none, 18, false, [6, 11]⟩,
    ⟨(some 59), (.load true 5 (.t 58)), none, 19, false, [6, 11]⟩,
    ⟨(some 60), (.call 95 [(.t 59)]), none, 20, false, [1, 13, 14, 15]⟩,
    ⟨(some 61), (.bslice 5 [(.t 46), (.t 51), (.t 55), (.t 60)]), none, 21, false, [1]⟩,
    ⟨(some 62), (.build [(.int .i64 0), (.int .i64 0), (.int .i64 0), (.int .i64 0), .nils] [(0, (1, (.c (.int .i64 23)))), (1, (1, (.t 41))), (3, (1, (.c (.int .i64 5)))), (4, (1, (.t 61)))]), none, 22, false, []⟩,
    ⟨none, (.store 5 (.t 2) (.t 62)), none, 23, false, []⟩] true
def a95_23 : AC := .seq a95_22 .ret
def a95_24 : AC := .reg [⟨(some 10), (.load true 5 (.t 1)), none, 0, false, []⟩,
    ⟨none, (.store 5 (.t 2) (.t 10)), none, 0, false, []⟩] false
def a95_25 : AC := .seq a95_24 .ret
def a95_26 : AC := .cond (.t 38) a95_23 a95_25
def a95_27 : AC := .seq a95_21 a95_26
def a95_28 : AC := .cond (.t 35) a95_20 a95_27
def a95_29 : AC := .seq a95_19 a95_28
def a95_30 : AC := .cond (.t 32) a95_18 a95_29
def a95_31 : AC := .seq a95_17 a95_30
def a95_32 : AC := .cond (.t 29) a95_16 a95_31
def a95_33 : AC := .seq a95_15 a95_32
def a95_34 : AC := .cond (.t 26) a95_14 a95_33
def a95_35 : AC := .seq a95_13 a95_34
def a95_36 : AC := .cond (.t 23) a95_12 a95_35
def a95_37 : AC := .seq a95_11 a95_36
def a95_38 : AC := .cond (.t 20) a95_10 a95_37
def a95_39 : AC := .seq a95_9 a95_38
def a95_40 : AC := .cond (.t 17) a95_8 a95_39
def a95_41 : AC := .seq a95_7 a95_40
def a95_42 : AC := .cond (.t 14) a95_6 a95_41
def a95_43 : AC := .seq a95_5 a95_42
def a95_44 : AC := .cond (.t 11) a95_4 a95_43
def a95_45 : AC := .seq a95_3 a95_44
def a95_46 : AC := .blk 0 a95_45
def a95_47 : AC := .seq a95_2 a95_46
def a95_48 : AC := .reg [⟨(some 5), (.mv (.c .nils)), none, 0, false, []⟩] false
def a95_49 : AC := .reg [⟨(some 6), (.mv (.c (.int .i64 0))), none, 0, false, []⟩] false
def a95_50 : AC := .reg [⟨(some 63), (.mv (.t 6)), none, 0, false, []⟩,
    ⟨(some 64), (.mv (.t 4)), none, 0, false, []⟩,
    ⟨(some 65), (.len false (.t 64)), none, 0, false, []⟩,
    ⟨(some 66), (.bin 0 .lss (.t 63) (.t 65)), none, 0, false, []⟩] false
def a95_51 : AC := .cond (.t 66) .skip (.exit 1)
def a95_52 : AC := .seq a95_50 a95_51
def a95_53 : AC := .reg [⟨(some 69), (.mv (.t 5)), none, 0, false, []⟩,
    ⟨(some 70), (.fad 4 (.t 1)), none, 1, false, []⟩,
    ⟨(some 71), (.load false 1 (.t 70)), none, 2, false, []⟩,
    ⟨(some 72), (.mv (.t 4)), none, 3, false, []⟩,
    ⟨(some 73), (.mv (.t 6)), none, 4, false, []⟩,
    ⟨(some 74), (.iad 1 (.t 72) (.t 73)), none, 5, false, []⟩,
    ⟨(some 75), (.load false 1 (.t 74)), none, 6, false, []⟩,
    ⟨(some 76), (.iad 5 (.t 71) (.t 75)), none, 7, false, []⟩,
    ⟨(some 77), (.load true 5 (.t 76)), none, 8, false, []⟩,
    ⟨(some 78), (.call 95 [(.t 77)]), none, 9, false, []⟩,
    ⟨(some 79), (.bslice 5 [(.t 78)]), none, 10, false, []⟩,
    ⟨(some 80), (.app 5 56 (.t 69) (.t 79)), none, 11, false, []⟩,
    ⟨(some 5), (.mv (.t 80)), none, 12, false, []⟩] true
def a95_54 : AC := .blk 2 a95_53
def a95_55 : AC := .reg [⟨(some 67), (.mv (.t 6)), none, 0, false, []⟩,
    ⟨(some 68), (.bin 0 .add (.t 67) (.c (.int .i64 1))), none, 0, false, []⟩,
    ⟨(some 6), (.mv (.t 68)), none, 0, false, []⟩] false
def a95_56 : AC := .seq a95_54 a95_55
def a95_57 : AC := .seq a95_52 a95_56
def a95_58 : AC := .loop a95_57
def a95_59 : AC := .blk 1 a95_58
def a95_60 : AC := .seq a95_49 a95_59
def a95_61 : AC := .reg [⟨(some 81), (.mv (.t 3)), none, 0, false, []⟩,
    ⟨(some 82), (.mv (.t 5)), none, 0, false, []⟩,
    ⟨(some 83), (.build [(.int .i64 0), (.int .i64 0), (.int .i64 0), (.int .i64 0), .nils] [(0, (1, (.t 81))), (4, (1, (.t 82)))]), none, 0, false, []⟩,
    ⟨none, (.store 5 (.t 2) (.t 83)), none, 0, false, []⟩] false
def a95_62 : AC := .seq a95_61 .ret
def a95_63 : AC := .seq a95_60 a95_62
def a95_64 : AC := .seq a95_48 a95_63
def a95_65 : AC := .seq a95_47 a95_64
def a95_66 : AC := .seq a95_1 a95_65
def a95_67 : AC := .seq a95_0 a95_66
def af95 : AF := { ntmps := 84, res := [(.cell 2 true 5)], body := a95_67 }
theorem tr95 : trF Tryz.prog Tryz.f95 = some af95 := by kernel_rfl
attribute [go_sem] af95 a95_0 a95_1 a95_2 a95_3 a95_4 a95_5 a95_6 a95_7 a95_8 a95_9 a95_10 a95_11 a95_12 a95_13 a95_14 a95_15 a95_16 a95_17 a95_18 a95_19 a95_20 a95_21 a95_22 a95_23 a95_24 a95_25 a95_26 a95_27 a95_28 a95_29 a95_30 a95_31 a95_32 a95_33 a95_34 a95_35 a95_36 a95_37 a95_38 a95_39 a95_40 a95_41 a95_42 a95_43 a95_44 a95_45 a95_46 a95_47 a95_48 a95_49 a95_50 a95_51 a95_52 a95_53 a95_54 a95_55 a95_56 a95_57 a95_58 a95_59 a95_60 a95_61 a95_62 a95_63 a95_64 a95_65 a95_66 a95_67
end Go.Proofs.YtkldipbhenabfaaGreat.Abs

