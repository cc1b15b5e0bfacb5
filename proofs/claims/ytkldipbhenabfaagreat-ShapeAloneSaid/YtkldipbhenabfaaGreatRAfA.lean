/- The abstract code of functions, printed by program; that it is the translation of the model's code is decided by the kernel. -/
import Derived.Test.YtkldipbhenabfaaGreatREv
import Derived.Test.YtkldipbhenabfaaGreatProg
import Derived.KernelRfl
namespace Go.Proofs.YtkldipbhenabfaaGreat.Abs
open Go Go.Proofs Go.Proofs.YtkldipbhenabfaaGreat
def a83_0 : AC := .reg [⟨(some 2), (.mv (.c (.bool false))), none, 0, false, []⟩] false
def a83_1 : AC := .reg [⟨(some 3), (.mv (.t 0)), none, 0, false, []⟩,
    ⟨(some 4), (.bin 0 .geq (.t 3) (.c (.int .i64 0))), none, 0, false, []⟩,
    ⟨(some 5), (.mv (.t 4)), none, 0, false, []⟩,
    ⟨(some 6), (.mv (.t 0)), (some (5, true)), 0, false, []⟩,
    ⟨(some 7), (.bin 0 .leq (.t 6) (.c (.int .i64 998))), (some (5, true)), 0, false, []⟩,
    ⟨(some 8), (.pick (.t 5) (.t 7) (.c (.bool false))), none, 0, false, []⟩,
    ⟨(some 2), (.mv (.t 8)), none, 0, false, []⟩] false
def a83_2 : AC := .seq a83_1 .ret
def a83_3 : AC := .seq a83_0 a83_2
def af83 : AF := { ntmps := 9, res := [(.t 2)], body := a83_3 }
theorem tr83 : trF Tryz.prog Tryz.f83 = some af83 := by kernel_rfl
attribute [go_sem] af83 a83_0 a83_1 a83_2 a83_3
def a84_0 : AC := .reg [⟨(some 2), (.mv (.c (.bool false))), none, 0, false, []⟩] false
def a84_1 : AC := .reg [⟨(some 5), (.mv (.t 0)), none, 0, false, []⟩,
    ⟨(some 6), (.len false (.t 5)), none, 0, false, []⟩,
    ⟨(some 7), (.mv (.c (.int .i64 0))), none, 0, false, []⟩] false
def a84_2 : AC := .reg [⟨(some 8), (.bin 0 .lss (.t 7) (.t 6)), none, 0, false, []⟩] false
def a84_3 : AC := .cond (.t 8) .skip (.exit 0)
def a84_4 : AC := .reg [⟨(some 9), (.iad 5 (.t 5) (.t 7)), none, 0, false, []⟩,
    ⟨(some 10), (.load true 5 (.t 9)), none, 0, false, []⟩,
    ⟨(some 4), (.new [(.int .i64 0), (.int .i64 0), (.int .i64 0), (.int .i64 0), .nils]), none, 0, false, []⟩,
    ⟨none, (.store 5 (.t 4) (.t 10)), none, 0, false, []⟩] false
def a84_5 : AC := .reg [⟨(some 11), (.load true 5 (.t 4)), none, 0, false, []⟩,
    ⟨(some 12), (.call 117 [(.t 11)]), none, 0, false, []⟩,
    ⟨(some 13), (.un .not (.t 12)), none, 0, false, []⟩] false
def a84_6 : AC := .reg [⟨(some 2), (.mv (.c (.bool false))), none, 0, false, []⟩] false
def a84_7 : AC := .seq a84_6 .ret
def a84_8 : AC := .cond (.t 13) a84_7 .skip
def a84_9 : AC := .seq a84_5 a84_8
def a84_10 : AC := .seq a84_4 a84_9
def a84_11 : AC := .blk 1 a84_10
def a84_12 : AC := .reg [⟨(some 14), (.bin 0 .add (.t 7) (.c (.int .i64 1))), none, 0, false, []⟩,
    ⟨(some 7), (.mv (.t 14)), none, 0, false, []⟩] false
def a84_13 : AC := .seq a84_11 a84_12
def a84_14 : AC := .seq a84_3 a84_13
def a84_15 : AC := .seq a84_2 a84_14
def a84_16 : AC := .loop a84_15
def a84_17 : AC := .blk 0 a84_16
def a84_18 : AC := .seq a84_1 a84_17
def a84_19 : AC := .reg [⟨(some 2), (.mv (.c (.bool true))), none, 0, false, []⟩] false
def a84_20 : AC := .seq a84_19 .ret
def a84_21 : AC := .seq a84_18 a84_20
def a84_22 : AC := .seq a84_0 a84_21
def af84 : AF := { ntmps := 15, res := [(.t 2)], body := a84_22 }
theorem tr84 : trF Tryz.prog Tryz.f84 = some af84 := by kernel_rfl
attribute [go_sem] af84 a84_0 a84_1 a84_2 a84_3 a84_4 a84_5 a84_6 a84_7 a84_8 a84_9 a84_10 a84_11 a84_12 a84_13 a84_14 a84_15 a84_16 a84_17 a84_18 a84_19 a84_20 a84_21 a84_22
def a34_0 : AC := .reg [⟨(some 1), (.box (.t 0)), none, 0, false, []⟩,
    ⟨(some 2), (.new [(.int .i64 0), (.int .i64 0), (.int .i64 0), (.int .i64 0), .nils]), none, 0, false, []⟩] false
def a34_1 : AC := .reg [⟨(some 6), (.fad 4 (.t 1)), none, 0, false, []⟩,
    ⟨(some 7), (.load false 1 (.t 6)), none, 0, false, []⟩,
    ⟨(some 8), (.len false (.t 7)), none, 0, false, []⟩,
    ⟨(some 9), (.bin 0 .eql (.t 8) (.c (.int .i64 0))), none, 0, false, []⟩] false
def a34_2 : AC := .reg [⟨(some 10), (.fad 4 (.t 1)), none, 0, false, []⟩,
    ⟨none, (.store 1 (.t 10) (.c .nils)), none, 0, false, []⟩] false
def a34_3 : AC := .reg [⟨(some 11), (.load true 5 (.t 1)), none, 0, false, []⟩,
    ⟨none, (.store 5 (.t 2) (.t 11)), none, 0, false, []⟩] false
def a34_4 : AC := .seq a34_3 .ret
def a34_5 : AC := .seq a34_2 a34_4
def a34_6 : AC := .cond (.t 9) a34_5 .skip
def a34_7 : AC := .seq a34_1 a34_6
def a34_8 : AC := .reg [⟨(some 12), (.fad 4 (.t 1)), none, 0, false, []⟩,
    ⟨(some 13), (.load false 1 (.t 12)), none, 0, false, []⟩,
    ⟨(some 14), (.len false (.t 13)), none, 0, false, []⟩,
    ⟨(some 15), (.mk 5 56 [(.int .i64 0), (.int .i64 0), (.int .i64 0), (.int .i64 0), .nils] (.t 14) (.t 14)), none, 0, false, []⟩,
    ⟨(some 3), (.mv (.t 15)), none, 0, false, []⟩] false
def a34_9 : AC := .reg [⟨(some 16), (.fad 4 (.t 1)), none, 0, false, []⟩,
    ⟨(some 17), (.load false 1 (.t 16)), none, 0, false, []⟩,
    ⟨(some 18), (.len false (.t 17)), none, 0, false, []⟩,
    ⟨(some 19), (.mv (.c (.int .i64 0))), none, 0, false, []⟩] false
def a34_10 : AC := .reg [⟨(some 20), (.bin 0 .lss (.t 19) (.t 18)), none, 0, false, []⟩] false
def a34_11 : AC := .cond (.t 20) .skip (.exit 0)
def a34_12 : AC := .reg [⟨(some 21), (.mv (.t 19)), none, 0, false, []⟩,
    ⟨(some 22), (.iad 5 (.t 17) (.t 19)), none, 0, false, []⟩,
    ⟨(some 23), (.load true 5 (.t 22)), none, 0, false, []⟩,
    ⟨(some 5), (.new [(.int .i64 0), (.int .i64 0), (.int .i64 0), (.int .i64 0), .nils]), none, 0, false, []⟩,
    ⟨(some 4), (.mv (.t 21)), none, 0, false, []⟩,
    ⟨none, (.store 5 (.t 5) (.t 23)), none, 0, false, []⟩] false
def a34_13 : AC := .reg [⟨(some 24), (.mv (.t 3)), none, 0, false, []⟩,
    ⟨(some 25), (.mv (.t 4)), none, 0, false, []⟩,
    ⟨(some 26), (.load true 5 (.t 5)), none, 0, false, []⟩,
    ⟨(some 27), (.call 34 [(.t 26)]), none, 0, false, []⟩,
    ⟨(some 28), (.iad 5 (.t 24) (.t 25)), none, 0, false, []⟩,
    ⟨none, (.store 5 (.t 28) (.t 27)), none, 0, false, []⟩] false
def a34_14 : AC := .seq a34_12 a34_13
def a34_15 : AC := .blk 1 a34_14
def a34_16 : AC := .reg [⟨(some 29), (.bin 0 .add (.t 19) (.c (.int .i64 1))), none, 0, false, []⟩,
    ⟨(some 19), (.mv (.t 29)), none, 0, false, []⟩] false
def a34_17 : AC := .seq a34_15 a34_16
def a34_18 : AC := .seq a34_11 a34_17
def a34_19 : AC := .seq a34_10 a34_18
def a34_20 : AC := .loop a34_19
def a34_21 : AC := .blk 0 a34_20
def a34_22 : AC := .seq a34_9 a34_21
def a34_23 : AC := .reg [⟨(some 30), (.mv (.t 3)), none, 0, false, []⟩,
    ⟨(some 31), (.fad 4 (.t 1)), none, 0, false, []⟩,
    ⟨none, (.store 1 (.t 31) (.t 30)), none, 0, false, []⟩] false
def a34_24 : AC := .reg [⟨(some 32), (.load true 5 (.t 1)), none, 0, false, []⟩,
    ⟨none, (.store 5 (.t 2) (.t 32)), none, 0, false, []⟩] false
def a34_25 : AC := .seq a34_24 .ret
def a34_26 : AC := .seq a34_23 a34_25
def a34_27 : AC := .seq a34_22 a34_26
def a34_28 : AC := .seq a34_8 a34_27
def a34_29 : AC := .seq a34_7 a34_28
def a34_30 : AC := .seq a34_0 a34_29
def af34 : AF := { ntmps := 33, res := [(.cell 2 true 5)], body := a34_30 }
theorem tr34 : trF Tryz.prog Tryz.f34 = some af34 := by kernel_rfl
attribute [go_sem] af34 a34_0 a34_1 a34_2 a34_3 a34_4 a34_5 a34_6 a34_7 a34_8 a34_9 a34_10 a34_11 a34_12 a34_13 a34_14 a34_15 a34_16 a34_17 a34_18 a34_19 a34_20 a34_21 a34_22 a34_23 a34_24 a34_25 a34_26 a34_27 a34_28 a34_29 a34_30
def a87_0 : AC := .reg [⟨(some 4), (.box (.t 1)), none, 0, false, []⟩,
    ⟨(some 5), (.box (.t 2)), none, 0, false, []⟩,
    ⟨(some 6), (.new [(.int .i64 0), (.int .i64 0), (.int .i64 0), (.int .i64 0), .nils]), none, 0, false, []⟩] false
def a87_1 : AC := .reg [⟨(some 7), (.mv (.t 0)), none, 0, false, []⟩,
    ⟨(some 8), (.call 99 [(.t 7)]), none, 1, true, []⟩,
    ⟨(some 9), (.call 50 [(.c (.int .i64 0))]), none, 2, true, []⟩,
    ⟨(some 10), (.load true 5 (.t 4)), none, 3, false, [1, 2]⟩,
    ⟨(some 11), (.load true 5 (.t 5)), none, 4, false, [1, 2]⟩,
    ⟨(some 12), (.bslice 5 [(.t 8), (.t 9), (.t 10), (.t 11)]), none, 5, false, []⟩,
    ⟨(some 13), (.call 58 [(.c (.int .i64 17)), (.c (.int .i64 0)), (.c (.int .i64 0)), (.c (.int .i64 0)), (.t 12)]), none, 6, false, []⟩,
    ⟨none, (.store 5 (.t 6) (.t 13)), none, 7, false, []⟩] true
def a87_2 : AC := .seq a87_1 .ret
def a87_3 : AC := .seq a87_0 a87_2
def af87 : AF := { ntmps := 14, res := [(.cell 6 true 5)], body := a87_3 }
theorem tr87 : trF Tryz.prog Tryz.f87 = some af87 := by kernel_rfl
attribute [go_sem] af87 a87_0 a87_1 a87_2 a87_3
def a58_0 : AC := .reg [⟨(some 10), (.new [(.int .i64 0), (.int .i64 0), (.int .i64 0), (.int .i64 0), .nils]), none, 0, false, []⟩] false
def a58_1 : AC := .reg [⟨(some 12), (.mv (.t 0)), none, 0, false, []⟩,
    ⟨(some 13), (.mv (.t 1)), none, 0, false, []⟩,
    ⟨(some 14), (.mv (.t 2)), none, 0, false, []⟩,
    ⟨(some 15), (.mv (.t 3)), none, 0, false, []⟩,
    ⟨(some 16), (.build [(.int .i64 0), (.int .i64 0), (.int .i64 0), (.int .i64 0), .nils] [(0, (1, (.t 12))), (1, (1, (.t 13))), (2, (1, (.t 14))), (3, (1, (.t 15)))]), none, 0, false, []⟩,
    ⟨(some 11), (.new [(.int .i64 0), (.int .i64 0), (.int .i64 0), (.int .i64 0), .nils]), none, 0, false, []⟩,
    ⟨none, (.store 5 (.t 11) (.t 16)), none, 0, false, []⟩] false
def a58_2 : AC := .reg [⟨(some 17), (.mv (.t 4)), none, 0, false, []⟩,
    ⟨(some 18), (.len false (.t 17)), none, 0, false, []⟩,
    ⟨(some 19), (.bin 0 .gtr (.t 18) (.c (.int .i64 0))), none, 0, false, []⟩] false
def a58_3 : AC := .reg [⟨(some 20), (.mv (.t 4)), none, 0, false, []⟩,
    ⟨(some 21), (.app 5 56 (.c .nils) (.t 20)), none, 0, false, []⟩,
    ⟨(some 22), (.fad 4 (.t 11)), none, 0, false, []⟩,
    ⟨none, (.store 1 (.t 22) (.t 21)), none, 0, false, []⟩] false
def a58_4 : AC := .cond (.t 19) a58_3 .skip
def a58_5 : AC := .seq a58_2 a58_4
def a58_6 : AC := .reg [⟨(some 23), (.load true 5 (.t 11)), none, 0, false, []⟩,
    ⟨none, (.store 5 (.t 10) (.t 23)), none, 0, false, []⟩] false
def a58_7 : AC := .seq a58_6 .ret
def a58_8 : AC := .seq a58_5 a58_7
def a58_9 : AC := .seq a58_1 a58_8
def a58_10 : AC := .seq a58_0 a58_9
def af58 : AF := { ntmps := 24, res := [(.cell 10 true 5)], body := a58_10 }
theorem tr58 : trF Tryz.prog Tryz.f58 = some af58 := by kernel_rfl
attribute [go_sem] af58 a58_0 a58_1 a58_2 a58_3 a58_4 a58_5 a58_6 a58_7 a58_8 a58_9 a58_10
def a99_0 : AC := .reg [⟨(some 2), (.new [(.int .i64 0), (.int .i64 0), (.int .i64 0), (.int .i64 0), .nils]), none, 0, false, []⟩] false
def a99_1 : AC := .reg [⟨(some 3), (.mv (.t 0)), none, 0, false, []⟩,
    ⟨(some 4), (.build [(.int .i64 0), (.int .i64 0), (.int .i64 0), (.int .i64 0), .nils] [(0, (1, (.c (.int .i64 1)))), (1, (1, (.t 3)))]), none, 0, false, []⟩,
    ⟨none, (.store 5 (.t 2) (.t 4)), none, 0, false, []⟩] false
def a99_2 : AC := .seq a99_1 .ret
def a99_3 : AC := .seq a99_0 a99_2
def af99 : AF := { ntmps := 5, res := [(.cell 2 true 5)], body := a99_3 }
theorem tr99 : trF Tryz.prog Tryz.f99 = some af99 := by kernel_rfl
attribute [go_sem] af99 a99_0 a99_1 a99_2 a99_3
def a50_0 : AC := .reg [⟨(some 2), (.new [(.int .i64 0), (.int .i64 0), (.int .i64 0), (.int .i64 0), .nils]), none, 0, false, []⟩] false
def a50_1 : AC := .reg [⟨(some 3), (.mv (.t 0)), none, 0, false, []⟩,
    ⟨(some 4), (.build [(.int .i64 0), (.int .i64 0), (.int .i64 0), (.int .i64 0), .nils] [(0, (1, (.c (.int .i64 2)))), (1, (1, (.t 3)))]), none, 0, false, []⟩,
    ⟨none, (.store 5 (.t 2) (.t 4)), none, 0, false, []⟩] false
def a50_2 : AC := .seq a50_1 .ret
def a50_3 : AC := .seq a50_0 a50_2
def af50 : AF := { ntmps := 5, res := [(.cell 2 true 5)], body := a50_3 }
theorem tr50 : trF Tryz.prog Tryz.f50 = some af50 := by kernel_rfl
attribute [go_sem] af50 a50_0 a50_1 a50_2 a50_3
def a86_0 : AC := .reg [⟨(some 2), (.new [(.int .i64 0), (.int .i64 0), (.int .i64 0), (.int .i64 0), .nils]), none, 0, false, []⟩] false
def a86_1 : AC := .reg [⟨(some 3), (.mv (.t 0)), none, 0, false, []⟩,
    ⟨(some 4), (.call 83 [(.t 3)]), none, 0, false, []⟩,
    ⟨(some 5), (.un .not (.t 4)), none, 0, false, []⟩] false
def a86_2 : AC := .reg [⟨(some 6), (.build [(.int .i64 0), (.int .i64 0), (.int .i64 0), (.int .i64 0), .nils] []), none, 0, false, []⟩,
    ⟨none, (.store 5 (.t 2) (.t 6)), none, 0, false, []⟩] false
def a86_3 : AC := .seq a86_2 .ret
def a86_4 : AC := .cond (.t 5) a86_3 .skip
def a86_5 : AC := .seq a86_1 a86_4
def a86_6 : AC := .reg [⟨(some 7), (.mv (.t 0)), none, 0, false, []⟩,
    ⟨(some 8), (.call 99 [(.t 7)]), none, 0, false, []⟩,
    ⟨(some 9), (.call 50 [(.c (.int .i64 0))]), none, 0, false, []⟩,
    ⟨(some 10), (.bslice 5 [(.t 8), (.t 9)]), none, 0, false, []⟩,
    ⟨(some 11), (.call 58 [(.c (.int .i64 16)), (.c (.int .i64 0)), (.c (.int .i64 0)), (.c (.int .i64 0)), (.t 10)]), none, 0, false, []⟩,
    ⟨none, (.store 5 (.t 2) (.t 11)), none, 0, false, []⟩] false
def a86_7 : AC := .seq a86_6 .ret
def a86_8 : AC := .seq a86_5 a86_7
def a86_9 : AC := .seq a86_0 a86_8
def af86 : AF := { ntmps := 12, res := [(.cell 2 true 5)], body := a86_9 }
theorem tr86 : trF Tryz.prog Tryz.f86 = some af86 := by kernel_rfl
attribute [go_sem] af86 a86_0 a86_1 a86_2 a86_3 a86_4 a86_5 a86_6 a86_7 a86_8 a86_9
def a110_0 : AC := .reg [⟨(some 6), (.new [(.int .i64 0), (.int .i64 0), (.int .i64 0), (.int .i64 0), .nils]), none, 0, false, []⟩] false
def a110_1 : AC := .reg [⟨(some 7), (.mv (.t 1)), none, 0, false, []⟩,
    ⟨(some 8), (.mv (.t 0)), none, 0, false, []⟩,
    ⟨(some 9), (.mv (.t 2)), none, 0, false, []⟩,
    ⟨(some 10), (.call 58 [(.c (.int .i64 23)), (.t 7), (.c (.int .i64 0)), (.t 8), (.t 9)]), none, 0, false, []⟩,
    ⟨(some 11), (.call 34 [(.t 10)]), none, 0, false, []⟩,
    ⟨none, (.store 5 (.t 6) (.t 11)), none, 0, false, []⟩] false
def a110_2 : AC := .seq a110_1 .ret
def a110_3 : AC := .seq a110_0 a110_2
def af110 : AF := { ntmps := 12, res := [(.cell 6 true 5)], body := a110_3 }
theorem tr110 : trF Tryz.prog Tryz.f110 = some af110 := by kernel_rfl
attribute [go_sem] af110 a110_0 a110_1 a110_2 a110_3
def a85_0 : AC := .reg [⟨(some 7), (.box (.t 1)), none, 0, false, []⟩,
    ⟨(some 8), (.box (.t 2)), none, 0, false, []⟩,
    ⟨(some 9), (.box (.t 3)), none, 0, false, []⟩,
    ⟨(some 10), (.box (.t 4)), none, 0, false, []⟩,
    ⟨(some 11), (.box (.t 5)), none, 0, false, []⟩,
    ⟨(some 12), (.new [(.int .i64 0), (.int .i64 0), (.int .i64 0), (.int .i64 0), (.int .i64 0), .nils, (.int .i64 0), (.int .i64 0), (.int .i64 0), (.int .i64 0), .nils, (.int .i64 0), (.int .i64 0), (.int .i64 0), (.int .i64 0), .nils, (.int .i64 0), (.int .i64 0), (.int .i64 0), (.int .i64 0), .nils, (.int .i64 0), (.int .i64 0), (.int .i64 0), (.int .i64 0), .nils]), none, 0, false, []⟩] false
def a85_1 : AC := .reg [⟨(some 13), (.mv (.t 0)), none, 0, false, []⟩,
    ⟨(some 14), (.load true 5 (.t 7)), none, 1, false, []⟩,
    ⟨(some 15), (.call 34 [(.t 14)]), none, 2, true, []⟩,
    ⟨(some 16), (.load true 5 (.t 8)), none, 3, false, [2]⟩,
    ⟨(some 17), (.call 34 [(.t 16)]), none, 4, true, []⟩,
    ⟨(some 18), (.load true 5 (.t 9)), none, 5, false, [2, 4]⟩,
    ⟨(some 19), (.call 34 [(.t 18)]), none, 6, true, []⟩,
    ⟨(some 20), (.load true 5 (.t 10)), none, 7, false, [2, 4, 6]⟩,
    ⟨(some 21), (.call 34 [(.t 20)]), none, 8, true, []⟩,
    ⟨(some 22), (.load true 5 (.t 11)), none, 9, false, [2, 4, 6, 8]⟩,
    ⟨(some 23), (.call 34 [(.t 22)]), none, 10, false, []⟩,
    ⟨(some 24), (.build [(.int .i64 0), (.int .i64 0), (.int .i64 0), (.int .i64 0), (.int .i64 0), .nils, (.int .i64 0), (.int .i64 0), (.int .i64 0), (.int .i64 0), .nils, (.int .i64 0), (.int .i64 0), (.int .i64 0), (.int .i64 0), .nils, (.int .i64 0), (.int .i64 0), (.int .i64 0), (.int .i64 0), .nils, (.int .i64 0), (.int .i64 0), (.int .i64 0), (.int .i64 0), .nils] [(0, (1, (.t 13))), (1, (5, (.t 15))), (6, (5, (.t 17))), (11, (5, (.t 19))), (16, (5, (.t 21))), (21, (5, (.t 23)))]), none, 11, false, []⟩,
    ⟨none, (.store 26 (.t 12) (.t 24)), none, 12, false, []⟩] true
def a85_2 : AC := .seq a85_1 .ret
def a85_3 : AC := .seq a85_0 a85_2
def af85 : AF := { ntmps := 25, res := [(.cell 12 true 26)], body := a85_3 }
theorem tr85 : trF Tryz.prog Tryz.f85 = some af85 := by kernel_rfl
attribute [go_sem] af85 a85_0 a85_1 a85_2 a85_3
def a101_0 : AC := .reg [⟨(some 1), (.box (.t 0)), none, 0, false, []⟩,
    ⟨(some 2), (.mv (.c (.bool false))), none, 0, false, []⟩] false
def a101_1 : AC := .reg [⟨(some 3), (.fad 0 (.t 1)), none, 0, false, []⟩,
    ⟨(some 4), (.load false 1 (.t 3)), none, 0, false, []⟩,
    ⟨(some 5), (.call 83 [(.t 4)]), none, 0, false, []⟩,
    ⟨(some 6), (.mv (.t 5)), none, 0, false, []⟩,
    ⟨(some 7), (.fad 1 (.t 1)), (some (6, true)), 0, false, []⟩,
    ⟨(some 8), (.load true 5 (.t 7)), (some (6, true)), 0, false, []⟩,
    ⟨(some 9), (.fad 6 (.t 1)), (some (6, true)), 0, false, []⟩,
    ⟨(some 10), (.load true 5 (.t 9)), (some (6, true)), 0, false, []⟩,
    ⟨(some 11), (.fad 11 (.t 1)), (some (6, true)), 0, false, []⟩,
    ⟨(some 12), (.load true 5 (.t 11)), (some (6, true)), 0, false, []⟩,
    ⟨(some 13), (.fad 16 (.t 1)), (some (6, true)), 0, false, []⟩,
    ⟨(some 14), (.load true 5 (.t 13)), (some (6, true)), 0, false, []⟩,
    ⟨(some 15), (.fad 21 (.t 1)), (some (6, true)), 0, false, []⟩,
    ⟨(some 16), (.load true 5 (.t 15)), (some (6, true)), 0, false, []⟩,
    ⟨(some 17), (.bslice 5 [(.t 8), (.t 10), (.t 12), (.t 14), (.t 16)]), (some (6, true)), 0, false, []⟩,
    ⟨(some 18), (.call 84 [(.t 17)]), (some (6, true)), 0, false, []⟩,
    ⟨(some 19), (.pick (.t 6) (.t 18) (.c (.bool false))), none, 0, false, []⟩,
    ⟨(some 2), (.mv (.t 19)), none, 0, false, []⟩] false
def a101_2 : AC := .seq a101_1 .ret
def a101_3 : AC := .seq a101_0 a101_2
def af101 : AF := { ntmps := 20, res := [(.t 2)], body := a101_3 }
theorem tr101 : trF Tryz.prog Tryz.f101 = some af101 := by kernel_rfl
attribute [go_sem] af101 a101_0 a101_1 a101_2 a101_3
def a46_0 : AC := .reg [⟨(some 4), (.mv (.c (.bool false))), none, 0, false, []⟩] false
def a46_1 : AC := .reg [⟨(some 7), (.mv (.t 0)), none, 0, false, []⟩,
    ⟨(some 8), (.len false (.t 7)), none, 0, false, []⟩,
    ⟨(some 9), (.mv (.t 1)), none, 0, false, []⟩,
    ⟨(some 10), (.bin 0 .gtr (.t 8) (.t 9)), none, 0, false, []⟩] false
def a46_2 : AC := .reg [⟨(some 4), (.mv (.c (.bool true))), none, 0, false, []⟩] false
def a46_3 : AC := .seq a46_2 .ret
def a46_4 : AC := .cond (.t 10) a46_3 .skip
def a46_5 : AC := .seq a46_1 a46_4
def a46_6 : AC := .reg [⟨(some 5), (.mv (.c (.int .i64 0))), none, 0, false, []⟩] false
def a46_7 : AC := .reg [⟨(some 6), (.mv (.c (.int .i64 0))), none, 0, false, []⟩] false
def a46_8 : AC := .reg [⟨(some 11), (.mv (.t 6)), none, 0, false, []⟩,
    ⟨(some 12), (.mv (.t 0)), none, 0, false, []⟩,
    ⟨(some 13), (.len false (.t 12)), none, 0, false, []⟩,
    ⟨(some 14), (.bin 0 .lss (.t 11) (.t 13)), none, 0, false, []⟩,
    ⟨(some 15), (.mv (.t 14)), none, 0, false, []⟩,
    ⟨(some 16), (.mv (.t 5)), (some (15, true)), 0, false, []⟩,
    ⟨(some 17), (.mv (.t 1)), (some (15, true)), 0, false, []⟩,
    ⟨(some 18), (.bin 0 .leq (.t 16) (.t 17)), (some (15, true)), 0, false, []⟩,
    ⟨(some 19), (.pick (.t 15) (.t 18) (.c (.bool false))), none, 0, false, []⟩] false
def a46_9 : AC := .cond (.t 19) .skip (.exit 0)
def a46_10 : AC := .seq a46_8 a46_9
def a46_11 : AC := .reg [⟨(some 22), (.mv (.t 5)), none, 0, false, []⟩,
    ⟨(some 23), (.mv (.t 0)), none, 0, false, []⟩,
    ⟨(some 24), (.mv (.t 6)), none, 0, false, []⟩,
    ⟨(some 25), (.iad 5 (.t 23) (.t 24)), none, 0, false, []⟩,
    ⟨(some 26), (.load true 5 (.t 25)), none, 0, false, []⟩,
    ⟨(some 27), (.mv (.t 1)), none, 0, false, []⟩,
    ⟨(some 28), (.mv (.t 5)), none, 0, false, []⟩,
    ⟨(some 29), (.bin 0 .sub (.t 27) (.t 28)), none, 0, false, []⟩,
    ⟨(some 30), (.call 26 [(.t 26), (.t 29), (.c (.int .i64 200))]), none, 0, false, []⟩,
    ⟨(some 31), (.bin 0 .add (.t 22) (.t 30)), none, 0, false, []⟩,
    ⟨(some 5), (.mv (.t 31)), none, 0, false, []⟩] false
def a46_12 : AC := .blk 1 a46_11
def a46_13 : AC := .reg [⟨(some 20), (.mv (.t 6)), none, 0, false, []⟩,
    ⟨(some 21), (.bin 0 .add (.t 20) (.c (.int .i64 1))), none, 0, false, []⟩,
    ⟨(some 6), (.mv (.t 21)), none, 0, false, []⟩] false
def a46_14 : AC := .seq a46_12 a46_13
def a46_15 : AC := .seq a46_10 a46_14
def a46_16 : AC := .loop a46_15
def a46_17 : AC := .blk 0 a46_16
def a46_18 : AC := .seq a46_7 a46_17
def a46_19 : AC := .reg [⟨(some 32), (.mv (.t 5)), none, 0, false, []⟩,
    ⟨(some 33), (.mv (.t 1)), none, 0, false, []⟩,
    ⟨(some 34), (.bin 0 .gtr (.t 32) (.t 33)), none, 0, false, []⟩,
    ⟨(some 4), (.mv (.t 34)), none, 0, false, []⟩] false
def a46_20 : AC := .seq a46_19 .ret
def a46_21 : AC := .seq a46_18 a46_20
def a46_22 : AC := .seq a46_6 a46_21
def a46_23 : AC := .seq a46_5 a46_22
def a46_24 : AC := .seq a46_0 a46_23
def af46 : AF := { ntmps := 35, res := [(.t 4)], body := a46_24 }
theorem tr46 : trF Tryz.prog Tryz.f46 = some af46 := by kernel_rfl
attribute [go_sem] af46 a46_0 a46_1 a46_2 a46_3 a46_4 a46_5 a46_6 a46_7 a46_8 a46_9 a46_10 a46_11 a46_12 a46_13 a46_14 a46_15 a46_16 a46_17 a46_18 a46_19 a46_20 a46_21 a46_22 a46_23 a46_24
def a26_0 : AC := .reg [⟨(some 3), (.box (.t 0)), none, 0, false, []⟩,
    ⟨(some 6), (.mv (.c (.int .i64 0))), none, 0, false, []⟩] false
def a26_1 : AC := .reg [⟨(some 9), (.mv (.t 2)), none, 0, false, []⟩,
    ⟨(some 10), (.bin 0 .lss (.t 9) (.c (.int .i64 0))), none, 0, false, []⟩] false
def a26_2 : AC := .reg [⟨(some 11), (.mv (.t 1)), none, 0, false, []⟩,
    ⟨(some 12), (.bin 0 .add (.t 11) (.c (.int .i64 1))), none, 0, false, []⟩,
    ⟨(some 6), (.mv (.t 12)), none, 0, false, []⟩] false
def a26_3 : AC := .seq a26_2 .ret
def a26_4 : AC := .cond (.t 10) a26_3 .skip
def a26_5 : AC := .seq a26_1 a26_4
def a26_6 : AC := .reg [⟨(some 7), (.mv (.c (.int .i64 1))), none, 0, false, []⟩] false
def a26_7 : AC := .reg [⟨(some 8), (.mv (.c (.int .i64 0))), none, 0, false, []⟩] false
def a26_8 : AC := .reg [⟨(some 13), (.mv (.t 8)), none, 0, false, []⟩,
    ⟨(some 14), (.fad 4 (.t 3)), none, 0, false, []⟩,
    ⟨(some 15), (.load false 1 (.t 14)), none, 0, false, []⟩,
    ⟨(some 16), (.len false (.t 15)), none, 0, false, []⟩,
    ⟨(some 17), (.bin 0 .lss (.t 13) (.t 16)), none, 0, false, []⟩,
    ⟨(some 18), (.mv (.t 17)), none, 0, false, []⟩,
    ⟨(some 19), (.mv (.t 7)), (some (18, true)), 0, false, []⟩,
    ⟨(some 20), (.mv (.t 1)), (some (18, true)), 0, false, []⟩,
    ⟨(some 21), (.bin 0 .leq (.t 19) (.t 20)), (some (18, true)), 0, false, []⟩,
    ⟨(some 22), (.pick (.t 18) (.t 21) (.c (.bool false))), none, 0, false, []⟩] false
def a26_9 : AC := .cond (.t 22) .skip (.exit 0)
def a26_10 : AC := .seq a26_8 a26_9
def a26_11 : AC := .reg [⟨(some 25), (.mv (.t 7)), none, 0, false, []⟩,
    ⟨(some 26), (.fad 4 (.t 3)), none, 0, false, []⟩,
    ⟨(some 27), (.load false 1 (.t 26)), none, 0, false, []⟩,
    ⟨(some 28), (.mv (.t 8)), none, 0, false, []⟩,
    ⟨(some 29), (.iad 5 (.t 27) (.t 28)), none, 0, false, []⟩,
    ⟨(some 30), (.load true 5 (.t 29)), none, 0, false, []⟩,
    ⟨(some 31), (.mv (.t 1)), none, 0, false, []⟩,
    ⟨(some 32), (.mv (.t 7)), none, 0, false, []⟩,
    ⟨(some 33), (.bin 0 .sub (.t 31) (.t 32)), none, 0, false, []⟩,
    ⟨(some 34), (.mv (.t 2)), none, 0, false, []⟩,
    ⟨(some 35), (.bin 0 .sub (.t 34) (.c (.int .i64 1))), none, 0, false, []⟩,
    ⟨(some 36), (.call 26 [(.t 30), (.t 33), (.t 35)]), none, 0, false, []⟩,
    ⟨(some 37), (.bin 0 .add (.t 25) (.t 36)), none, 0, false, []⟩,
    ⟨(some 7), (.mv (.t 37)), none, 0, false, []⟩] false
def a26_12 : AC := .blk 1 a26_11
def a26_13 : AC := .reg [⟨(some 23), (.mv (.t 8)), none, 0, false, []⟩,
    ⟨(some 24), (.bin 0 .add (.t 23) (.c (.int .i64 1))), none, 0, false, []⟩,
    ⟨(some 8), (.mv (.t 24)), none, 0, false, []⟩] false
def a26_14 : AC := .seq a26_12 a26_13
def a26_15 : AC := .seq a26_10 a26_14
def a26_16 : AC := .loop a26_15
def a26_17 : AC := .blk 0 a26_16
def a26_18 : AC := .seq a26_7 a26_17
def a26_19 : AC := .reg [⟨(some 38), (.mv (.t 7)), none, 0, false, []⟩,
    ⟨(some 6), (.mv (.t 38)), none, 0, false, []⟩] false
def a26_20 : AC := .seq a26_19 .ret
def a26_21 : AC := .seq a26_18 a26_20
def a26_22 : AC := .seq a26_6 a26_21
def a26_23 : AC := .seq a26_5 a26_22
def a26_24 : AC := .seq a26_0 a26_23
def af26 : AF := { ntmps := 39, res := [(.t 6)], body := a26_24 }
theorem tr26 : trF Tryz.prog Tryz.f26 = some af26 := by kernel_rfl
attribute [go_sem] af26 a26_0 a26_1 a26_2 a26_3 a26_4 a26_5 a26_6 a26_7 a26_8 a26_9 a26_10 a26_11 a26_12 a26_13 a26_14 a26_15 a26_16 a26_17 a26_18 a26_19 a26_20 a26_21 a26_22 a26_23 a26_24
def a16_0 : AC := .reg [⟨(some 2), (.box (.t 0)), none, 0, false, []⟩,
    ⟨(some 3), (.box (.t 1)), none, 0, false, []⟩,
    ⟨(some 4), (.mv (.c (.bool false))), none, 0, false, []⟩] false
def a16_1 : AC := .reg [⟨(some 5), (.fad 0 (.t 2)), none, 0, false, []⟩,
    ⟨(some 6), (.load false 1 (.t 5)), none, 0, false, []⟩,
    ⟨(some 7), (.fad 0 (.t 3)), none, 0, false, []⟩,
    ⟨(some 8), (.load false 1 (.t 7)), none, 0, false, []⟩,
    ⟨(some 9), (.bin 0 .eql (.t 6) (.t 8)), none, 0, false, []⟩,
    ⟨(some 10), (.mv (.t 9)), none, 0, false, []⟩,
    ⟨(some 11), (.fad 1 (.t 2)), (some (10, true)), 0, false, []⟩,
    ⟨(some 12), (.load false 1 (.t 11)), (some (10, true)), 0, false, []⟩,
    ⟨(some 13), (.fad 1 (.t 3)), (some (10, true)), 0, false, []⟩,
    ⟨(some 14), (.load false 1 (.t 13)), (some (10, true)), 0, false, []⟩,
    ⟨(some 15), (.bin 0 .eql (.t 12) (.t 14)), (some (10, true)), 0, false, []⟩,
    ⟨(some 16), (.pick (.t 10) (.t 15) (.c (.bool false))), none, 0, false, []⟩,
    ⟨(some 17), (.mv (.t 16)), none, 0, false, []⟩,
    ⟨(some 18), (.fad 2 (.t 2)), (some (17, true)), 0, false, []⟩,
    ⟨(some 19), (.load false 1 (.t 18)), (some (17, true)), 0, false, []⟩,
    ⟨(some 20), (.fad 2 (.t 3)), (some (17, true)), 0, false, []⟩,
    ⟨(some 21), (.load false 1 (.t 20)), (some (17, true)), 0, false, []⟩,
    ⟨(some 22), (.bin 0 .eql (.t 19) (.t 21)), (some (17, true)), 0, false, []⟩,
    ⟨(some 23), (.pick (.t 17) (.t 22) (.c (.bool false))), none, 0, false, []⟩,
    ⟨(some 24), (.mv (.t 23)), none, 0, false, []⟩,
    ⟨(some 25), (.fad 3 (.t 2)), (some (24, true)), 0, false, []⟩,
    ⟨(some 26), (.load false 1 (.t 25)), (some (24, true)), 0, false, []⟩,
    ⟨(some 27), (.fad 3 (.t 3)), (some (24, true)), 0, false, []⟩,
    ⟨(some 28), (.load false 1 (.t 27)), (some (24, true)), 0, false, []⟩,
    ⟨(some 29), (.bin 0 .eql (.t 26) (.t 28)), (some (24, true)), 0, false, []⟩,
    ⟨(some 30), (.pick (.t 24) (.t 29) (.c (.bool false))), none, 0, false, []⟩,
    ⟨(some 31), (.mv (.t 30)), none, 0, false, []⟩,
    ⟨(some 32), (.fad 4 (.t 2)), (some (31, true)), 0, false, []⟩,
    ⟨(some 33), (.load false 1 (.t 32)), (some (31, true)), 0, false, []⟩,
    ⟨(some 34), (.fad 4 (.t 3)), (some (31, true)), 0, false, []⟩,
    ⟨(some 35), (.load false 1 (.t 34)), (some (31, true)), 0, false, []⟩,
    ⟨(some 36), (.call 10 [(.t 33), (.t 35)]), (some (31, true)), 0, false, []⟩,
    ⟨(some 37), (.pick (.t 31) (.t 36) (.c (.bool false))), none, 0, false, []⟩,
    ⟨(some 4), (.mv (.t 37)), none, 0, false, []⟩] false
def a16_2 : AC := .seq a16_1 .ret
def a16_3 : AC := .seq a16_0 a16_2
def af16 : AF := { ntmps := 38, res := [(.t 4)], body := a16_3 }
theorem tr16 : trF Tryz.prog Tryz.f16 = some af16 := by kernel_rfl
attribute [go_sem] af16 a16_0 a16_1 a16_2 a16_3
def a10_0 : AC := .reg [⟨(some 4), (.mv (.c (.bool false))), none, 0, false, []⟩] false
def a10_1 : AC := .reg [⟨(some 6), (.mv (.t 0)), none, 0, false, []⟩,
    ⟨(some 7), (.len false (.t 6)), none, 0, false, []⟩,
    ⟨(some 8), (.mv (.t 1)), none, 0, false, []⟩,
    ⟨(some 9), (.len false (.t 8)), none, 0, false, []⟩,
    ⟨(some 10), (.bin 0 .neq (.t 7) (.t 9)), none, 0, false, []⟩] false
def a10_2 : AC := .reg [⟨(some 4), (.mv (.c (.bool false))), none, 0, false, []⟩] false
def a10_3 : AC := .seq a10_2 .ret
def a10_4 : AC := .cond (.t 10) a10_3 .skip
def a10_5 : AC := .seq a10_1 a10_4
def a10_6 : AC := .reg [⟨(some 5), (.mv (.c (.int .i64 0))), none, 0, false, []⟩] false
def a10_7 : AC := .reg [⟨(some 11), (.mv (.t 5)), none, 0, false, []⟩,
    ⟨(some 12), (.mv (.t 0)), none, 0, false, []⟩,
    ⟨(some 13), (.len false (.t 12)), none, 0, false, []⟩,
    ⟨(some 14), (.bin 0 .lss (.t 11) (.t 13)), none, 0, false, []⟩] false
def a10_8 : AC := .cond (.t 14) .skip (.exit 0)
def a10_9 : AC := .seq a10_7 a10_8
def a10_10 : AC := .reg [⟨(some 17), (.mv (.t 0)), none, 0, false, []⟩,
    ⟨(some 18), (.mv (.t 5)), none, 1, false, []⟩,
    ⟨(some 19), (.iad 5 (.t 17) (.t 18)), none, 2, false, []⟩,
    ⟨(some 20), (.load true 5 (.t 19)), none, 3, false, []⟩,
    ⟨(some 21), (.mv (.t 1)), none, 4, false, []⟩,
    ⟨(some 22), (.mv (.t 5)), none, 5, false, []⟩,
    ⟨(some 23), (.iad 5 (.t 21) (.t 22)), none, 6, false, []⟩,
    ⟨(some 24), (.load true 5 (.t 23)), none, 7, false, []⟩,
    ⟨(some 25), (.call 16 [(.t 20), (.t 24)]), none, 8, false, []⟩,
    ⟨(some 26), (.un .not (.t 25)), none, 9, false, []⟩] true
def a10_11 : AC := .reg [⟨(some 4), (.mv (.c (.bool false))), none, 0, false, []⟩] false
def a10_12 : AC := .seq a10_11 .ret
def a10_13 : AC := .cond (.t 26) a10_12 .skip
def a10_14 : AC := .seq a10_10 a10_13
def a10_15 : AC := .blk 1 a10_14
def a10_16 : AC := .reg [⟨(some 15), (.mv (.t 5)), none, 0, false, []⟩,
    ⟨(some 16), (.bin 0 .add (.t 15) (.c (.int .i64 1))), none, 0, false, []⟩,
    ⟨(some 5), (.mv (.t 16)), none, 0, false, []⟩] false
def a10_17 : AC := .seq a10_15 a10_16
def a10_18 : AC := .seq a10_9 a10_17
def a10_19 : AC := .loop a10_18
def a10_20 : AC := .blk 0 a10_19
def a10_21 : AC := .seq a10_6 a10_20
def a10_22 : AC := .reg [⟨(some 4), (.mv (.c (.bool true))), none, 0, false, []⟩] false
def a10_23 : AC := .seq a10_22 .ret
def a10_24 : AC := .seq a10_21 a10_23
def a10_25 : AC := .seq a10_5 a10_24
def a10_26 : AC := .seq a10_0 a10_25
def af10 : AF := { ntmps := 27, res := [(.t 4)], body := a10_26 }
theorem tr10 : trF Tryz.prog Tryz.f10 = some af10 := by kernel_rfl
attribute [go_sem] af10 a10_0 a10_1 a10_2 a10_3 a10_4 a10_5 a10_6 a10_7 a10_8 a10_9 a10_10 a10_11 a10_12 a10_13 a10_14 a10_15 a10_16 a10_17 a10_18 a10_19 a10_20 a10_21 a10_22 a10_23 a10_24 a10_25 a10_26
end Go.Proofs.YtkldipbhenabfaaGreat.Abs

