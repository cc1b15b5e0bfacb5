/- The abstract code of functions, printed by program; that it is the translation of the model's code is decided by the kernel. -/
import Derived.Test.YtkldipbhenabfaaGreatREv
import Derived.Test.YtkldipbhenabfaaGreatProg
import Derived.KernelRfl
namespace Go.Proofs.YtkldipbhenabfaaGreat.Abs
open Go Go.Proofs Go.Proofs.YtkldipbhenabfaaGreat
def a31_0 : AC := .reg [⟨(some 3), (.box (.t 1)), none, 0, false, []⟩,
    ⟨(some 4), (.new [(.int .i64 0), (.int .i64 0), (.int .i64 0), (.int .i64 0), .nils]), none, 0, false, []⟩] false
def a31_1 : AC := .reg [⟨(some 5), (.mv (.t 0)), none, 0, false, []⟩,
    ⟨(some 6), (.load true 5 (.t 3)), none, 0, false, []⟩,
    ⟨(some 7), (.call 49 [(.t 6)]), none, 0, false, []⟩,
    ⟨(some 8), (.call 70 [(.t 5), (.t 7), (.c (.bool false))]), none, 0, false, []⟩,
    ⟨none, (.store 5 (.t 4) (.t 8)), none, 0, false, []⟩] false
def a31_2 : AC := .seq a31_1 .ret
def a31_3 : AC := .seq a31_0 a31_2
def af31 : AF := { ntmps := 9, res := [(.cell 4 true 5)], body := a31_3 }
theorem tr31 : trF Tryz.prog Tryz.f31 = some af31 := by kernel_rfl
attribute [go_sem] af31 a31_0 a31_1 a31_2 a31_3
def a32_0 : AC := .reg [⟨(some 3), (.box (.t 1)), none, 0, false, []⟩,
    ⟨(some 4), (.new [(.int .i64 0), (.int .i64 0), (.int .i64 0), (.int .i64 0), .nils]), none, 0, false, []⟩] false
def a32_1 : AC := .reg [⟨(some 5), (.mv (.t 0)), none, 0, false, []⟩,
    ⟨(some 6), (.load true 5 (.t 3)), none, 0, false, []⟩,
    ⟨(some 7), (.call 49 [(.t 6)]), none, 0, false, []⟩,
    ⟨(some 8), (.call 70 [(.t 5), (.t 7), (.c (.bool true))]), none, 0, false, []⟩,
    ⟨none, (.store 5 (.t 4) (.t 8)), none, 0, false, []⟩] false
def a32_2 : AC := .seq a32_1 .ret
def a32_3 : AC := .seq a32_0 a32_2
def af32 : AF := { ntmps := 9, res := [(.cell 4 true 5)], body := a32_3 }
theorem tr32 : trF Tryz.prog Tryz.f32 = some af32 := by kernel_rfl
attribute [go_sem] af32 a32_0 a32_1 a32_2 a32_3
def a70_0 : AC := .reg [⟨(some 4), (.box (.t 1)), none, 0, false, []⟩,
    ⟨(some 6), (.new [(.int .i64 0), (.int .i64 0), (.int .i64 0), (.int .i64 0), .nils]), none, 0, false, []⟩] false
def a70_1 : AC := .reg [⟨(some 11), (.mv (.t 0)), none, 0, false, []⟩,
    ⟨(some 12), (.len false (.t 11)), none, 0, false, []⟩,
    ⟨(some 13), (.mk 5 56 [(.int .i64 0), (.int .i64 0), (.int .i64 0), (.int .i64 0), .nils] (.c (.int .i64 0)) (.t 12)), none, 0, false, []⟩,
    ⟨(some 7), (.mv (.t 13)), none, 0, false, []⟩] false
def a70_2 : AC := .reg [⟨(some 14), (.mv (.t 0)), none, 0, false, []⟩,
    ⟨(some 15), (.len false (.t 14)), none, 0, false, []⟩,
    ⟨(some 16), (.bin 0 .sub (.t 15) (.c (.int .i64 1))), none, 0, false, []⟩,
    ⟨(some 8), (.mv (.t 16)), none, 0, false, []⟩] false
def a70_3 : AC := .reg [⟨(some 17), (.mv (.t 8)), none, 0, false, []⟩,
    ⟨(some 18), (.bin 0 .geq (.t 17) (.c (.int .i64 0))), none, 0, false, []⟩] false
def a70_4 : AC := .cond (.t 18) .skip (.exit 0)
def a70_5 : AC := .seq a70_3 a70_4
def a70_6 : AC := .reg [⟨(some 21), (.mv (.t 2)), none, 0, false, []⟩] false
def a70_7 : AC := .reg [⟨(some 22), (.mv (.t 7)), none, 0, false, []⟩,
    ⟨(some 23), (.mv (.t 0)), none, 0, false, []⟩,
    ⟨(some 24), (.mv (.t 8)), none, 0, false, []⟩,
    ⟨(some 25), (.iad 26 (.t 23) (.t 24)), none, 0, false, []⟩,
    ⟨(some 26), (.fad 16 (.t 25)), none, 0, false, []⟩,
    ⟨(some 27), (.load true 5 (.t 26)), none, 0, false, []⟩,
    ⟨(some 28), (.bslice 5 [(.t 27)]), none, 0, false, []⟩,
    ⟨(some 29), (.app 5 56 (.t 22) (.t 28)), none, 0, false, []⟩,
    ⟨(some 7), (.mv (.t 29)), none, 0, false, []⟩] false
def a70_8 : AC := .reg [⟨(some 30), (.mv (.t 7)), none, 0, false, []⟩,
    ⟨(some 31), (.mv (.t 0)), none, 0, false, []⟩,
    ⟨(some 32), (.mv (.t 8)), none, 0, false, []⟩,
    ⟨(some 33), (.iad 26 (.t 31) (.t 32)), none, 0, false, []⟩,
    ⟨(some 34), (.fad 11 (.t 33)), none, 0, false, []⟩,
    ⟨(some 35), (.load true 5 (.t 34)), none, 0, false, []⟩,
    ⟨(some 36), (.bslice 5 [(.t 35)]), none, 0, false, []⟩,
    ⟨(some 37), (.app 5 56 (.t 30) (.t 36)), none, 0, false, []⟩,
    ⟨(some 7), (.mv (.t 37)), none, 0, false, []⟩] false
def a70_9 : AC := .cond (.t 21) a70_7 a70_8
def a70_10 : AC := .seq a70_6 a70_9
def a70_11 : AC := .blk 1 a70_10
def a70_12 : AC := .reg [⟨(some 19), (.mv (.t 8)), none, 0, false, []⟩,
    ⟨(some 20), (.bin 0 .sub (.t 19) (.c (.int .i64 1))), none, 0, false, []⟩,
    ⟨(some 8), (.mv (.t 20)), none, 0, false, []⟩] false
def a70_13 : AC := .seq a70_11 a70_12
def a70_14 : AC := .seq a70_5 a70_13
def a70_15 : AC := .loop a70_14
def a70_16 : AC := .blk 0 a70_15
def a70_17 : AC := .seq a70_2 a70_16
def a70_18 : AC := .reg [⟨(some 39), (.load true 5 (.t 4)), none, 0, false, []⟩,
    ⟨(some 40), (.mv (.t 7)), none, 0, false, []⟩,
    ⟨(some 41), (.call 100 [(.t 39), (.t 40)]), none, 0, false, []⟩,
    ⟨(some 38), (.mv (.t 41)), none, 0, false, []⟩,
    ⟨(some 42), (.ext (.t 38) 0), none, 0, false, []⟩,
    ⟨(some 43), (.ext (.t 38) 1), none, 0, false, []⟩,
    ⟨(some 9), (.new [(.int .i64 0), (.int .i64 0), (.int .i64 0), (.int .i64 0), .nils]), none, 0, false, []⟩,
    ⟨none, (.store 5 (.t 9) (.t 42)), none, 0, false, []⟩,
    ⟨(some 10), (.mv (.t 43)), none, 0, false, []⟩] false
def a70_19 : AC := .reg [⟨(some 44), (.load true 5 (.t 9)), none, 0, false, []⟩,
    ⟨none, (.store 5 (.t 6) (.t 44)), none, 0, false, []⟩] false
def a70_20 : AC := .seq a70_19 .ret
def a70_21 : AC := .seq a70_18 a70_20
def a70_22 : AC := .seq a70_17 a70_21
def a70_23 : AC := .seq a70_1 a70_22
def a70_24 : AC := .seq a70_0 a70_23
def af70 : AF := { ntmps := 45, res := [(.cell 6 true 5)], body := a70_24 }
theorem tr70 : trF Tryz.prog Tryz.f70 = some af70 := by kernel_rfl
attribute [go_sem] af70 a70_0 a70_1 a70_2 a70_3 a70_4 a70_5 a70_6 a70_7 a70_8 a70_9 a70_10 a70_11 a70_12 a70_13 a70_14 a70_15 a70_16 a70_17 a70_18 a70_19 a70_20 a70_21 a70_22 a70_23 a70_24
def a35_0 : AC := .reg [⟨(some 4), (.box (.t 1)), none, 0, false, []⟩,
    ⟨(some 5), (.box (.t 2)), none, 0, false, []⟩,
    ⟨(some 6), (.new [(.int .i64 0), (.int .i64 0), (.int .i64 0), (.int .i64 0), .nils]), none, 0, false, []⟩] false
def a35_1 : AC := .reg [⟨(some 12), (.load true 5 (.t 4)), none, 0, false, []⟩,
    ⟨(some 13), (.call 33 [(.t 12), (.c (.int .i64 2)), (.c (.int .i64 0))]), none, 0, false, []⟩,
    ⟨(some 11), (.mv (.t 13)), none, 0, false, []⟩,
    ⟨(some 14), (.ext (.t 11) 0), none, 0, false, []⟩,
    ⟨(some 15), (.ext (.t 11) 1), none, 0, false, []⟩,
    ⟨(some 7), (.new [(.int .i64 0), (.int .i64 0), (.int .i64 0), (.int .i64 0), .nils]), none, 0, false, []⟩,
    ⟨none, (.store 5 (.t 7) (.t 14)), none, 0, false, []⟩,
    ⟨(some 8), (.mv (.t 15)), none, 0, false, []⟩] false
def a35_2 : AC := .reg [⟨(some 17), (.load true 5 (.t 5)), none, 0, false, []⟩,
    ⟨(some 18), (.call 33 [(.t 17), (.c (.int .i64 2)), (.c (.int .i64 0))]), none, 0, false, []⟩,
    ⟨(some 16), (.mv (.t 18)), none, 0, false, []⟩,
    ⟨(some 19), (.ext (.t 16) 0), none, 0, false, []⟩,
    ⟨(some 20), (.ext (.t 16) 1), none, 0, false, []⟩,
    ⟨(some 9), (.new [(.int .i64 0), (.int .i64 0), (.int .i64 0), (.int .i64 0), .nils]), none, 0, false, []⟩,
    ⟨none, (.store 5 (.t 9) (.t 19)), none, 0, false, []⟩,
    ⟨(some 10), (.mv (.t 20)), none, 0, false, []⟩] false
def a35_3 : AC := .reg [⟨(some 21), (.mv (.t 0)), none, 0, false, []⟩,
    ⟨(some 22), (.load true 5 (.t 7)), none, 1, true, []⟩,
    ⟨(some 23), (.load true 5 (.t 9)), none, 2, true, []⟩,
    ⟨(some 24), (.call 50 [(.c (.int .i64 1))]), none, 3, false, [1, 2]⟩,
    ⟨(some 25), (.call 50 [(.c (.int .i64 0))]), none, 4, false, [1, 2]⟩,
    ⟨(some 26), (.bslice 5 [(.t 22), (.t 23), (.t 24), (.t 25)]), none, 5, false, []⟩,
    ⟨(some 27), (.call 58 [(.c (.int .i64 23)), (.t 21), (.c (.int .i64 0)), (.c (.int .i64 6)), (.t 26)]), none, 6, false, []⟩,
    ⟨none, (.store 5 (.t 6) (.t 27)), none, 7, false, []⟩] true
def a35_4 : AC := .seq a35_3 .ret
def a35_5 : AC := .seq a35_2 a35_4
def a35_6 : AC := .seq a35_1 a35_5
def a35_7 : AC := .seq a35_0 a35_6
def af35 : AF := { ntmps := 28, res := [(.cell 6 true 5)], body := a35_7 }
theorem tr35 : trF Tryz.prog Tryz.f35 = some af35 := by kernel_rfl
attribute [go_sem] af35 a35_0 a35_1 a35_2 a35_3 a35_4 a35_5 a35_6 a35_7
def a36_0 : AC := .reg [⟨(some 6), (.box (.t 2)), none, 0, false, []⟩,
    ⟨(some 7), (.box (.t 3)), none, 0, false, []⟩,
    ⟨(some 8), (.mv (.c .nils)), none, 0, false, []⟩] false
def a36_1 : AC := .reg [⟨(some 16), (.mv (.t 0)), none, 0, false, []⟩,
    ⟨(some 17), (.len false (.t 16)), none, 0, false, []⟩,
    ⟨(some 18), (.bin 0 .add (.t 17) (.c (.int .i64 1))), none, 0, false, []⟩,
    ⟨(some 19), (.mk 26 288 [(.int .i64 0), (.int .i64 0), (.int .i64 0), (.int .i64 0), (.int .i64 0), .nils, (.int .i64 0), (.int .i64 0), (.int .i64 0), (.int .i64 0), .nils, (.int .i64 0), (.int .i64 0), (.int .i64 0), (.int .i64 0), .nils, (.int .i64 0), (.int .i64 0), (.int .i64 0), (.int .i64 0), .nils, (.int .i64 0), (.int .i64 0), (.int .i64 0), (.int .i64 0), .nils] (.c (.int .i64 0)) (.t 18)), none, 0, false, []⟩,
    ⟨(some 9), (.mv (.t 19)), none, 0, false, []⟩] false
def a36_2 : AC := .reg [⟨(some 20), (.mv (.t 0)), none, 0, false, []⟩,
    ⟨(some 21), (.len false (.t 20)), none, 0, false, []⟩,
    ⟨(some 22), (.mv (.c (.int .i64 0))), none, 0, false, []⟩] false
def a36_3 : AC := .reg [⟨(some 23), (.bin 0 .lss (.t 22) (.t 21)), none, 0, false, []⟩] false
def a36_4 : AC := .cond (.t 23) .skip (.exit 0)
def a36_5 : AC := .reg [⟨(some 24), (.iad 26 (.t 20) (.t 22)), none, 0, false, []⟩,
    ⟨(some 25), (.load true 26 (.t 24)), none, 0, false, []⟩,
    ⟨(some 11), (.new [(.int .i64 0), (.int .i64 0), (.int .i64 0), (.int .i64 0), (.int .i64 0), .nils, (.int .i64 0), (.int .i64 0), (.int .i64 0), (.int .i64 0), .nils, (.int .i64 0), (.int .i64 0), (.int .i64 0), (.int .i64 0), .nils, (.int .i64 0), (.int .i64 0), (.int .i64 0), (.int .i64 0), .nils, (.int .i64 0), (.int .i64 0), (.int .i64 0), (.int .i64 0), .nils]), none, 0, false, []⟩,
    ⟨none, (.store 26 (.t 11) (.t 25)), none, 0, false, []⟩] false
def a36_6 : AC := .reg [⟨(some 26), (.mv (.t 9)), none, 0, false, []⟩,
    ⟨(some 27), (.load true 26 (.t 11)), none, 0, false, []⟩,
    ⟨(some 28), (.call 72 [(.t 27), (.c (.int .i64 3))]), none, 0, false, []⟩,
    ⟨(some 29), (.bslice 26 [(.t 28)]), none, 0, false, []⟩,
    ⟨(some 30), (.app 26 288 (.t 26) (.t 29)), none, 0, false, []⟩,
    ⟨(some 9), (.mv (.t 30)), none, 0, false, []⟩] false
def a36_7 : AC := .seq a36_5 a36_6
def a36_8 : AC := .blk 1 a36_7
def a36_9 : AC := .reg [⟨(some 31), (.bin 0 .add (.t 22) (.c (.int .i64 1))), none, 0, false, []⟩,
    ⟨(some 22), (.mv (.t 31)), none, 0, false, []⟩] false
def a36_10 : AC := .seq a36_8 a36_9
def a36_11 : AC := .seq a36_4 a36_10
def a36_12 : AC := .seq a36_3 a36_11
def a36_13 : AC := .loop a36_12
def a36_14 : AC := .blk 0 a36_13
def a36_15 : AC := .seq a36_2 a36_14
def a36_16 : AC := .reg [⟨(some 33), (.load true 5 (.t 6)), none, 0, false, []⟩,
    ⟨(some 34), (.call 33 [(.t 33), (.c (.int .i64 3)), (.c (.int .i64 0))]), none, 0, false, []⟩,
    ⟨(some 32), (.mv (.t 34)), none, 0, false, []⟩,
    ⟨(some 35), (.ext (.t 32) 0), none, 0, false, []⟩,
    ⟨(some 36), (.ext (.t 32) 1), none, 0, false, []⟩,
    ⟨(some 12), (.new [(.int .i64 0), (.int .i64 0), (.int .i64 0), (.int .i64 0), .nils]), none, 0, false, []⟩,
    ⟨none, (.store 5 (.t 12) (.t 35)), none, 0, false, []⟩,
    ⟨(some 13), (.mv (.t 36)), none, 0, false, []⟩] false
def a36_17 : AC := .reg [⟨(some 38), (.load true 5 (.t 7)), none, 0, false, []⟩,
    ⟨(some 39), (.call 33 [(.t 38), (.c (.int .i64 3)), (.c (.int .i64 0))]), none, 0, false, []⟩,
    ⟨(some 37), (.mv (.t 39)), none, 0, false, []⟩,
    ⟨(some 40), (.ext (.t 37) 0), none, 0, false, []⟩,
    ⟨(some 41), (.ext (.t 37) 1), none, 0, false, []⟩,
    ⟨(some 14), (.new [(.int .i64 0), (.int .i64 0), (.int .i64 0), (.int .i64 0), .nils]), none, 0, false, []⟩,
    ⟨none, (.store 5 (.t 14) (.t 40)), none, 0, false, []⟩,
    ⟨(some 15), (.mv (.t 41)), none, 0, false, []⟩] false
def a36_18 : AC := .reg [⟨(some 42), (.mv (.t 9)), none, 0, false, []⟩,
    ⟨(some 43), (.mv (.t 1)), none, 1, false, []⟩,
    ⟨(some 44), (.load true 5 (.t 12)), none, 2, true, []⟩,
    ⟨(some 45), (.load true 5 (.t 14)), none, 3, true, []⟩,
    ⟨(some 46), (.call 50 [(.c (.int .i64 2))]), none, 4, false, [2, 3]⟩,
    ⟨(some 47), (.call 50 [(.c (.int .i64 1))]), none, 5, false, [2, 3]⟩,
    ⟨(some 48), (.call 50 [(.c (.int .i64 0))]), none, 6, false, [2, 3]⟩,
    ⟨(some 49), (.build [(.int .i64 0), (.int .i64 0), (.int .i64 0), (.int .i64 0), (.int .i64 0), .nils, (.int .i64 0), (.int .i64 0), (.int .i64 0), (.int .i64 0), .nils, (.int .i64 0), (.int .i64 0), (.int .i64 0), (.int .i64 0), .nils, (.int .i64 0), (.int .i64 0), (.int .i64 0), (.int .i64 0), .nils, (.int .i64 0), (.int .i64 0), (.int .i64 0), (.int .i64 0), .nils] [(0, (1, (.t 43))), (1, (5, (.t 44))), (6, (5, (.t 45))), (11, (5, (.t 46))), (16, (5, (.t 47))), (21, (5, (.t 48)))]), none, 7, false, []⟩,
    ⟨(some 50), (.bslice 26 [(.t 49)]), none, 8, false, []⟩,
    ⟨(some 51), (.app 26 288 (.t 42) (.t 50)), none, 9, false, []⟩,
    ⟨(some 8), (.mv (.t 51)), none, 10, false, []⟩] true
def a36_19 : AC := .seq a36_18 .ret
def a36_20 : AC := .seq a36_17 a36_19
def a36_21 : AC := .seq a36_16 a36_20
def a36_22 : AC := .seq a36_15 a36_21
def a36_23 : AC := .seq a36_1 a36_22
def a36_24 : AC := .seq a36_0 a36_23
def af36 : AF := { ntmps := 52, res := [(.t 8)], body := a36_24 }
theorem tr36 : trF Tryz.prog Tryz.f36 = some af36 := by kernel_rfl
attribute [go_sem] af36 a36_0 a36_1 a36_2 a36_3 a36_4 a36_5 a36_6 a36_7 a36_8 a36_9 a36_10 a36_11 a36_12 a36_13 a36_14 a36_15 a36_16 a36_17 a36_18 a36_19 a36_20 a36_21 a36_22 a36_23 a36_24
def a100_0 : AC := .reg [⟨(some 2), (.box (.t 0)), none, 0, false, []⟩,
    ⟨(some 4), (.new [(.int .i64 0), (.int .i64 0), (.int .i64 0), (.int .i64 0), .nils]), none, 0, false, []⟩,
    ⟨(some 5), (.mv (.c (.bool false))), none, 0, false, []⟩] false
def a100_1 : AC := .reg [⟨(some 6), (.load true 5 (.t 2)), none, 0, false, []⟩,
    ⟨(some 7), (.call 88 [(.t 6)]), none, 0, false, []⟩,
    ⟨(some 8), (.un .not (.t 7)), none, 0, false, []⟩] false
def a100_2 : AC := .reg [⟨(some 9), (.build [(.int .i64 0), (.int .i64 0), (.int .i64 0), (.int .i64 0), .nils] []), none, 0, false, []⟩,
    ⟨none, (.store 5 (.t 4) (.t 9)), none, 0, false, []⟩,
    ⟨(some 5), (.mv (.c (.bool false))), none, 0, false, []⟩] false
def a100_3 : AC := .seq a100_2 .ret
def a100_4 : AC := .cond (.t 8) a100_3 .skip
def a100_5 : AC := .seq a100_1 a100_4
def a100_6 : AC := .reg [⟨(some 10), (.load true 5 (.t 2)), none, 0, false, []⟩,
    ⟨(some 11), (.mv (.t 1)), none, 0, false, []⟩,
    ⟨(some 12), (.call 124 [(.t 10), (.t 11), (.c (.bool false))]), none, 0, false, []⟩,
    ⟨(some 13), (.ext (.t 12) 0), none, 0, false, []⟩,
    ⟨(some 14), (.ext (.t 12) 1), none, 0, false, []⟩,
    ⟨none, (.store 5 (.t 4) (.t 13)), none, 0, false, []⟩,
    ⟨(some 5), (.mv (.t 14)), none, 0, false, []⟩] false
def a100_7 : AC := .seq a100_6 .ret
def a100_8 : AC := .seq a100_5 a100_7
def a100_9 : AC := .seq a100_0 a100_8
def af100 : AF := { ntmps := 15, res := [(.cell 4 true 5), (.t 5)], body := a100_9 }
theorem tr100 : trF Tryz.prog Tryz.f100 = some af100 := by kernel_rfl
attribute [go_sem] af100 a100_0 a100_1 a100_2 a100_3 a100_4 a100_5 a100_6 a100_7 a100_8 a100_9
def a62_0 : AC := .reg [⟨(some 1), (.box (.t 0)), none, 0, false, []⟩,
    ⟨(some 2), (.new [(.int .i64 0), (.int .i64 0), (.int .i64 0), (.int .i64 0), .nils]), none, 0, false, []⟩] false
def a62_1 : AC := .reg [⟨(some 6), (.fad 0 (.t 1)), none, 0, false, []⟩,
    ⟨(some 7), (.load false 1 (.t 6)), none, 0, false, []⟩,
    ⟨(some 8), (.bin 0 .eql (.t 7) (.c (.int .i64 12))), none, 0, false, []⟩] false
def a62_2 : AC := .reg [⟨(some 9), (.fad 4 (.t 1)), none, 0, false, []⟩,
    ⟨(some 10), (.load false 1 (.t 9)), none, 0, false, []⟩,
    ⟨(some 11), (.iad 5 (.t 10) (.c (.int .i64 3))), none, 0, false, []⟩,
    ⟨(some 12), (.load true 5 (.t 11)), none, 0, false, []⟩,
    ⟨(some 13), (.call 62 [(.t 12)]), none, 0, false, []⟩,
    ⟨none, (.store 5 (.t 2) (.t 13)), none, 0, false, []⟩] false
def a62_3 : AC := .seq a62_2 .ret
def a62_4 : AC := .cond (.t 8) a62_3 .skip
def a62_5 : AC := .seq a62_1 a62_4
def a62_6 : AC := .reg [⟨(some 14), (.fad 0 (.t 1)), none, 0, false, []⟩,
    ⟨(some 15), (.load false 1 (.t 14)), none, 0, false, []⟩,
    ⟨(some 16), (.fad 1 (.t 1)), none, 0, false, []⟩,
    ⟨(some 17), (.load false 1 (.t 16)), none, 0, false, []⟩,
    ⟨(some 18), (.fad 2 (.t 1)), none, 0, false, []⟩,
    ⟨(some 19), (.load false 1 (.t 18)), none, 0, false, []⟩,
    ⟨(some 20), (.fad 3 (.t 1)), none, 0, false, []⟩,
    ⟨(some 21), (.load false 1 (.t 20)), none, 0, false, []⟩,
    ⟨(some 22), (.build [(.int .i64 0), (.int .i64 0), (.int .i64 0), (.int .i64 0), .nils] [(0, (1, (.t 15))), (1, (1, (.t 17))), (2, (1, (.t 19))), (3, (1, (.t 21)))]), none, 0, false, []⟩,
    ⟨(some 3), (.new [(.int .i64 0), (.int .i64 0), (.int .i64 0), (.int .i64 0), .nils]), none, 0, false, []⟩,
    ⟨none, (.store 5 (.t 3) (.t 22)), none, 0, false, []⟩] false
def a62_7 : AC := .reg [⟨(some 4), (.mv (.c .nils)), none, 0, false, []⟩] false
def a62_8 : AC := .reg [⟨(some 5), (.mv (.c (.int .i64 0))), none, 0, false, []⟩] false
def a62_9 : AC := .reg [⟨(some 23), (.mv (.t 5)), none, 0, false, []⟩,
    ⟨(some 24), (.fad 4 (.t 1)), none, 0, false, []⟩,
    ⟨(some 25), (.load false 1 (.t 24)), none, 0, false, []⟩,
    ⟨(some 26), (.len false (.t 25)), none, 0, false, []⟩,
    ⟨(some 27), (.bin 0 .lss (.t 23) (.t 26)), none, 0, false, []⟩] false
def a62_10 : AC := .cond (.t 27) .skip (.exit 0)
def a62_11 : AC := .seq a62_9 a62_10
def a62_12 : AC := .reg [⟨(some 30), (.mv (.t 4)), none, 0, false, []⟩,
    ⟨(some 31), (.fad 4 (.t 1)), none, 0, false, []⟩,
    ⟨(some 32), (.load false 1 (.t 31)), none, 0, false, []⟩,
    ⟨(some 33), (.mv (.t 5)), none, 0, false, []⟩,
    ⟨(some 34), (.iad 5 (.t 32) (.t 33)), none, 0, false, []⟩,
    ⟨(some 35), (.load true 5 (.t 34)), none, 0, false, []⟩,
    ⟨(some 36), (.call 62 [(.t 35)]), none, 0, false, []⟩,
    ⟨(some 37), (.bslice 5 [(.t 36)]), none, 0, false, []⟩,
    ⟨(some 38), (.app 5 56 (.t 30) (.t 37)), none, 0, false, []⟩,
    ⟨(some 4), (.mv (.t 38)), none, 0, false, []⟩] false
def a62_13 : AC := .blk 1 a62_12
def a62_14 : AC := .reg [⟨(some 28), (.mv (.t 5)), none, 0, false, []⟩,
    ⟨(some 29), (.bin 0 .add (.t 28) (.c (.int .i64 1))), none, 0, false, []⟩,
    ⟨(some 5), (.mv (.t 29)), none, 0, false, []⟩] false
def a62_15 : AC := .seq a62_13 a62_14
def a62_16 : AC := .seq a62_11 a62_15
def a62_17 : AC := .loop a62_16
def a62_18 : AC := .blk 0 a62_17
def a62_19 : AC := .seq a62_8 a62_18
def a62_20 : AC := .reg [⟨(some 39), (.mv (.t 4)), none, 0, false, []⟩,
    ⟨(some 40), (.fad 4 (.t 3)), none, 0, false, []⟩,
    ⟨none, (.store 1 (.t 40) (.t 39)), none, 0, false, []⟩] false
def a62_21 : AC := .reg [⟨(some 41), (.load true 5 (.t 3)), none, 0, false, []⟩,
    ⟨none, (.store 5 (.t 2) (.t 41)), none, 0, false, []⟩] false
def a62_22 : AC := .seq a62_21 .ret
def a62_23 : AC := .seq a62_20 a62_22
def a62_24 : AC := .seq a62_19 a62_23
def a62_25 : AC := .seq a62_7 a62_24
def a62_26 : AC := .seq a62_6 a62_25
def a62_27 : AC := .seq a62_5 a62_26
def a62_28 : AC := .seq a62_0 a62_27
def af62 : AF := { ntmps := 42, res := [(.cell 2 true 5)], body := a62_28 }
theorem tr62 : trF Tryz.prog Tryz.f62 = some af62 := by kernel_rfl
attribute [go_sem] af62 a62_0 a62_1 a62_2 a62_3 a62_4 a62_5 a62_6 a62_7 a62_8 a62_9 a62_10 a62_11 a62_12 a62_13 a62_14 a62_15 a62_16 a62_17 a62_18 a62_19 a62_20 a62_21 a62_22 a62_23 a62_24 a62_25 a62_26 a62_27 a62_28
end Go.Proofs.YtkldipbhenabfaaGreat.Abs

