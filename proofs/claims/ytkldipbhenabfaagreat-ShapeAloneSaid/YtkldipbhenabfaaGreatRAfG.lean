/- The abstract code of functions, printed by program; that it is the translation of the model's code is decided by the kernel. -/
import Derived.Test.YtkldipbhenabfaaGreatREv
import Derived.Test.YtkldipbhenabfaaGreatProg
import Derived.KernelRfl
namespace Go.Proofs.YtkldipbhenabfaaGreat.Abs
open Go Go.Proofs Go.Proofs.YtkldipbhenabfaaGreat
def a130_0 : AC := .reg [⟨(some 6), (.box (.t 1)), none, 0, false, []⟩,
    ⟨(some 7), (.box (.t 2)), none, 0, false, []⟩,
    ⟨(some 8), (.box (.t 3)), none, 0, false, []⟩,
    ⟨(some 9), (.box (.t 4)), none, 0, false, []⟩,
    ⟨(some 10), (.new [(.int .i64 0), (.int .i64 0), (.int .i64 0), (.int .i64 0), (.int .i64 0), .nils, (.int .i64 0), (.int .i64 0), (.int .i64 0), (.int .i64 0), .nils, (.int .i64 0), (.int .i64 0), (.int .i64 0), (.int .i64 0), .nils, (.int .i64 0), (.int .i64 0), (.int .i64 0), (.int .i64 0), .nils, (.int .i64 0), (.int .i64 0), (.int .i64 0), (.int .i64 0), .nils]), none, 0, false, []⟩] false
def a130_1 : AC := .reg [⟨(some 13), (.mv (.t 0)), none, 0, false, []⟩,
    ⟨(some 14), (.call 146 [(.t 13)]), none, 0, false, []⟩,
    ⟨(some 15), (.un .not (.t 14)), none, 0, false, []⟩,
    ⟨(some 16), (.mv (.t 15)), none, 0, false, []⟩,
    ⟨(some 17), (.load true 5 (.t 6)), (some (16, false)), 0, false, []⟩,
    ⟨(some 18), (.load true 5 (.t 7)), (some (16, false)), 0, false, []⟩,
    ⟨(some 19), (.load true 5 (.t 8)), (some (16, false)), 0, false, []⟩,
    ⟨(some 20), (.bslice 5 [(.t 17), (.t 18), (.t 19)]), (some (16, false)), 0, false, []⟩,
    ⟨(some 21), (.call 147 [(.t 20)]), (some (16, false)), 0, false, []⟩,
    ⟨(some 22), (.un .not (.t 21)), (some (16, false)), 0, false, []⟩,
    ⟨(some 23), (.pick (.t 16) (.c (.bool true)) (.t 22)), none, 0, false, []⟩,
    ⟨(some 24), (.mv (.t 23)), none, 0, false, []⟩,
    ⟨(some 25), (.load true 26 (.t 9)), (some (24, false)), 0, false, []⟩,
    ⟨(some 26), (.call 148 [(.t 25)]), (some (24, false)), 0, false, []⟩,
    ⟨(some 27), (.un .not (.t 26)), (some (24, false)), 0, false, []⟩,
    ⟨(some 28), (.pick (.t 24) (.c (.bool true)) (.t 27)), none, 0, false, []⟩] false
def a130_2 : AC := .reg [⟨(some 29), (.build [(.int .i64 0), (.int .i64 0), (.int .i64 0), (.int .i64 0), (.int .i64 0), .nils, (.int .i64 0), (.int .i64 0), (.int .i64 0), (.int .i64 0), .nils, (.int .i64 0), (.int .i64 0), (.int .i64 0), (.int .i64 0), .nils, (.int .i64 0), (.int .i64 0), (.int .i64 0), (.int .i64 0), .nils, (.int .i64 0), (.int .i64 0), (.int .i64 0), (.int .i64 0), .nils] []), none, 0, false, []⟩,
    ⟨none, (.store 26 (.t 10) (.t 29)), none, 0, false, []⟩] false
def a130_3 : AC := .seq a130_2 .ret
def a130_4 : AC := .cond (.t 28) a130_3 .skip
def a130_5 : AC := .seq a130_1 a130_4
def a130_6 : AC := .reg [⟨(some 11), (.mv (.c (.fn 149))), none, 0, false, []⟩] false
def a130_7 : AC := .reg [⟨(some 12), (.mv (.c (.fn 150))), none, 0, false, []⟩] false
def a130_8 : AC := .reg [⟨(some 30), (.mv (.t 0)), none, 0, false, []⟩,
    ⟨(some 31), (.mv (.t 11)), none, 1, false, []⟩,
    ⟨(some 32), (.load true 5 (.t 6)), none, 2, true, []⟩,
    ⟨(some 33), (.fad 11 (.t 9)), none, 3, false, []⟩,
    ⟨(some 34), (.load true 5 (.t 33)), none, 4, true, []⟩,
    ⟨(some 35), (.callv [16, 22, 24, 57, 61, 68, 107, 149, 150, 155, 156, 158, 159] (.t 31) [(.t 32), (.t 34)]), none, 5, true, []⟩,
    ⟨(some 36), (.mv (.t 11)), none, 6, false, []⟩,
    ⟨(some 37), (.load true 5 (.t 7)), none, 7, true, [5]⟩,
    ⟨(some 38), (.fad 16 (.t 9)), none, 8, false, []⟩,
    ⟨(some 39), (.load true 5 (.t 38)), none, 9, true, [5]⟩,
    ⟨(some 40), (.callv [16, 22, 24, 57, 61, 68, 107, 149, 150, 155, 156, 158, 159] (.t 36) [(.t 37), (.t 39)]), none, 10, true, []⟩,
    ⟨(some 41), (.mv (.t 12)), none, 11, false, []⟩,
    ⟨(some 42), (.load true 5 (.t 6)), none, 12, true, [5, 10]⟩,
    ⟨(some 43), (.fad 11 (.t 9)), none, 13, false, []⟩,
    ⟨(some 44), (.load true 5 (.t 43)), none, 14, true, [5, 10]⟩,
    ⟨(some 45), (.callv [16, 22, 24, 57, 61, 68, 107, 149, 150, 155, 156, 158, 159] (.t 41) [(.t 42), (.t 44)]), none, 15, true, []⟩,
    ⟨(some 46), (.mv (.t 12)), none, 16, false, []⟩,
    ⟨(some 47), (.load true 5 (.t 7)), none, 17, true, [5, 10, 15]⟩,
    ⟨(some 48), (.fad 16 (.t 9)), none, 18, false, []⟩,
    ⟨(some 49), (.load true 5 (.t 48)), none, 19, true, [5, 10, 15]⟩,
    ⟨(some 50), (.callv [16, 22, 24, 57, 61, 68, 107, 149, 150, 155, 156, 158, 159] (.t 46) [(.t 47), (.t 49)]), none, 20, true, []⟩,
    ⟨(some 51), (.mv (.t 0)), none, 21, false, []⟩,
    ⟨(some 52), (.load true 5 (.t 6)), none, 22, false, [5, 10, 15, 20]⟩,
    ⟨(some 53), (.load true 5 (.t 7)), none, 23, false, [5, 10, 15, 20]⟩,
    ⟨(some 54), (.load true 5 (.t 8)), none, 24, false, [5, 10, 15, 20]⟩,
    ⟨(some 55), (.fad 11 (.t 9)), none, 25, false, []⟩,
    ⟨(some 56), (.load true 5 (.t 55)), none, 26, false, [5, 10, 15, 20]⟩,
    ⟨(some 57), (.fad 16 (.t 9)), none, 27, false, []⟩,
    ⟨(some 58), (.load true 5 (.t 57)), none, 28, false, [5, 10, 15, 20]⟩,
    ⟨(some 59), (.fad 21 (.t 9)), none, 29, false, []⟩,
    ⟨(some 60), (.load true 5 (.t 59)), none, 30, false, [5, 10, 15, 20]⟩,
    ⟨(some 61), (.bslice 5 [(.t 52), (.t 53), (.t 54), (.t 56), (.t 58), (.t 60)]), none, 31, false, [2, 4, 5, 7, 9, 10, 12, 14, 15, 17, 19, 20]⟩,
    ⟨(some 62), (.call 58 [(.c (.int .i64 23)), (.t 51), (.c (.int .i64 0)), (.c (.int .i64 21)), (.t 61)]), none, 32, false, []⟩,
    ⟨(some 63), (.call 151 [(.t 30), (.t 35), (.t 40), (.t 45), (.t 50), (.t 62)]), none, 33, false, []⟩,
    ⟨none, (.store 26 (.t 10) (.t 63)), none, 34, false, []⟩] true
def a130_9 : AC := .seq a130_8 .ret
def a130_10 : AC := .seq a130_7 a130_9
def a130_11 : AC := .seq a130_6 a130_10
def a130_12 : AC := .seq a130_5 a130_11
def a130_13 : AC := .seq a130_0 a130_12
def af130 : AF := { ntmps := 64, res := [(.cell 10 true 26)], body := a130_13 }
theorem tr130 : trF Tryz.prog Tryz.f130 = some af130 := by kernel_rfl
attribute [go_sem] af130 a130_0 a130_1 a130_2 a130_3 a130_4 a130_5 a130_6 a130_7 a130_8 a130_9 a130_10 a130_11 a130_12 a130_13
def a149_0 : AC := .reg [⟨(some 2), (.box (.t 0)), none, 0, false, []⟩,
    ⟨(some 3), (.box (.t 1)), none, 0, false, []⟩,
    ⟨(some 4), (.new [(.int .i64 0), (.int .i64 0), (.int .i64 0), (.int .i64 0), .nils]), none, 0, false, []⟩] false
def a149_1 : AC := .reg [⟨(some 5), (.load true 5 (.t 2)), none, 0, false, []⟩,
    ⟨(some 6), (.load true 5 (.t 3)), none, 0, false, []⟩,
    ⟨(some 7), (.load true 5 (.t 3)), none, 0, false, []⟩,
    ⟨(some 8), (.bslice 5 [(.t 5), (.t 6), (.t 7)]), none, 0, false, []⟩,
    ⟨(some 9), (.call 58 [(.c (.int .i64 20)), (.c (.int .i64 0)), (.c (.int .i64 0)), (.c (.int .i64 0)), (.t 8)]), none, 0, false, []⟩,
    ⟨none, (.store 5 (.t 4) (.t 9)), none, 0, false, []⟩] false
def a149_2 : AC := .seq a149_1 .ret
def a149_3 : AC := .seq a149_0 a149_2
def af149 : AF := { ntmps := 10, res := [(.cell 4 true 5)], body := a149_3 }
theorem tr149 : trF Tryz.prog Tryz.f149 = some af149 := by kernel_rfl
attribute [go_sem] af149 a149_0 a149_1 a149_2 a149_3
def a150_0 : AC := .reg [⟨(some 2), (.box (.t 0)), none, 0, false, []⟩,
    ⟨(some 3), (.box (.t 1)), none, 0, false, []⟩,
    ⟨(some 4), (.new [(.int .i64 0), (.int .i64 0), (.int .i64 0), (.int .i64 0), .nils]), none, 0, false, []⟩] false
def a150_1 : AC := .reg [⟨(some 5), (.load true 5 (.t 2)), none, 0, false, []⟩,
    ⟨(some 6), (.load true 5 (.t 3)), none, 0, false, []⟩,
    ⟨(some 7), (.bslice 5 [(.t 5), (.t 6)]), none, 0, false, []⟩,
    ⟨(some 8), (.call 58 [(.c (.int .i64 21)), (.c (.int .i64 0)), (.c (.int .i64 0)), (.c (.int .i64 0)), (.t 7)]), none, 0, false, []⟩,
    ⟨none, (.store 5 (.t 4) (.t 8)), none, 0, false, []⟩] false
def a150_2 : AC := .seq a150_1 .ret
def a150_3 : AC := .seq a150_0 a150_2
def af150 : AF := { ntmps := 9, res := [(.cell 4 true 5)], body := a150_3 }
theorem tr150 : trF Tryz.prog Tryz.f150 = some af150 := by kernel_rfl
attribute [go_sem] af150 a150_0 a150_1 a150_2 a150_3
end Go.Proofs.YtkldipbhenabfaaGreat.Abs

