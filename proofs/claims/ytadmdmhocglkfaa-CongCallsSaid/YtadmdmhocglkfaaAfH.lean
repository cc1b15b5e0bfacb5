/- The abstract code of functions, printed by program; that it is the translation of the model's code is decided by the kernel. -/
import Derived.Test.YtadmdmhocglkfaaEv
import Derived.Test.YtadmdmhocglkfaaProg
import Derived.KernelRfl
namespace Go.Proofs.Ytadmdmhocglkfaa.Abs
open Go Go.Proofs Go.Proofs.Ytadmdmhocglkfaa
def a11_0 : AC := .reg [⟨(some 7), (.box (.t 1)), none, 0, false, []⟩,
    ⟨(some 8), (.box (.t 2)), none, 0, false, []⟩,
    ⟨(some 9), (.box (.t 3)), none, 0, false, []⟩,
    ⟨(some 10), (.box (.t 4)), none, 0, false, []⟩,
    ⟨(some 11), (.box (.t 5)), none, 0, false, []⟩,
    ⟨(some 12), (.mv (.c (.bool false))), none, 0, false, []⟩] false
def a11_1 : AC := .reg [⟨(some 13), (.build [(.int .i64 0), (.int .i64 0), (.int .i64 0), (.int .i64 0), (.int .i64 0), (.int .i64 0), .nils, (.int .i64 0), (.int .i64 0), (.int .i64 0), (.int .i64 0), .nils, (.int .i64 0), (.int .i64 0), (.int .i64 0), (.int .i64 0), .nils, (.int .i64 0), (.int .i64 0), (.int .i64 0), (.int .i64 0), .nils, (.int .i64 0), (.int .i64 0), (.int .i64 0), (.int .i64 0), .nils, (.int .i64 0), (.int .i64 0), (.int .i64 0), (.int .i64 0), .nils] []), none, 0, false, []⟩,
    ⟨(some 14), (.load true 26 (.t 10)), none, 0, false, []⟩,
    ⟨(some 15), (.load true 26 (.t 11)), none, 0, false, []⟩,
    ⟨(some 16), (.bslice 26 [(.t 14), (.t 15)]), none, 0, false, []⟩,
    ⟨(some 17), (.call 42 [(.t 13), (.t 16)]), none, 0, false, []⟩,
    ⟨(some 18), (.mv (.t 17)), none, 0, false, []⟩,
    ⟨(some 19), (.load true 5 (.t 7)), (some (18, false)), 0, false, []⟩,
    ⟨(some 20), (.load true 5 (.t 8)), (some (18, false)), 0, false, []⟩,
    ⟨(some 21), (.load true 5 (.t 9)), (some (18, false)), 0, false, []⟩,
    ⟨(some 22), (.bslice 5 [(.t 19), (.t 20), (.t 21)]), (some (18, false)), 0, false, []⟩,
    ⟨(some 23), (.call 43 [(.t 22), (.c (.int .i64 120))]), (some (18, false)), 0, false, []⟩,
    ⟨(some 24), (.pick (.t 18) (.c (.bool true)) (.t 23)), none, 0, false, []⟩] false
def a11_2 : AC := .reg [⟨(some 12), (.mv (.c (.bool true))), none, 0, false, []⟩] false
def a11_3 : AC := .seq a11_2 .ret
def a11_4 : AC := .cond (.t 24) a11_3 .skip
def a11_5 : AC := .seq a11_1 a11_4
def a11_6 : AC := .reg [⟨(some 25), (.mv (.t 0)), none, 0, false, []⟩,
    ⟨(some 26), (.load true 5 (.t 7)), none, 1, true, []⟩,
    ⟨(some 27), (.load true 5 (.t 8)), none, 2, true, []⟩,
    ⟨(some 28), (.load true 5 (.t 9)), none, 3, true, []⟩,
    ⟨(some 29), (.load true 26 (.t 10)), none, 4, false, []⟩,
    ⟨(some 30), (.call 54 [(.t 29)]), none, 5, true, [1, 2, 3]⟩,
    ⟨(some 31), (.load true 26 (.t 11)), none, 6, false, [5]⟩,
    ⟨(some 32), (.call 54 [(.t 31)]), none, 7, true, [1, 2, 3]⟩,
    ⟨(some 33), (.call 53 [(.t 25), (.t 26), (.t 27), (.t 28), (.t 30), (.t 32)]), none, 8, true, []⟩,
    ⟨(some 34), (.mv (.t 0)), none, 9, false, []⟩,
    ⟨(some 35), (.load true 5 (.t 7)), none, 10, false, [5, 7, 8]⟩,
    ⟨(some 36), (.load true 5 (.t 8)), none, 11, false, [5, 7, 8]⟩,
    ⟨(some 37), (.load true 5 (.t 9)), none, 12, false, [5, 7, 8]⟩,
    ⟨(some 38), (.load true 26 (.t 10)), none, 13, false, [5, 7, 8]⟩,
    ⟨(some 39), (.load true 26 (.t 11)), none, 14, false, [5, 7, 8]⟩,
    ⟨(some 40), (.call 55 [(.t 34), (.t 35), (.t 36), (.t 37), (.t 38), (.t 39)]), none, 15, false, []⟩,
    ⟨(some 41), (.call 30 [(.t 33), (.t 40)]), none, 16, false, []⟩,
    ⟨(some 42), (.mv (.t 41)), none, 17, false, []⟩,
    ⟨(some 43), (.mv (.t 0)), (some (42, true)), 18, false, []⟩,
    ⟨(some 44), (.load true 5 (.t 7)), (some (42, true)), 19, true, []⟩,
    ⟨(some 45), (.load true 5 (.t 8)), (some (42, true)), 20, true, []⟩,
    ⟨(some 46), (.load true 5 (.t 9)), (some (42, true)), 21, true, []⟩,
    ⟨(some 47), (.load true 26 (.t 10)), (some (42, true)), 22, false, []⟩,
    ⟨(some 48), (.call 54 [(.t 47)]), (some (42, true)), 23, true, [19, 20, 21]⟩,
    ⟨(some 49), (.call 56 [(.t 43), (.t 44), (.t 45), (.t 46), (.t 48)]), (some (42, true)), 24, true, []⟩,
    ⟨(some 50), (.mv (.t 0)), (some (42, true)), 25, false, []⟩,
    ⟨(some 51), (.load true 5 (.t 7)), (some (42, true)), 26, false, [23, 24]⟩,
    ⟨(some 52), (.load true 5 (.t 8)), (some (42, true)), 27, false, [23, 24]⟩,
    ⟨(some 53), (.load true 5 (.t 9)), (some (42, true)), 28, false, [23, 24]⟩,
    ⟨(some 54), (.load true 26 (.t 10)), (some (42, true)), 29, false, [23, 24]⟩,
    ⟨(some 55), (.call 57 [(.t 50), (.t 51), (.t 52), (.t 53), (.t 54)]), (some (42, true)), 30, false, []⟩,
    ⟨(some 56), (.call 49 [(.t 49), (.t 55)]), (some (42, true)), 31, false, []⟩,
    ⟨(some 57), (.pick (.t 42) (.t 56) (.c (.bool false))), none, 32, false, []⟩,
    ⟨(some 58), (.mv (.t 57)), none, 33, false, []⟩,
    ⟨(some 59), (.call 52 []), (some (58, true)), 34, false, []⟩,
    ⟨(some 60), (.pick (.t 58) (.t 59) (.c (.bool false))), none, 35, false, []⟩,
    ⟨(some 12), (.mv (.t 60)), none, 36, false, []⟩] true
def a11_7 : AC := .seq a11_6 .ret
def a11_8 : AC := .seq a11_5 a11_7
def a11_9 : AC := .seq a11_0 a11_8
def af11 : AF := { ntmps := 61, res := [(.t 12)], body := a11_9 }
theorem tr11 : trF Try.prog Try.f11 = some af11 := by kernel_rfl
attribute [go_sem] af11 a11_0 a11_1 a11_2 a11_3 a11_4 a11_5 a11_6 a11_7 a11_8 a11_9
end Go.Proofs.Ytadmdmhocglkfaa.Abs
